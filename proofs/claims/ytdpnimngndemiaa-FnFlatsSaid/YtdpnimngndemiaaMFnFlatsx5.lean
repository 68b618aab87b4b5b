/- Functions of the program as Lean functions, and the proof that a call comes to just these: machine text of this session's own program (myprint.py). -/
import Derived.Test.YtdpnimngndemiaaMFnFlatsx0
import Derived.Test.YtdpnimngndemiaaMFnFlatsx1
import Derived.Test.YtdpnimngndemiaaMFnFlatsx2
import Derived.Test.YtdpnimngndemiaaMFnFlatsx3
import Derived.Test.YtdpnimngndemiaaMFnFlatsx4
namespace Go.Proofs.Ytdpnimngndemiaa.MFnFlats
open Go.RowKit Go.Proofs.YtdpnimngndemiaaW.PrintWords Go.Proofs.YtdpnimngndemiaaW.PrintLast Go.Proofs.YtdpnimngndemiaaW.PrintMore
attribute [local go_sem] max2_int min2_int max_two min_two max_three min_three max_four min_four   -- for this text's walks alone
set_option linter.unusedVariables false
set_option linter.unusedSimpArgs false

attribute [local go_sem high] eqA46
theorem x5_put {P : Prop} (h : P := by simp only [Act.put, List.setIfInBounds_toArray, List.set_cons_zero, List.set_cons_succ, i64_w, i32_w]; rfl) : P := h
theorem z5_1 {P : Prop} (h : P := by repeat (first | (with_reducible first | exact HB.out | apply below_alloc | apply pw_below_drewN | apply below_drew1 | refine below_set ?_ GE140.out) | exact HB.out)) : P := h
theorem z5_2 {P : Prop} (h : P := by first | (rw [hy_]; with_reducible exact H) | (have H2_ := (Option.bind_some _ _).symm.trans H; rw [hy_]; with_reducible exact H2_) | (have H2_ := (Option.bind_some _ _).symm.trans H; with_reducible exact H2_) | with_reducible exact H | (rw [hy_]; exact H) | exact H) : P := h
theorem z5_3 {P : Prop} (h : P := by (try simp only [List.map_toArray, List.map_cons, List.map_nil]); first | done | rfl | (simp only [List.length_drop, List.length_take]; rfl)) : P := h
theorem z5_4 {P : Prop} (h : P := by repeat (first | (with_reducible first | exact HB.out | apply below_alloc | apply pw_below_drewN | apply below_drew1 | refine below_set ?_ GE140.out | refine below_set ?_ GE174.out) | exact HB.out)) : P := h
theorem z5_5 {P : Prop} (h : P := by repeat (first | (with_reducible first | exact HB.out | apply below_alloc | apply pw_below_drewN | apply below_drew1 | refine below_set ?_ GE140.out | refine below_set ?_ GE185.out) | exact HB.out)) : P := h
theorem z5_6 {P : Prop} (h : P := by repeat (first | (with_reducible first | exact HB.out | apply below_alloc | apply pw_below_drewN | apply below_drew1) | exact HB.out)) : P := h
theorem z5_7 {P : Prop} (h : P := by (with_reducible repeat (first | apply Kd.S_alloc | apply Kd.S_drewN | apply Kd.S_drew)); exact Kd.S_mono HO_3.out (fun _ hk => ⟨hk.2, hk.1⟩)) : P := h
theorem z5_8 {P : Prop} (h : P := by (with_reducible repeat (first | apply Kd.S_alloc | apply Kd.S_drewN | apply Kd.S_drew)); exact Kd.S_mono HO_3.out (fun _ hk => hk.2)) : P := h
theorem z5_9 {P : Prop} (h : P := by first | rfl | (simp [errW_none, errW_some] <;> rfl) | (simp [*, errW_none, errW_some] <;> rfl)) : P := h
theorem z5_10 {P : Prop} (h : P := by repeat (first | exact (Kd.C_below HR0_0.out HB.out) | (with_reducible refine Kd.C_alloc ?_ _) | (with_reducible refine Kd.C_drewN ?_ _) | (with_reducible refine Kd.C_drew ?_))) : P := h
theorem z5_11 {P : Prop} (h : P := by repeat (first | exact (Kd.C_below HR0_1.out HB.out) | (with_reducible refine Kd.C_alloc ?_ _) | (with_reducible refine Kd.C_drewN ?_ _) | (with_reducible refine Kd.C_drew ?_))) : P := h
theorem z5_12 {P : Prop} (h : P := by (with_reducible repeat (first | apply Kd.S_alloc | apply Kd.S_drewN | apply Kd.S_drew)); exact Kd.S_mono HO_3.out (fun k_ hk => ⟨trivial, fun e_ => hk e_⟩)) : P := h
theorem z5_13 {P : Prop} (h : P := by (with_reducible repeat (first | apply Kd.S_alloc | apply Kd.S_drewN | apply Kd.S_drew)); exact Kd.S_mono HO_3.out (fun _ hk => ⟨trivial, hk⟩)) : P := h
theorem z5_14 {P : Prop} (h : P := by (with_reducible repeat (first | apply Kd.R_alloc | apply Kd.R_drewN | apply Kd.R_drew)); exact Kd.R_mono HO_4.out (fun _ hk => trivial)) : P := h
theorem z5_15 {P : Prop} (h : P := by (with_reducible repeat (first | apply Kd.S_alloc | apply Kd.S_drewN | apply Kd.S_drew)); exact Kd.S_mono HO_3.out (fun _ hk => hk.1)) : P := h
/-! ### spec_FlatOf: function 6 -/
mutual
def spec_FlatOf.l0 : Nat → List (List (S46)) → List (S46) → Int → Int → List Int → List (S46) → Option ((List (List (S46))))
 | 0, _, _, _, _, _, _ => none
 | k + 1, x3, x4, x5, x6, x141000, x141001 => if x6 < (x141000.length : Int) then (if 0 ≤ x6 then (if (rd x141000 x6) = 1 then (if x6 > 0 then (if x3.length < 5864062014805 then (if 0 ≤ x5 then (if x5 < (x141001.length : Int) then ((spec_NeedOf.f (rd x141000 x6)).bind fun t160 => (spec_FlatOf.l0 k (x3 ++ [x4]) (([(⟨(rd_T46 x141001 x5).f0, (rd_T46 x141001 x5).f1⟩ : S46)] : List (S46))) (wrap64 (x5 + t160)) (wrap64 (x6 + 1)) x141000 x141001)) else (none)) else (none)) else (none)) else (if 0 ≤ x5 then (if x5 < (x141001.length : Int) then ((spec_NeedOf.f (rd x141000 x6)).bind fun t166 => (spec_FlatOf.l0 k x3 (([(⟨(rd_T46 x141001 x5).f0, (rd_T46 x141001 x5).f1⟩ : S46)] : List (S46))) (wrap64 (x5 + t166)) (wrap64 (x6 + 1)) x141000 x141001)) else (none)) else (none))) else (if (rd x141000 x6) = 2 then (if 0 ≤ x5 then (if x5 < (x141001.length : Int) then (if x4.length < 8796093022208 then ((spec_NeedOf.f (rd x141000 x6)).bind fun t172 => (spec_FlatOf.l0 k x3 (x4 ++ [(⟨(rd_T46 x141001 x5).f0, (rd_T46 x141001 x5).f1⟩ : S46)]) (wrap64 (x5 + t172)) (wrap64 (x6 + 1)) x141000 x141001)) else (none)) else (none)) else (none)) else (if (rd x141000 x6) = 3 then (if 0 ≤ (wrap64 ((x4.length : Int) - 1)) then (if (wrap64 ((x4.length : Int) - 1)) < (x4.length : Int) then (spec_FlatOf.l1 k x3 x4 x5 x6 1 x141000 x141001 ((rd_T46 x4 (wrap64 ((x4.length : Int) - 1))).f0) ((rd_T46 x4 (wrap64 ((x4.length : Int) - 1))).f1)) else (none)) else (none)) else (if (rd x141000 x6) = 4 then (if 0 ≤ (wrap64 ((x4.length : Int) - 1)) then (if (wrap64 ((x4.length : Int) - 1)) < (x4.length : Int) then (spec_FlatOf.l2 k x3 x4 x5 x6 1 x141000 x141001 ((rd_T46 x4 (wrap64 ((x4.length : Int) - 1))).f0) ((rd_T46 x4 (wrap64 ((x4.length : Int) - 1))).f1)) else (none)) else (none)) else (if (rd x141000 x6) = 5 then (if 0 < (x4.length : Int) then (if 0 ≤ (wrap64 ((x4.length : Int) - 1)) then (if (wrap64 ((x4.length : Int) - 1)) < (x4.length : Int) then (if (!(((rd_T46 x4 0).f0) == ((rd_T46 x4 (wrap64 ((x4.length : Int) - 1))).f0)) || (!(((rd_T46 x4 0).f1) == ((rd_T46 x4 (wrap64 ((x4.length : Int) - 1))).f1)))) = true then (if x4.length < 8796093022208 then ((spec_NeedOf.f (rd x141000 x6)).bind fun t203 => (spec_FlatOf.l0 k x3 (x4 ++ [(⟨(rd_T46 x4 0).f0, (rd_T46 x4 0).f1⟩ : S46)]) (wrap64 (x5 + t203)) (wrap64 (x6 + 1)) x141000 x141001)) else (none)) else ((spec_NeedOf.f (rd x141000 x6)).bind fun t205 => (spec_FlatOf.l0 k x3 x4 (wrap64 (x5 + t205)) (wrap64 (x6 + 1)) x141000 x141001))) else (none)) else (none)) else (none)) else ((spec_NeedOf.f (rd x141000 x6)).bind fun t207 => (spec_FlatOf.l0 k x3 x4 (wrap64 (x5 + t207)) (wrap64 (x6 + 1)) x141000 x141001))))))) else (none)) else (if (x4.length : Int) > 0 then (if x3.length < 5864062014805 then (some (x3 ++ [x4])) else (none)) else (some x3))
def spec_FlatOf.l1 : Nat → List (List (S46)) → List (S46) → Int → Int → Int → List Int → List (S46) → Int → Int → Option ((List (List (S46))))
 | 0, _, _, _, _, _, _, _, _, _ => none
 | k + 1, x3, x4, x5, x6, x8, x141000, x141001, x175000, x175001 => if x8 ≤ 4 then (if 0 ≤ x5 then (if x5 < (x141001.length : Int) then (if 0 ≤ (wrap64 (x5 + 1)) then (if (wrap64 (x5 + 1)) < (x141001.length : Int) then ((spec_QuadAt.f k x175000 x175001 ((rd_T46 x141001 x5).f0) ((rd_T46 x141001 x5).f1) ((rd_T46 x141001 (wrap64 (x5 + 1))).f0) ((rd_T46 x141001 (wrap64 (x5 + 1))).f1) x8).bind fun bt177 => (if x4.length < 8796093022208 then (spec_FlatOf.l1 k x3 (x4 ++ [(⟨bt177.1, bt177.2⟩ : S46)]) x5 x6 (wrap64 (x8 + 1)) x141000 x141001 x175000 x175001) else (none))) else (none)) else (none)) else (none)) else (none)) else (if 0 ≤ x6 then (if x6 < (x141000.length : Int) then ((spec_NeedOf.f (rd x141000 x6)).bind fun t183 => (spec_FlatOf.l0 k x3 x4 (wrap64 (x5 + t183)) (wrap64 (x6 + 1)) x141000 x141001)) else (none)) else (none))
def spec_FlatOf.l2 : Nat → List (List (S46)) → List (S46) → Int → Int → Int → List Int → List (S46) → Int → Int → Option ((List (List (S46))))
 | 0, _, _, _, _, _, _, _, _, _ => none
 | k + 1, x3, x4, x5, x6, x10, x141000, x141001, x186000, x186001 => if x10 ≤ 8 then (if 0 ≤ x5 then (if x5 < (x141001.length : Int) then (if 0 ≤ (wrap64 (x5 + 1)) then (if (wrap64 (x5 + 1)) < (x141001.length : Int) then (if 0 ≤ (wrap64 (x5 + 2)) then (if (wrap64 (x5 + 2)) < (x141001.length : Int) then ((spec_CubicAt.f k x186000 x186001 ((rd_T46 x141001 x5).f0) ((rd_T46 x141001 x5).f1) ((rd_T46 x141001 (wrap64 (x5 + 1))).f0) ((rd_T46 x141001 (wrap64 (x5 + 1))).f1) ((rd_T46 x141001 (wrap64 (x5 + 2))).f0) ((rd_T46 x141001 (wrap64 (x5 + 2))).f1) x10).bind fun bt189 => (if x4.length < 8796093022208 then (spec_FlatOf.l2 k x3 (x4 ++ [(⟨bt189.1, bt189.2⟩ : S46)]) x5 x6 (wrap64 (x10 + 1)) x141000 x141001 x186000 x186001) else (none))) else (none)) else (none)) else (none)) else (none)) else (none)) else (none)) else (if 0 ≤ x6 then (if x6 < (x141000.length : Int) then ((spec_NeedOf.f (rd x141000 x6)).bind fun t195 => (spec_FlatOf.l0 k x3 x4 (wrap64 (x5 + t195)) (wrap64 (x6 + 1)) x141000 x141001)) else (none)) else (none))
end
def spec_FlatOf.f (k : Nat) (l0_0 : List Int) (l0_1 : List (S46)) : Option ((List (List (S46)))) := (some (([] : List (List (S46))) : List (List (S46)))).bind fun y141 => ((spec_PathOk.f k l0_0 l0_1).bind fun t144 => (if t144 = true then (spec_FlatOf.l0 k y141 (([] : List (S46))) 0 0 l0_0 l0_1) else (some y141)))
theorem spec_FlatOf.mono_l : ∀ k, (∀ y0 y1 y2 y3 y4 y5, LeO (spec_FlatOf.l0 k y0 y1 y2 y3 y4 y5) (spec_FlatOf.l0 (k + 1) y0 y1 y2 y3 y4 y5)) ∧ (∀ y0 y1 y2 y3 y4 y5 y6 y7 y8, LeO (spec_FlatOf.l1 k y0 y1 y2 y3 y4 y5 y6 y7 y8) (spec_FlatOf.l1 (k + 1) y0 y1 y2 y3 y4 y5 y6 y7 y8)) ∧ (∀ y0 y1 y2 y3 y4 y5 y6 y7 y8, LeO (spec_FlatOf.l2 k y0 y1 y2 y3 y4 y5 y6 y7 y8) (spec_FlatOf.l2 (k + 1) y0 y1 y2 y3 y4 y5 y6 y7 y8))
 | 0 => ⟨fun _ _ _ _ _ _ r h => by simp [spec_FlatOf.l0] at h, fun _ _ _ _ _ _ _ _ _ r h => by simp [spec_FlatOf.l1] at h, fun _ _ _ _ _ _ _ _ _ r h => by simp [spec_FlatOf.l2] at h⟩
 | k + 1 => by
  obtain ⟨ih0, ih1, ih2⟩ := spec_FlatOf.mono_l k
  refine ⟨?_, ?_, ?_⟩
  ·intro y0 y1 y2 y3 y4 y5
   unfold spec_FlatOf.l0
   repeat' first
   | (with_reducible exact ih0 _ _ _ _ _ _)
   | (with_reducible exact ih1 _ _ _ _ _ _ _ _ _)
   | (with_reducible exact ih2 _ _ _ _ _ _ _ _ _)
   | (with_reducible exact spec_CubicAt.mono _ _ _ _ _ _ _ _ _ _)
   | (with_reducible exact spec_PathOk.mono _ _ _)
   | (with_reducible exact spec_QuadAt.mono _ _ _ _ _ _ _ _)
   | (with_reducible exact LeO.refl _)
   | (with_reducible exact LeO.none _)
   | (with_reducible refine LeO.ite ?_ ?_)
   | (with_reducible refine LeO.bind ?_ (fun _ => ?_))
  ·intro y0 y1 y2 y3 y4 y5 y6 y7 y8
   unfold spec_FlatOf.l1
   repeat' first
   | (with_reducible exact ih0 _ _ _ _ _ _)
   | (with_reducible exact ih1 _ _ _ _ _ _ _ _ _)
   | (with_reducible exact ih2 _ _ _ _ _ _ _ _ _)
   | (with_reducible exact spec_CubicAt.mono _ _ _ _ _ _ _ _ _ _)
   | (with_reducible exact spec_PathOk.mono _ _ _)
   | (with_reducible exact spec_QuadAt.mono _ _ _ _ _ _ _ _)
   | (with_reducible exact LeO.refl _)
   | (with_reducible exact LeO.none _)
   | (with_reducible refine LeO.ite ?_ ?_)
   | (with_reducible refine LeO.bind ?_ (fun _ => ?_))
  ·intro y0 y1 y2 y3 y4 y5 y6 y7 y8
   unfold spec_FlatOf.l2
   repeat' first
   | (with_reducible exact ih0 _ _ _ _ _ _)
   | (with_reducible exact ih1 _ _ _ _ _ _ _ _ _)
   | (with_reducible exact ih2 _ _ _ _ _ _ _ _ _)
   | (with_reducible exact spec_CubicAt.mono _ _ _ _ _ _ _ _ _ _)
   | (with_reducible exact spec_PathOk.mono _ _ _)
   | (with_reducible exact spec_QuadAt.mono _ _ _ _ _ _ _ _)
   | (with_reducible exact LeO.refl _)
   | (with_reducible exact LeO.none _)
   | (with_reducible refine LeO.ite ?_ ?_)
   | (with_reducible refine LeO.bind ?_ (fun _ => ?_))
theorem spec_FlatOf.mono : ∀ a0 a1 k, LeO (spec_FlatOf.f k a0 a1) (spec_FlatOf.f (k + 1) a0 a1) := by
 intro a0 a1 k
 obtain ⟨ih0, ih1, ih2⟩ := spec_FlatOf.mono_l k
 unfold spec_FlatOf.f
 repeat' first
   | (with_reducible exact ih0 _ _ _ _ _ _)
   | (with_reducible exact ih1 _ _ _ _ _ _ _ _ _)
   | (with_reducible exact ih2 _ _ _ _ _ _ _ _ _)
   | (with_reducible exact spec_CubicAt.mono _ _ _ _ _ _ _ _ _ _)
   | (with_reducible exact spec_PathOk.mono _ _ _)
   | (with_reducible exact spec_QuadAt.mono _ _ _ _ _ _ _ _)
   | (with_reducible exact LeO.refl _)
   | (with_reducible exact LeO.none _)
   | (with_reducible refine LeO.ite ?_ ?_)
   | (with_reducible refine LeO.bind ?_ (fun _ => ?_))
def spec_FlatOf.T21 : Bool × List (List Nat × List Nat) := (true, [([], []), ([], []), ([], []), ([2], [2]), ([], []), ([3, 4], [3, 4]), ([5], [5]), ([], []), ([7], [7]), ([], []), ([9], [9]), ([8, 10], [8, 10]), ([11], [11]), ([], []), ([1, 6, 12, 13], [1, 6, 12, 13]), ([14], [14]), ([0, 15, 14], [0, 15]), ([16, 16, 0, 1, 2, 3, 4, 5, 6, 7, 8, 9, 10, 11, 12, 13, 14, 15, 16], [0, 16])])
def spec_FlatOf.B21 : List Nat := [0, 0, 0, 4, 0, 28, 60, 0, 128, 0, 512, 1920, 3968, 0, 16382, 32766, 65535, 131071]
theorem spec_FlatOf.tab21 : rtab .any (opsOf Try.f6 21) = spec_FlatOf.T21 := by kernel_rfl
theorem spec_FlatOf.bits21 : waitsOk spec_FlatOf.T21.2 spec_FlatOf.B21 = true := by kernel_rfl
def spec_FlatOf.T27 : Bool × List (List Nat × List Nat) := (true, [([], []), ([], []), ([], []), ([2], [2]), ([], []), ([3, 4], [3, 4]), ([5], [5]), ([], []), ([7], [7]), ([], []), ([9], [9]), ([8, 10], [8, 10]), ([11], [11]), ([], []), ([13], [13]), ([], []), ([15], [15]), ([14, 16], [14, 16]), ([17], [17]), ([], []), ([1, 6, 12, 18, 19], [1, 6, 12, 18, 19]), ([20], [20]), ([0, 21, 20], [0, 21]), ([22, 22, 0, 1, 2, 3, 4, 5, 6, 7, 8, 9, 10, 11, 12, 13, 14, 15, 16, 17, 18, 19, 20, 21, 22], [0, 22])])
def spec_FlatOf.B27 : List Nat := [0, 0, 0, 4, 0, 28, 60, 0, 128, 0, 512, 1920, 3968, 0, 8192, 0, 32768, 122880, 253952, 0, 1048574, 2097150, 4194303, 8388607]
theorem spec_FlatOf.tab27 : rtab .any (opsOf Try.f6 27) = spec_FlatOf.T27 := by kernel_rfl
theorem spec_FlatOf.bits27 : waitsOk spec_FlatOf.T27.2 spec_FlatOf.B27 = true := by kernel_rfl
def spec_FlatOf.T29 : Bool × List (List Nat × List Nat) := (true, [([], []), ([0], [0]), ([1], [1]), ([], []), ([], []), ([4], [4]), ([5], [5]), ([3, 6], [3, 6]), ([7], [7]), ([2, 8], [2, 8])])
def spec_FlatOf.B29 : List Nat := [0, 1, 3, 0, 0, 16, 48, 120, 248, 511]
theorem spec_FlatOf.tab29 : rtab .any (opsOf Try.f6 29) = spec_FlatOf.T29 := by kernel_rfl
theorem spec_FlatOf.bits29 : waitsOk spec_FlatOf.T29.2 spec_FlatOf.B29 = true := by kernel_rfl
set_option maxHeartbeats 8000000 in
set_option maxRecDepth 100000 in
theorem spec_FlatOf.calls (k : Nat) (A0_0 : Option Addr) (c0_0 : Nat) (l0_0 : List Int) (A0_1 : Option Addr) (c0_1 : Nat) (l0_1 : List (S46)) (r : List (List (S46))) (w : World) (hr0_0 : Kd.C (Kd.int .i64) w A0_0 l0_0.length l0_0) (hc0_0 : l0_0.length ≤ c0_0) (hr0_1 : Kd.C k46 w A0_1 l0_1.length l0_1) (hc0_1 : l0_1.length ≤ c0_1) (h : spec_FlatOf.f k l0_0 l0_1 = some r) :
  Calls Try.prog 6 #[.agg #[.slice A0_0 l0_0.length c0_0, .slice A0_1 l0_1.length c0_1]] w fun e w' => ∃ v0_ : Value, e = .returned (v0_) ∧ Kd.S (Kd.slice 46 k46) 29 w' w.heap.size (fun _ => True) v0_ r ∧ Below w.heap.size w w' := by
 have hu31 := Try.underlying31
 have hu46 := Try.underlying46
 have HR0_0 := mk0 hr0_0
 have HC0_0 := mk0 hc0_0
 clear hr0_0 hc0_0
 have HR0_1 := mk0 hr0_1
 have HC0_1 := mk0 hc0_1
 clear hr0_1 hc0_1
 have HB := mk0 (Below.refl w.heap.size w)
 have H : ((some (([] : List (List (S46))) : List (List (S46)))).bind fun y141 => ((spec_PathOk.f k l0_0 l0_1).bind fun t144 => (if t144 = true then (spec_FlatOf.l0 k y141 (([] : List (S46))) 0 0 l0_0 l0_1) else (some y141)))) = some r := h
 clear h
 obtain ⟨y141, hy_⟩ : ∃ y_ : List (List (S46)), y_ = (([] : List (List (S46)))) := ⟨_, rfl⟩
 replace H : ((spec_PathOk.f k l0_0 l0_1).bind fun t144 => (if t144 = true then (spec_FlatOf.l0 k y141 (([] : List (S46))) 0 0 l0_0 l0_1) else (some y141))) = some r := z5_2
 have Ny141 := mk0 hy_
 clear hy_
 replace H := Option.bind_eq_some_iff.mp H
 obtain ⟨t144, A20, H⟩ := H
 try dsimp only at H
 have A2 := mk0 A20
 clear A20
 by_cases c3 : t144 = true
 rotate_left
 ·replace c3 := Bool.eq_false_iff.mpr c3
  subst c3
  rw [if_neg (show ¬ (false = true) by decide)] at H
  obtain rfl := Option.some.inj H
  simp only [Option.some.injEq, Prod.mk.injEq] at H
  obtain ⟨rfl⟩ := H
  go_enter Try.func6, Try.ntmps6
  go_wp2_with (first | ((with_reducible refine gate_dst (N := 1) rfl ?_); refine boxz (cs := #[.slice A0_0 l0_0.length c0_0, .slice A0_1 l0_1.length c0_1]) (t := 31) rfl ?_; intro gb140 hg w129 hbox hb; have n0_ := mk0 (below_step z5_6 hb); have n1_ := mk0 (hbox); have GW140 := mk0 (ge_go (a := w.heap.size) hg (below_size z5_6)); have GE140 := GW140; clear HB; have HB := n0_; have BK140 := n1_; clear n0_ n1_ ; clear hb hbox hg) | ((with_reducible refine gate_dst (N := 11) rfl ?_); refine Kd.S_lit (Kd.slice 46 k46) _ 29 ?hg (N := 11) ?hd (xs := ([] : List (List (S46)))) (inner := []) (ok := fun _ => True) (okp := fun _ => True) ?hr ?hp (fun _ hk => hk) trivial (Below.refl _ _) (Nat.le_refl _) (by simp) ?_; (case hd => rfl); (case hg => rfl); (case hr => first | (go_simp; done) | (go_simp; rfl)); (case hp => exact (Reps.none _ _)); intro v142 w130 ho131 hb hg_ hnew_; clear hg_ hnew_; (first | rw [← Ny141.out] at ho131 | (simp only [Int.reduceToNat] at ho131; rw [← Ny141.out] at ho131)); have n0_ := mk0 (Kd.S_lower ho131 (below_size z5_1)); have n1_ := mk0 (blk_belowB BK140 (pkb BK140) hb); have n2_ := mk0 (below_step z5_1 hb); clear BK140 HB; have HO143 := n0_; have BK140 := n1_; have HB := n2_; clear n0_ n1_ n2_ hb ho131; obtain ⟨_, _, _, _⟩ := be_2 BK140.out) | ((with_reducible refine gate_callee (f := 21) rfl ?_); refine goesL_ (some 13) rfl rfl Try.func21 (by kernel_rfl) rfl #[.agg #[.slice A0_0 l0_0.length c0_0, .slice A0_1 l0_1.length c0_1]] rfl z5_3 ?_; (with_reducible refine (spec_PathOk.calls k _ _ l0_0 _ _ l0_1 false _ ?side1 ?side2 ?side3 ?side4 A2.out).mono ?_); (case side1 => exact z5_10); (case side2 => exact HC0_0.out); (case side3 => exact z5_11); (case side4 => exact HC0_1.out); rintro e w133 ⟨rfl, hb⟩; refine ⟨_, rfl, ?_⟩; have n0_ := mk0 (Kd.S_below (pkS HO143) hb); have n1_ := mk0 (blk_belowB BK140 (pkb BK140) hb); have n2_ := mk0 (below_step z5_1 hb); clear HO143 BK140 HB; have HO143 := n0_; have BK140 := n1_; have HB := n2_; clear n0_ n1_ n2_; (try clear hb); (try clear hk)))
  go_ret
  exact ⟨_, z5_9, (pkS HO143), z5_1⟩
 subst c3
 rw [if_pos rfl] at H
 obtain ⟨y145, hy_⟩ : ∃ y_ : List (S46), y_ = (([] : List (S46))) := ⟨_, rfl⟩
 replace H : (spec_FlatOf.l0 k y141 y145 0 0 l0_0 l0_1) = some r := z5_2
 have Ny145 := mk0 hy_
 clear hy_
 have H' := mk0 H
 clear H
 go_enter Try.func6, Try.ntmps6
 go_wp2_with (first | ((with_reducible refine gate_dst (N := 1) rfl ?_); refine boxz (cs := #[.slice A0_0 l0_0.length c0_0, .slice A0_1 l0_1.length c0_1]) (t := 31) rfl ?_; intro gb140 hg w4 hbox hb; have n0_ := mk0 (below_step z5_6 hb); have n1_ := mk0 (hbox); have GW140 := mk0 (ge_go (a := w.heap.size) hg (below_size z5_6)); have GE140 := GW140; clear HB; have HB := n0_; have BK140 := n1_; clear n0_ n1_ ; clear hb hbox hg) | ((with_reducible refine gate_dst (N := 11) rfl ?_); refine Kd.S_lit (Kd.slice 46 k46) _ 29 ?hg (N := 11) ?hd (xs := ([] : List (List (S46)))) (inner := []) (ok := fun _ => True) (okp := fun _ => True) ?hr ?hp (fun _ hk => hk) trivial (Below.refl _ _) (Nat.le_refl _) (by simp) ?_; (case hd => rfl); (case hg => rfl); (case hr => first | (go_simp; done) | (go_simp; rfl)); (case hp => exact (Reps.none _ _)); intro v142 w5 ho6 hb hg_ hnew_; clear hg_ hnew_; (first | rw [← Ny141.out] at ho6 | (simp only [Int.reduceToNat] at ho6; rw [← Ny141.out] at ho6)); have n0_ := mk0 (Kd.S_lower ho6 (below_size z5_1)); have n1_ := mk0 (blk_belowB BK140 (pkb BK140) hb); have n2_ := mk0 (below_step z5_1 hb); clear BK140 HB; have HO143 := n0_; have BK140 := n1_; have HB := n2_; clear n0_ n1_ n2_ hb ho6; obtain ⟨_, _, _, _⟩ := be_2 BK140.out) | ((with_reducible refine gate_callee (f := 21) rfl ?_); refine goesL_ (some 13) rfl rfl Try.func21 (by kernel_rfl) rfl #[.agg #[.slice A0_0 l0_0.length c0_0, .slice A0_1 l0_1.length c0_1]] rfl z5_3 ?_; (with_reducible refine (spec_PathOk.calls k _ _ l0_0 _ _ l0_1 true _ ?side1 ?side2 ?side3 ?side4 A2.out).mono ?_); (case side1 => exact z5_10); (case side2 => exact HC0_0.out); (case side3 => exact z5_11); (case side4 => exact HC0_1.out); rintro e w8 ⟨rfl, hb⟩; refine ⟨_, rfl, ?_⟩; have n0_ := mk0 (Kd.S_below (pkS HO143) hb); have n1_ := mk0 (blk_belowB BK140 (pkb BK140) hb); have n2_ := mk0 (below_step z5_1 hb); clear HO143 BK140 HB; have HO143 := n0_; have BK140 := n1_; have HB := n2_; clear n0_ n1_ n2_; (try clear hb); (try clear hk)) | ((with_reducible refine gate_dst (N := 16) rfl ?_); refine Kd.R_lit k46 _ 46 ?hg (N := 16) ?hd (xs := ([] : List (S46))) (inner := []) (ok := fun _ => True) (okp := fun _ => True) ?hr ?hp (fun _ hk => hk) trivial (Below.refl _ _) (Nat.le_refl _) (by simp) ?_; (case hd => rfl); (case hg => rfl); (case hr => first | (go_simp; done) | (go_simp; rfl)); (case hp => exact (Reps.none _ _)); intro v146 w9 ho10 hb hg_ hnew_; clear hg_ hnew_; (first | rw [← Ny145.out] at ho10 | (simp only [Int.reduceToNat] at ho10; rw [← Ny145.out] at ho10)); have n0_ := mk0 (Kd.S_elder' (pkS HO143) (Kd.R_base ho10) hb); have n1_ := mk0 (Kd.R_lower ho10 (below_size z5_1)); have n2_ := mk0 (blk_belowB BK140 (pkb BK140) hb); have n3_ := mk0 (below_step z5_1 hb); clear HO143 BK140 HB; have HO143 := n0_; have HO147 := n1_; have BK140 := n2_; have HB := n3_; clear n0_ n1_ n2_ n3_ hb ho10))
 go_loopg [3, 4, 5, 6] k (fun kq v3 v4 v5 v6 w' => ∃ (x3_1 : List (List (S46))) (x4_1 : List (S46)) (x5_1 : Int) (x6_1 : Int), v5 = .int .i64 x5_1 ∧ v6 = .int .i64 x6_1 ∧ Aside0 (spec_FlatOf.l0 kq x3_1 x4_1 x5_1 x6_1 l0_0 l0_1 = some r) ∧ Aside0 (kq ≤ k) ∧ Aside0 (Kd.S (Kd.slice 46 k46) 29 w' w.heap.size (fun k_ => some k_ ≠ (v4 : Value).ownBlock) v3 x3_1) ∧ Aside0 (Kd.R k46 46 w' w.heap.size (fun _ => True) v4 x4_1) ∧ Aside0 (w'.heap[gb140]? = some (.cells #[(.slice A0_0 l0_0.length c0_0), (.slice A0_1 l0_1.length c0_1)] 31 (0, 0))) ∧ Aside0 (Below w.heap.size w w'))
 case atStart => exact ⟨(y141), (y145), (0), (0), rs0, rs0, H', ⟨Nat.le_refl _⟩, ⟨(by (with_reducible repeat (first | apply Kd.S_alloc | apply Kd.S_drewN | apply Kd.S_drew)); exact Kd.S_mono HO143.out (fun _ hk => hk.2))⟩, ⟨pkR HO147⟩, ⟨pkb BK140⟩, ⟨z5_1⟩⟩
 case round =>
  clear H'
  try clear c2
  try clear p2
  try clear c3
  try clear c6
  try clear hcz7_0
  try clear hcz7_1
  try clear hfz7_0
  try clear hfz7_1
  obtain ⟨x3_1, x4_1, x5_1, x6_1, rfl, rfl, HA, HK1, HO_3, HO_4, BK140, HB⟩ := hrel
  cases gk with
  | zero => exact absurd HA.out (by simp [spec_FlatOf.l0])
  | succ k1 =>
   have H := HA.out; clear HA
   simp only [spec_FlatOf.l0] at H
   by_cases c11 : x6_1 < (l0_0.length : Int)
   rotate_left
   ·rw [if_neg c11] at H
    have c11b0 := decide_eq_false c11
    clear c11
    by_cases c122 : (x4_1.length : Int) > 0
    rotate_left
    ·rw [if_neg c122] at H
     have c122b0 := decide_eq_false c122
     have c122b1 : decide (0 < x4_1.length) = false := decide_eq_false (by omega)
     clear c122
     obtain rfl := Option.some.inj H
     simp only [Option.some.injEq, Prod.mk.injEq] at H
     obtain ⟨rfl⟩ := H
     obtain ⟨_, _, _, _⟩ := be_2 BK140.out
     obtain ⟨Ao128, co128, eo128⟩ := Kd.R_slice HO_4.out
     subst eo128
     go_wp2
     go_ret
     exact ⟨_, z5_9, (by (with_reducible repeat (first | apply Kd.S_alloc | apply Kd.S_drewN | apply Kd.S_drew)); exact Kd.S_mono HO_3.out (fun _ hk => trivial)), z5_1⟩
    rw [if_pos c122] at H
    have c122b0 := decide_eq_true c122
    have c122b1 : decide (0 < x4_1.length) = true := decide_eq_true (by omega)
    clear c122
    by_cases c123 : x3_1.length < 5864062014805
    rotate_left
    ·rw [if_neg c123] at H
     exact absurd H (by simp)
    rw [if_pos c123] at H
    have LMc123 := mk0 c123
    clear c123
    obtain ⟨y148, hy_⟩ : ∃ y_ : List (List (S46)), y_ = (x3_1 ++ [x4_1]) := ⟨_, rfl⟩
    replace H : (some y148) = some r := z5_2
    have Ny148 := mk0 hy_
    clear hy_
    obtain rfl := Option.some.inj H
    simp only [Option.some.injEq, Prod.mk.injEq] at H
    obtain ⟨rfl⟩ := H
    obtain ⟨_, _, _, _⟩ := be_2 BK140.out
    obtain ⟨Ao125, co125, eo125⟩ := Kd.R_slice HO_4.out
    subst eo125
    go_wp2_with (first | ((with_reducible refine gate_builtin (b := .append) (xs := #[.tmp 146, .tmp 148]) rfl ?_); at_builtin; refine Kd.S_append (Kd.slice 46 k46) (w0 := w) w.heap.size rfl (.tmp 146) (.tmp 148) 27 29 (.slice none 0 0) 24 rfl Try.underlying27 info29 rfl (by decide) (by omega) u3 x3_1 x4_1 [.slice Ao125 x4_1.length co125] (fun _ => True) (fun k_ => some k_ = (.slice Ao125 x4_1.length co125 : Value).ownBlock) rfl rfl ?aP (fun k_ hk_ => ((Kd.R_mono (ok' := fun k_ => ((fun _ => True)) k_ ∧ some k_ ≠ (u3 : Value).ownBlock) (Kd.R_apart' (HO_4.out) (Kd.S_typed HO_3.out) (by decide)) (fun k_ hk => ⟨trivial, hk.2⟩))).1 k_ hk_.symm) ?aF ?aO ?aB ?aS ?aL ?_; (case aP => exact Kd.M_row (Kd.R_mono (Kd.R_tight rfl (Kd.R_mono (ok' := fun k_ => ((fun _ => True)) k_ ∧ some k_ ≠ (u3 : Value).ownBlock) (Kd.R_apart' (HO_4.out) (Kd.S_typed HO_3.out) (by decide)) (fun k_ hk => ⟨trivial, hk.2⟩))) (fun _ h_ => h_))); (case aB => exact z5_1); (case aF => exact (fun _ _ => trivial)); (case aO => exact z5_12); (case aS => exact (below_size z5_1)); (case aL => have := LMc123.out; omega); intro v149 w126 ho hb hg hat; rw [← Ny148.out] at ho; have n0_ := mk0 (blk_grown (g := gb140) (o := .cells #[.slice A0_0 l0_0.length c0_0, .slice A0_1 l0_1.length c0_1] 31 (0, 0)) (pkb BK140) hg (Kd.S_ne HO_3.out BK140.out (by decide))); have n1_ := mk0 (hb); have n2_ := mk0 (ho); clear BK140 HB HO_3 HO_4; have BK140 := n0_; have HB := n1_; have HO150 := n2_; clear n0_ n1_ n2_ ho hb hg hat))
    go_ret
    exact ⟨_, z5_9, (pkS HO150), z5_1⟩
   rw [if_pos c11] at H
   have c11b0 := decide_eq_true c11
   clear c11
   by_cases c12 : 0 ≤ x6_1
   rotate_left
   ·rw [if_neg c12] at H
    exact absurd H (by simp)
   rw [if_pos c12] at H
   have c12b0 := decide_eq_true c12
   clear c12
   by_cases c13 : (rd l0_0 x6_1) = 1
   ·rw [if_pos c13] at H
    have c13b0 : ((rd l0_0 x6_1) == 1) = true := beq_iff_eq.mpr c13
    have c13b1 : ((rd l0_0 x6_1) != 1) = false := bne_eq_false_iff_eq.mpr c13
    clear c13
    by_cases c14 : x6_1 > 0
    rotate_left
    ·rw [if_neg c14] at H
     have c14b0 := decide_eq_false c14
     clear c14
     by_cases c27 : 0 ≤ x5_1
     rotate_left
     ·rw [if_neg c27] at H
      exact absurd H (by simp)
     rw [if_pos c27] at H
     have c27b0 := decide_eq_true c27
     clear c27
     by_cases c28 : x5_1 < (l0_1.length : Int)
     rotate_left
     ·rw [if_neg c28] at H
      exact absurd H (by simp)
     rw [if_pos c28] at H
     have c28b0 := decide_eq_true c28
     clear c28
     obtain ⟨y162, hy_⟩ : ∃ y_ : List (S46), y_ = (([(⟨(rd_T46 l0_1 x5_1).f0, (rd_T46 l0_1 x5_1).f1⟩ : S46)] : List (S46))) := ⟨_, rfl⟩
     replace H : ((spec_NeedOf.f (rd l0_0 x6_1)).bind fun t166 => (spec_FlatOf.l0 k1 x3_1 y162 (wrap64 (x5_1 + t166)) (wrap64 (x6_1 + 1)) l0_0 l0_1)) = some r := z5_2
     have Ny162 := mk0 hy_
     clear hy_
     replace H := Option.bind_eq_some_iff.mp H
     obtain ⟨t166, A290, H⟩ := H
     try dsimp only at H
     have A29 := mk0 A290
     clear A290
     have H' := mk0 H
     clear H
     obtain ⟨_, _, _, _⟩ := be_2 BK140.out
     have p151 : 0 ≤ (x6_1 : Int) := of_decide_eq_true (by first | (with_reducible assumption) | assumption)
     have q151 : x6_1 < (l0_0.length : Int) := of_decide_eq_true (by first | (with_reducible assumption) | assumption)
     obtain ⟨ad151, e151, hx151_0⟩ := Kd.at_int HR0_0.out x6_1 p151 q151
     cases e151
     replace hx151_0 := cell_go HB hx151_0
     replace p151 := eq_true p151
     replace q151 := eq_true q151
     have p161 : 0 ≤ (x5_1 : Int) := of_decide_eq_true (by first | (with_reducible assumption) | assumption)
     have q161 : x5_1 < (l0_1.length : Int) := of_decide_eq_true (by first | (with_reducible assumption) | assumption)
     obtain ⟨ad161, e161, hx161_0, hx161_1⟩ := at_T46 HR0_1.out x5_1 p161 q161
     cases e161
     replace hx161_0 := cell_go HB hx161_0
     replace hx161_1 := cell_go HB hx161_1
     replace p161 := eq_true p161
     replace q161 := eq_true q161
     go_wp2_with (first | ((with_reducible refine gate_dst (N := 42) rfl ?_); refine Kd.R_lit k46 _ 46 ?hg (N := 42) ?hd (xs := ([(⟨(rd_T46 l0_1 x5_1).f0, (rd_T46 l0_1 x5_1).f1⟩ : S46)] : List (S46))) (inner := [.int .i64 ((rd_T46 l0_1 x5_1).f0), .int .i64 ((rd_T46 l0_1 x5_1).f1)]) (ok := fun _ => True) (okp := fun _ => True) ?hr ?hp (fun _ hk => hk) trivial (Below.refl _ _) (Nat.le_refl _) (by simp) ?_; (case hd => rfl); (case hg => rfl); (case hr => first | (go_simp; done) | (go_simp; rfl)); (case hp => exact (Reps.c2 (show Kd.M k46 _ _ _ (⟨(rd_T46 l0_1 x5_1).f0, (rd_T46 l0_1 x5_1).f1⟩ : S46) [.int .i64 ((rd_T46 l0_1 x5_1).f0), .int .i64 ((rd_T46 l0_1 x5_1).f1)] from (k46_mkM _ _ _ (⟨(rd_T46 l0_1 x5_1).f0, (rd_T46 l0_1 x5_1).f1⟩ : S46) )) (Reps.none _ _))); intro v163 w31 ho32 hb hg_ hnew_; clear hg_ hnew_; (first | rw [← Ny162.out] at ho32 | (simp only [Int.reduceToNat] at ho32; rw [← Ny162.out] at ho32)); have n0_ := mk0 (Kd.S_elder' (pkS HO_3) (Kd.R_base ho32) hb); have n1_ := mk0 (Kd.R_elder' (pkR HO_4) (Kd.R_base ho32) hb); have n2_ := mk0 (Kd.R_lower (Kd.R_new' ho32 (Kd.R_lt (pkR HO_4))) (below_size z5_1)); have n3_ := mk0 (blk_belowB BK140 (pkb BK140) hb); have n4_ := mk0 (below_step z5_1 hb); clear HO_3 HO_4 BK140 HB; have HO_3 := n0_; have HO_4 := n1_; have HO164 := n2_; have BK140 := n3_; have HB := n4_; clear n0_ n1_ n2_ n3_ n4_ hb ho32; obtain ⟨_, _, _, _⟩ := be_2 BK140.out; have p165 : 0 ≤ (x6_1 : Int) := of_decide_eq_true (by first | (with_reducible assumption) | assumption); have q165 : x6_1 < (l0_0.length : Int) := of_decide_eq_true (by first | (with_reducible assumption) | assumption); obtain ⟨ad165, e165, hx165_0⟩ := Kd.at_int HR0_0.out x6_1 p165 q165; obtain rfl : ad151 = ad165 := (by injection e165); replace hx165_0 := cell_go HB hx165_0; replace p165 := eq_true p165; replace q165 := eq_true q165) | ((with_reducible refine gate_callee (f := 24) rfl ?_); refine goesL_ (some 141) rfl rfl Try.func24 (by kernel_rfl) rfl #[.int .i64 (rd l0_0 x6_1)] rfl z5_3 ?_; (with_reducible refine (spec_NeedOf.calls (rd l0_0 x6_1) t166 _ A29.out).mono ?_); rintro e w34 ⟨rfl, hb⟩; refine ⟨_, rfl, ?_⟩; have n0_ := mk0 (Kd.S_below (pkS HO_3) hb); have n1_ := mk0 (Kd.R_below (pkR HO_4) hb); have n2_ := mk0 (Kd.R_below (pkR HO164) hb); have n3_ := mk0 (blk_belowB BK140 (pkb BK140) hb); have n4_ := mk0 (below_step z5_1 hb); clear HO_3 HO_4 HO164 BK140 HB; have HO_3 := n0_; have HO_4 := n1_; have HO164 := n2_; have BK140 := n3_; have HB := n4_; clear n0_ n1_ n2_ n3_ n4_; (try clear hb); (try clear hk)))
     go_roundg k1
     case measure => have := HK1.out; omega
     case rel => exact ⟨(x3_1), (y162), (wrap64 (x5_1 + t166)), (wrap64 (x6_1 + 1)), rs0, rs0, H', ⟨(by have := HK1.out; omega)⟩, ⟨z5_8⟩, ⟨(by (with_reducible repeat (first | apply Kd.R_alloc | apply Kd.R_drewN | apply Kd.R_drew)); exact Kd.R_mono HO164.out (fun _ hk => trivial))⟩, ⟨pkb BK140⟩, ⟨z5_1⟩⟩
    rw [if_pos c14] at H
    have c14b0 := decide_eq_true c14
    clear c14
    by_cases c15 : x3_1.length < 5864062014805
    rotate_left
    ·rw [if_neg c15] at H
     exact absurd H (by simp)
    rw [if_pos c15] at H
    have LMc15 := mk0 c15
    clear c15
    obtain ⟨y152, hy_⟩ : ∃ y_ : List (List (S46)), y_ = (x3_1 ++ [x4_1]) := ⟨_, rfl⟩
    replace H : (if 0 ≤ x5_1 then (if x5_1 < (l0_1.length : Int) then ((spec_NeedOf.f (rd l0_0 x6_1)).bind fun t160 => (spec_FlatOf.l0 k1 y152 (([(⟨(rd_T46 l0_1 x5_1).f0, (rd_T46 l0_1 x5_1).f1⟩ : S46)] : List (S46))) (wrap64 (x5_1 + t160)) (wrap64 (x6_1 + 1)) l0_0 l0_1)) else (none)) else (none)) = some r := z5_2
    have Ny152 := mk0 hy_
    clear hy_
    by_cases c16 : 0 ≤ x5_1
    rotate_left
    ·rw [if_neg c16] at H
     exact absurd H (by simp)
    rw [if_pos c16] at H
    have c16b0 := decide_eq_true c16
    clear c16
    by_cases c17 : x5_1 < (l0_1.length : Int)
    rotate_left
    ·rw [if_neg c17] at H
     exact absurd H (by simp)
    rw [if_pos c17] at H
    have c17b0 := decide_eq_true c17
    clear c17
    obtain ⟨y156, hy_⟩ : ∃ y_ : List (S46), y_ = (([(⟨(rd_T46 l0_1 x5_1).f0, (rd_T46 l0_1 x5_1).f1⟩ : S46)] : List (S46))) := ⟨_, rfl⟩
    replace H : ((spec_NeedOf.f (rd l0_0 x6_1)).bind fun t160 => (spec_FlatOf.l0 k1 y152 y156 (wrap64 (x5_1 + t160)) (wrap64 (x6_1 + 1)) l0_0 l0_1)) = some r := z5_2
    have Ny156 := mk0 hy_
    clear hy_
    replace H := Option.bind_eq_some_iff.mp H
    obtain ⟨t160, A180, H⟩ := H
    try dsimp only at H
    have A18 := mk0 A180
    clear A180
    have H' := mk0 H
    clear H
    obtain ⟨_, _, _, _⟩ := be_2 BK140.out
    have p151 : 0 ≤ (x6_1 : Int) := of_decide_eq_true (by first | (with_reducible assumption) | assumption)
    have q151 : x6_1 < (l0_0.length : Int) := of_decide_eq_true (by first | (with_reducible assumption) | assumption)
    obtain ⟨ad151, e151, hx151_0⟩ := Kd.at_int HR0_0.out x6_1 p151 q151
    cases e151
    replace hx151_0 := cell_go HB hx151_0
    replace p151 := eq_true p151
    replace q151 := eq_true q151
    obtain ⟨Ao21, co21, eo21⟩ := Kd.R_slice HO_4.out
    subst eo21
    go_wp2_with (first | ((with_reducible refine gate_builtin (b := .append) (xs := #[.tmp 33, .tmp 35]) rfl ?_); at_builtin; refine Kd.S_append (Kd.slice 46 k46) (w0 := w) w.heap.size rfl (.tmp 33) (.tmp 35) 27 29 (.slice none 0 0) 24 rfl Try.underlying27 info29 rfl (by decide) (by omega) u3 x3_1 x4_1 [.slice Ao21 x4_1.length co21] (fun _ => True) (fun k_ => some k_ = (.slice Ao21 x4_1.length co21 : Value).ownBlock) rfl rfl ?aP (fun k_ hk_ => ((Kd.R_mono (ok' := fun k_ => ((fun _ => True)) k_ ∧ some k_ ≠ (u3 : Value).ownBlock) (Kd.R_apart' (HO_4.out) (Kd.S_typed HO_3.out) (by decide)) (fun k_ hk => ⟨trivial, hk.2⟩))).1 k_ hk_.symm) ?aF ?aO ?aB ?aS ?aL ?_; (case aP => exact Kd.M_row (Kd.R_mono (Kd.R_tight rfl (Kd.R_mono (ok' := fun k_ => ((fun _ => True)) k_ ∧ some k_ ≠ (u3 : Value).ownBlock) (Kd.R_apart' (HO_4.out) (Kd.S_typed HO_3.out) (by decide)) (fun k_ hk => ⟨trivial, hk.2⟩))) (fun _ h_ => h_))); (case aB => exact z5_1); (case aF => exact (fun _ _ => trivial)); (case aO => exact z5_12); (case aS => exact (below_size z5_1)); (case aL => have := LMc15.out; omega); intro v153 w20 ho hb hg hat; rw [← Ny152.out] at ho; have n0_ := mk0 (blk_grown (g := gb140) (o := .cells #[.slice (some ad151) l0_0.length c0_0, .slice A0_1 l0_1.length c0_1] 31 (0, 0)) (pkb BK140) hg (Kd.S_ne HO_3.out BK140.out (by decide))); have n1_ := mk0 (hb); have n2_ := mk0 (ho); clear BK140 HB HO_3 HO_4; have BK140 := n0_; have HB := n1_; have HO154 := n2_; clear n0_ n1_ n2_ ho hb hg hat; obtain ⟨_, _, _, _⟩ := be_2 BK140.out; have p155 : 0 ≤ (x5_1 : Int) := of_decide_eq_true (by first | (with_reducible assumption) | assumption); have q155 : x5_1 < (l0_1.length : Int) := of_decide_eq_true (by first | (with_reducible assumption) | assumption); obtain ⟨ad155, e155, hx155_0, hx155_1⟩ := at_T46 HR0_1.out x5_1 p155 q155; cases e155; replace hx155_0 := cell_go HB hx155_0; replace hx155_1 := cell_go HB hx155_1; replace p155 := eq_true p155; replace q155 := eq_true q155) | ((with_reducible refine gate_dst (N := 42) rfl ?_); refine Kd.R_lit k46 _ 46 ?hg (N := 42) ?hd (xs := ([(⟨(rd_T46 l0_1 x5_1).f0, (rd_T46 l0_1 x5_1).f1⟩ : S46)] : List (S46))) (inner := [.int .i64 ((rd_T46 l0_1 x5_1).f0), .int .i64 ((rd_T46 l0_1 x5_1).f1)]) (ok := fun _ => True) (okp := fun _ => True) ?hr ?hp (fun _ hk => hk) trivial (Below.refl _ _) (Nat.le_refl _) (by simp) ?_; (case hd => rfl); (case hg => rfl); (case hr => first | (go_simp; done) | (go_simp; rfl)); (case hp => exact (Reps.c2 (show Kd.M k46 _ _ _ (⟨(rd_T46 l0_1 x5_1).f0, (rd_T46 l0_1 x5_1).f1⟩ : S46) [.int .i64 ((rd_T46 l0_1 x5_1).f0), .int .i64 ((rd_T46 l0_1 x5_1).f1)] from (k46_mkM _ _ _ (⟨(rd_T46 l0_1 x5_1).f0, (rd_T46 l0_1 x5_1).f1⟩ : S46) )) (Reps.none _ _))); intro v157 w23 ho24 hb hg_ hnew_; clear hg_ hnew_; (first | rw [← Ny156.out] at ho24 | (simp only [Int.reduceToNat] at ho24; rw [← Ny156.out] at ho24)); have n0_ := mk0 (Kd.S_elder' (pkS HO154) (Kd.R_base ho24) hb); have n1_ := mk0 (Kd.R_lower ho24 (below_size z5_1)); have n2_ := mk0 (blk_belowB BK140 (pkb BK140) hb); have n3_ := mk0 (below_step z5_1 hb); clear HO154 BK140 HB; have HO154 := n0_; have HO158 := n1_; have BK140 := n2_; have HB := n3_; clear n0_ n1_ n2_ n3_ hb ho24; obtain ⟨_, _, _, _⟩ := be_2 BK140.out; have p159 : 0 ≤ (x6_1 : Int) := of_decide_eq_true (by first | (with_reducible assumption) | assumption); have q159 : x6_1 < (l0_0.length : Int) := of_decide_eq_true (by first | (with_reducible assumption) | assumption); obtain ⟨ad159, e159, hx159_0⟩ := Kd.at_int HR0_0.out x6_1 p159 q159; obtain rfl : ad151 = ad159 := (by injection e159); replace hx159_0 := cell_go HB hx159_0; replace p159 := eq_true p159; replace q159 := eq_true q159) | ((with_reducible refine gate_callee (f := 24) rfl ?_); refine goesL_ (some 141) rfl rfl Try.func24 (by kernel_rfl) rfl #[.int .i64 (rd l0_0 x6_1)] rfl z5_3 ?_; (with_reducible refine (spec_NeedOf.calls (rd l0_0 x6_1) t160 _ A18.out).mono ?_); rintro e w26 ⟨rfl, hb⟩; refine ⟨_, rfl, ?_⟩; have n0_ := mk0 (Kd.S_below (pkS HO154) hb); have n1_ := mk0 (Kd.R_below (pkR HO158) hb); have n2_ := mk0 (blk_belowB BK140 (pkb BK140) hb); have n3_ := mk0 (below_step z5_1 hb); clear HO154 HO158 BK140 HB; have HO154 := n0_; have HO158 := n1_; have BK140 := n2_; have HB := n3_; clear n0_ n1_ n2_ n3_; (try clear hb); (try clear hk)))
    go_roundg k1
    case measure => have := HK1.out; omega
    case rel => exact ⟨(y152), (y156), (wrap64 (x5_1 + t160)), (wrap64 (x6_1 + 1)), rs0, rs0, H', ⟨(by have := HK1.out; omega)⟩, ⟨(by (with_reducible repeat (first | apply Kd.S_alloc | apply Kd.S_drewN | apply Kd.S_drew)); exact Kd.S_mono HO154.out (fun _ hk => hk.2))⟩, ⟨pkR HO158⟩, ⟨pkb BK140⟩, ⟨z5_1⟩⟩
   rw [if_neg c13] at H
   have c13b0 : ((rd l0_0 x6_1) == 1) = false := beq_eq_false_iff_ne.mpr c13
   have c13b1 : ((rd l0_0 x6_1) != 1) = true := bne_iff_ne.mpr c13
   by_cases c35 : (rd l0_0 x6_1) = 2
   ·rw [if_pos c35] at H
    have c35b0 : ((rd l0_0 x6_1) == 2) = true := beq_iff_eq.mpr c35
    have c35b1 : ((rd l0_0 x6_1) != 2) = false := bne_eq_false_iff_eq.mpr c35
    clear c35
    by_cases c36 : 0 ≤ x5_1
    rotate_left
    ·rw [if_neg c36] at H
     exact absurd H (by simp)
    rw [if_pos c36] at H
    have c36b0 := decide_eq_true c36
    clear c36
    by_cases c37 : x5_1 < (l0_1.length : Int)
    rotate_left
    ·rw [if_neg c37] at H
     exact absurd H (by simp)
    rw [if_pos c37] at H
    have c37b0 := decide_eq_true c37
    clear c37
    by_cases c38 : x4_1.length < 8796093022208
    rotate_left
    ·rw [if_neg c38] at H
     exact absurd H (by simp)
    rw [if_pos c38] at H
    have LMc38 := mk0 c38
    clear c38
    obtain ⟨y168, hy_⟩ : ∃ y_ : List (S46), y_ = (x4_1 ++ [(⟨(rd_T46 l0_1 x5_1).f0, (rd_T46 l0_1 x5_1).f1⟩ : S46)]) := ⟨_, rfl⟩
    replace H : ((spec_NeedOf.f (rd l0_0 x6_1)).bind fun t172 => (spec_FlatOf.l0 k1 x3_1 y168 (wrap64 (x5_1 + t172)) (wrap64 (x6_1 + 1)) l0_0 l0_1)) = some r := z5_2
    have Ny168 := mk0 hy_
    clear hy_
    replace H := Option.bind_eq_some_iff.mp H
    obtain ⟨t172, A390, H⟩ := H
    try dsimp only at H
    have A39 := mk0 A390
    clear A390
    have H' := mk0 H
    clear H
    obtain ⟨_, _, _, _⟩ := be_2 BK140.out
    have p151 : 0 ≤ (x6_1 : Int) := of_decide_eq_true (by first | (with_reducible assumption) | assumption)
    have q151 : x6_1 < (l0_0.length : Int) := of_decide_eq_true (by first | (with_reducible assumption) | assumption)
    obtain ⟨ad151, e151, hx151_0⟩ := Kd.at_int HR0_0.out x6_1 p151 q151
    cases e151
    replace hx151_0 := cell_go HB hx151_0
    replace p151 := eq_true p151
    replace q151 := eq_true q151
    have p167 : 0 ≤ (x5_1 : Int) := of_decide_eq_true (by first | (with_reducible assumption) | assumption)
    have q167 : x5_1 < (l0_1.length : Int) := of_decide_eq_true (by first | (with_reducible assumption) | assumption)
    obtain ⟨ad167, e167, hx167_0, hx167_1⟩ := at_T46 HR0_1.out x5_1 p167 q167
    cases e167
    replace hx167_0 := cell_go HB hx167_0
    replace hx167_1 := cell_go HB hx167_1
    replace p167 := eq_true p167
    replace q167 := eq_true q167
    go_wp2_with (first | ((with_reducible refine gate_builtin (b := .append) (xs := #[.tmp 45, .tmp 51]) rfl ?_); at_builtin; refine Kd.R_append k46 (w0 := w) w.heap.size rfl (.tmp 45) (.tmp 51) 29 46 (.agg #[(.int .i64 0), (.int .i64 0)]) 16 rfl Try.underlying29 info46 rfl (by decide) (by omega) u4 x4_1 (⟨(rd_T46 l0_1 x5_1).f0, (rd_T46 l0_1 x5_1).f1⟩ : S46) [.int .i64 ((rd_T46 l0_1 x5_1).f0), .int .i64 ((rd_T46 l0_1 x5_1).f1)] (fun _ => True) (fun _ => False) rfl rfl ?aP (fun _ hk => hk.elim) ?aF ?aO ?aB ?aS ?aL ?_; (case aP => exact k46_mkM _ _ _ (⟨(rd_T46 l0_1 x5_1).f0, (rd_T46 l0_1 x5_1).f1⟩ : S46)); (case aB => exact z5_1); (case aF => exact (fun _ _ => trivial)); (case aO => exact (pkR HO_4)); (case aS => exact (below_size z5_1)); (case aL => have := LMc38.out; omega); intro v169 w41 ho hb hg hat; rw [← Ny168.out] at ho; have n0_ := mk0 (Kd.S_after (ok := (fun _ => True)) z5_13 hg hat); have n1_ := mk0 (blk_grown (g := gb140) (o := .cells #[.slice (some ad151) l0_0.length c0_0, .slice (some ad167) l0_1.length c0_1] 31 (0, 0)) (pkb BK140) hg (Kd.R_ne HO_4.out BK140.out (by decide))); have n2_ := mk0 (hb); have n3_ := mk0 (ho); clear HO_3 BK140 HB HO_4; have HO_3 := n0_; have BK140 := n1_; have HB := n2_; have HO170 := n3_; clear n0_ n1_ n2_ n3_ ho hb hg hat; obtain ⟨_, _, _, _⟩ := be_2 BK140.out; have p171 : 0 ≤ (x6_1 : Int) := of_decide_eq_true (by first | (with_reducible assumption) | assumption); have q171 : x6_1 < (l0_0.length : Int) := of_decide_eq_true (by first | (with_reducible assumption) | assumption); obtain ⟨ad171, e171, hx171_0⟩ := Kd.at_int HR0_0.out x6_1 p171 q171; obtain rfl : ad151 = ad171 := (by injection e171); replace hx171_0 := cell_go HB hx171_0; replace p171 := eq_true p171; replace q171 := eq_true q171) | ((with_reducible refine gate_callee (f := 24) rfl ?_); refine goesL_ (some 141) rfl rfl Try.func24 (by kernel_rfl) rfl #[.int .i64 (rd l0_0 x6_1)] rfl z5_3 ?_; (with_reducible refine (spec_NeedOf.calls (rd l0_0 x6_1) t172 _ A39.out).mono ?_); rintro e w43 ⟨rfl, hb⟩; refine ⟨_, rfl, ?_⟩; have n0_ := mk0 (Kd.S_below (pkS HO_3) hb); have n1_ := mk0 (Kd.R_below (pkR HO170) hb); have n2_ := mk0 (blk_belowB BK140 (pkb BK140) hb); have n3_ := mk0 (below_step z5_1 hb); clear HO_3 HO170 BK140 HB; have HO_3 := n0_; have HO170 := n1_; have BK140 := n2_; have HB := n3_; clear n0_ n1_ n2_ n3_; (try clear hb); (try clear hk)))
    go_roundg k1
    case measure => have := HK1.out; omega
    case rel => exact ⟨(x3_1), (y168), (wrap64 (x5_1 + t172)), (wrap64 (x6_1 + 1)), rs0, rs0, H', ⟨(by have := HK1.out; omega)⟩, ⟨z5_8⟩, ⟨pkR HO170⟩, ⟨pkb BK140⟩, ⟨z5_1⟩⟩
   rw [if_neg c35] at H
   have c35b0 : ((rd l0_0 x6_1) == 2) = false := beq_eq_false_iff_ne.mpr c35
   have c35b1 : ((rd l0_0 x6_1) != 2) = true := bne_iff_ne.mpr c35
   by_cases c44 : (rd l0_0 x6_1) = 3
   ·rw [if_pos c44] at H
    have c44b0 : ((rd l0_0 x6_1) == 3) = true := beq_iff_eq.mpr c44
    have c44b1 : ((rd l0_0 x6_1) != 3) = false := bne_eq_false_iff_eq.mpr c44
    clear c44
    obtain ⟨ji45, hji45⟩ : ∃ j_ : Int, (wrap64 ((x4_1.length : Int) - 1)) = j_ := ⟨_, rfl⟩
    replace H : (if 0 ≤ (ji45) then (if (ji45) < (x4_1.length : Int) then (spec_FlatOf.l1 k1 x3_1 x4_1 x5_1 x6_1 1 l0_0 l0_1 ((rd_T46 x4_1 (ji45)).f0) ((rd_T46 x4_1 (ji45)).f1)) else (none)) else (none)) = some r := by first | (rw [hji45] at H; exact H) | (simp only [hji45] at H ⊢; exact H)
    have hji45w : (IntKind.i64.wrap ((x4_1.length : Int) - 1)) = ji45 := (i64_w _).trans hji45
    by_cases c46 : 0 ≤ (ji45)
    rotate_left
    ·rw [if_neg c46] at H
     exact absurd H (by simp)
    rw [if_pos c46] at H
    have c46b0 := decide_eq_true c46
    clear c46
    by_cases c47 : (ji45) < (x4_1.length : Int)
    rotate_left
    ·rw [if_neg c47] at H
     exact absurd H (by simp)
    rw [if_pos c47] at H
    have c47b0 := decide_eq_true c47
    clear c47
    have H' := mk0 H
    clear H
    obtain ⟨_, _, _, _⟩ := be_2 BK140.out
    have p151 : 0 ≤ (x6_1 : Int) := of_decide_eq_true (by first | (with_reducible assumption) | assumption)
    have q151 : x6_1 < (l0_0.length : Int) := of_decide_eq_true (by first | (with_reducible assumption) | assumption)
    obtain ⟨ad151, e151, hx151_0⟩ := Kd.at_int HR0_0.out x6_1 p151 q151
    cases e151
    replace hx151_0 := cell_go HB hx151_0
    replace p151 := eq_true p151
    replace q151 := eq_true q151
    obtain ⟨Ao49, co49, eo49⟩ := Kd.R_slice HO_4.out
    subst eo49
    have p173 : 0 ≤ ((ji45) : Int) := of_decide_eq_true (by first | (with_reducible assumption) | assumption)
    have q173 : (ji45) < (x4_1.length : Int) := of_decide_eq_true (by first | (with_reducible assumption) | assumption)
    (try (obtain ⟨Aq173, cq173, eq173⟩ := Kd.R_slice HO_4.out; subst eq173))
    obtain ⟨ad173, e173, hx173_0, hx173_1⟩ := at_T46 (Kd.R_reads' HO_4.out).2.2 (ji45) p173 q173
    cases e173
    replace p173 := eq_true p173
    replace q173 := eq_true q173
    go_wp2_with (first | ((with_reducible refine gate_dst (N := 7) rfl ?_); refine boxz (cs := #[.int .i64 0, .int .i64 0]) (t := 46) rfl ?_; intro gb174 hg w50 hbox hb; have n0_ := mk0 (Kd.S_below (Kd.S_elderB (pkS HO_3) gb174 (Nat.le_of_eq hg.symm)) hb); have n1_ := mk0 (Kd.R_below (Kd.R_elderB (pkR HO_4) gb174 (Nat.le_of_eq hg.symm)) hb); have n2_ := mk0 (blk_belowB BK140 (pkb BK140) hb); have n3_ := mk0 (below_step z5_1 hb); have n4_ := mk0 (hbox); have GW174 := mk0 (ge_go (a := w.heap.size) hg (below_size z5_1)); have GE174 := GW174; have NB140_174 := mk0 (nb_lt hg (blk_ltB BK140 (pkb BK140))); have NB174_140 := mk0 (nb_gt hg (blk_ltB BK140 (pkb BK140))); clear HO_3 HO_4 BK140 HB; have HO_3 := n0_; have HO_4 := n1_; have BK140 := n2_; have HB := n3_; have BK174 := n4_; clear n0_ n1_ n2_ n3_ n4_ ; clear hb hbox hg; have hnb51 := NB174_140.out; have hnc51 := NB140_174.out; obtain ⟨_, _, _, _⟩ := be_2 BK174.out))
    go_loopg [4, 8] k1 (fun kq v4 v8 w' => ∃ (x4_2 : List (S46)) (x8_2 : Int), v8 = .int .i64 x8_2 ∧ Aside0 (spec_FlatOf.l1 kq x3_1 x4_2 x5_1 x6_1 x8_2 l0_0 l0_1 ((rd_T46 x4_1 (ji45)).f0) ((rd_T46 x4_1 (ji45)).f1) = some r) ∧ Aside0 (kq ≤ k1) ∧ Aside0 (Kd.S (Kd.slice 46 k46) 29 w' w.heap.size (fun k_ => some k_ ≠ (v4 : Value).ownBlock ∧ k_ ≠ gb174) u3 x3_1) ∧ Aside0 (Kd.R k46 46 w' w.heap.size (fun k_ => k_ ≠ gb174) v4 x4_2) ∧ Aside0 (w'.heap[gb140]? = some (.cells #[(.slice (some ad151) l0_0.length c0_0), (.slice A0_1 l0_1.length c0_1)] 31 (0, 0))) ∧ Aside0 (w'.heap[gb174]? = some (.cells #[.int .i64 ((rd_T46 x4_1 (ji45)).f0), .int .i64 ((rd_T46 x4_1 (ji45)).f1)] 46 (0, 0))) ∧ Aside0 (Below w.heap.size w w'))
    case atStart => exact ⟨(x4_1), (1), rs0, H', ⟨Nat.le_refl _⟩, ⟨(by (with_reducible repeat (first | apply Kd.S_alloc | apply Kd.S_drewN | apply Kd.S_drew)); exact Kd.S_mono (Kd.S_far (p := ⟨gb174, 1, none⟩) (Kd.S_far (p := ⟨gb174, 0, none⟩) (Kd.S_mono HO_3.out (fun k_ hk => (⟨hk, hk.2⟩ : _ ∧ k_ ≠ gb174))) (fun _ hk => hk.2) (.int .i64 ((rd_T46 x4_1 (ji45)).f0))) (fun _ hk => hk.2) (.int .i64 ((rd_T46 x4_1 (ji45)).f1))) (fun _ hk => ⟨hk.1.1, hk.1.2⟩))⟩, ⟨(by (with_reducible repeat (first | apply Kd.R_alloc | apply Kd.R_drewN | apply Kd.R_drew)); exact Kd.R_mono (Kd.R_far (p := ⟨gb174, 1, none⟩) (Kd.R_far (p := ⟨gb174, 0, none⟩) (Kd.R_mono HO_4.out (fun k_ hk => (⟨hk, hk.2⟩ : _ ∧ k_ ≠ gb174))) (fun _ hk => hk.2) (.int .i64 ((rd_T46 x4_1 (ji45)).f0))) (fun _ hk => hk.2) (.int .i64 ((rd_T46 x4_1 (ji45)).f1))) (fun _ hk => hk.1.2))⟩, ⟨(by (with_reducible repeat (first | refine blk_drewN ?_ _ | refine blk_drew ?_ | refine blk_alloc ?_ _)); refine blk_far ?_ NB140_174.out _; (with_reducible repeat (first | refine blk_drewN ?_ _ | refine blk_drew ?_ | refine blk_alloc ?_ _)); refine blk_far ?_ NB140_174.out _; (with_reducible repeat (first | refine blk_drewN ?_ _ | refine blk_drew ?_ | refine blk_alloc ?_ _)); exact BK140.out)⟩, ⟨(by (with_reducible repeat (first | refine blk_drewN ?_ _ | refine blk_drew ?_ | refine blk_alloc ?_ _)); refine blk_put (cs := #[.int .i64 ((rd_T46 x4_1 (ji45)).f0), .int .i64 0]) ?_ 1 _ rfl; (with_reducible repeat (first | refine blk_drewN ?_ _ | refine blk_drew ?_ | refine blk_alloc ?_ _)); refine blk_put (cs := #[.int .i64 0, .int .i64 0]) ?_ 0 _ rfl; (with_reducible repeat (first | refine blk_drewN ?_ _ | refine blk_drew ?_ | refine blk_alloc ?_ _)); exact BK174.out)⟩, ⟨z5_4⟩⟩
    case round =>
     clear H'
     try clear c1
     try clear p1
     try clear q1
     try clear hx1
     try clear c2
     try clear p2
     try clear c3
     try clear c4
     try clear c5
     try clear c6
     try clear p6
     try clear c11
     try clear c11b0
     try clear c12
     try clear c12b0
     try clear c13
     try clear c13b0
     try clear c13b1
     try clear c14
     try clear c14b0
     try clear c15
     try clear p15
     try clear q15
     try clear hx15
     try clear c16
     try clear c16b0
     try clear p16
     try clear q16
     try clear hx16
     try clear c17
     try clear c17b0
     try clear p17
     try clear q17
     try clear hx17
     try clear c21
     try clear c24
     try clear c27
     try clear c27b0
     try clear c28
     try clear c28b0
     try clear c35
     try clear c35b0
     try clear c35b1
     try clear c36
     try clear c36b0
     try clear c37
     try clear c37b0
     try clear c38
     try clear c44
     try clear c44b0
     try clear c44b1
     try clear c46
     try clear c46b0
     try clear c47
     try clear c47b0
     try clear c51
     try clear hcz19_0
     try clear hcz19_1
     try clear hcz22_0
     try clear hcz22_1
     try clear hcz25_0
     try clear hcz25_1
     try clear hcz30_0
     try clear hcz30_1
     try clear hcz33_0
     try clear hcz33_1
     try clear hcz40_0
     try clear hcz40_1
     try clear hcz42_0
     try clear hcz42_1
     try clear hcz48_0
     try clear hcz48_1
     try clear hcz52_0
     try clear hcz52_1
     try clear hcz7_0
     try clear hcz7_1
     try clear hfz19_0
     try clear hfz19_1
     try clear hfz22_0
     try clear hfz22_1
     try clear hfz25_0
     try clear hfz25_1
     try clear hfz30_0
     try clear hfz30_1
     try clear hfz33_0
     try clear hfz33_1
     try clear hfz40_0
     try clear hfz40_1
     try clear hfz42_0
     try clear hfz42_1
     try clear hfz48_0
     try clear hfz48_1
     try clear hfz52_0
     try clear hfz52_1
     try clear hfz7_0
     try clear hfz7_1
     try clear hx151_0
     try clear hx155_0
     try clear hx155_1
     try clear hx159_0
     try clear hx161_0
     try clear hx161_1
     try clear hx165_0
     try clear hx167_0
     try clear hx167_1
     try clear hx171_0
     try clear hx173_0
     try clear hx173_1
     try clear p151
     try clear p155
     try clear p159
     try clear p161
     try clear p165
     try clear p167
     try clear p171
     try clear p173
     try clear p2
     try clear q151
     try clear q155
     try clear q159
     try clear q161
     try clear q165
     try clear q167
     try clear q171
     try clear q173
     obtain ⟨x4_2, x8_2, rfl, HA, HK2, HO_3, HO_4, BK140, BK174, HB⟩ := hrel
     cases gk with
     | zero => exact absurd HA.out (by simp [spec_FlatOf.l1])
     | succ k2 =>
      have H := HA.out; clear HA
      simp only [spec_FlatOf.l1] at H
      by_cases c53 : x8_2 ≤ 4
      rotate_left
      ·rw [if_neg c53] at H
       have c53b0 := decide_eq_false c53
       clear c53
       by_cases c64 : 0 ≤ x6_1
       rotate_left
       ·rw [if_neg c64] at H
        exact absurd H (by simp)
       rw [if_pos c64] at H
       have c64b0 := decide_eq_true c64
       clear c64
       by_cases c65 : x6_1 < (l0_0.length : Int)
       rotate_left
       ·rw [if_neg c65] at H
        exact absurd H (by simp)
       rw [if_pos c65] at H
       have c65b0 := decide_eq_true c65
       clear c65
       replace H := Option.bind_eq_some_iff.mp H
       obtain ⟨t183, A660, H⟩ := H
       try dsimp only at H
       have A66 := mk0 A660
       clear A660
       have H' := mk0 H
       clear H; have hnb67 := NB140_174.out; have hnc67 := NB174_140.out
       obtain ⟨_, _, _, _⟩ := be_2 BK140.out
       have p182 : 0 ≤ (x6_1 : Int) := of_decide_eq_true (by first | (with_reducible assumption) | assumption)
       have q182 : x6_1 < (l0_0.length : Int) := of_decide_eq_true (by first | (with_reducible assumption) | assumption)
       obtain ⟨ad182, e182, hx182_0⟩ := Kd.at_int HR0_0.out x6_1 p182 q182
       obtain rfl : ad151 = ad182 := (by injection e182)
       replace hx182_0 := cell_go HB hx182_0
       replace p182 := eq_true p182
       replace q182 := eq_true q182
       go_wp2_with (first | ((with_reducible refine gate_callee (f := 24) rfl ?_); refine goesL_ (some 141) rfl rfl Try.func24 (by kernel_rfl) rfl #[.int .i64 (rd l0_0 x6_1)] rfl z5_3 ?_; (with_reducible refine (spec_NeedOf.calls (rd l0_0 x6_1) t183 _ A66.out).mono ?_); rintro e w69 ⟨rfl, hb⟩; refine ⟨_, rfl, ?_⟩; have n0_ := mk0 (Kd.S_below (pkS HO_3) hb); have n1_ := mk0 (Kd.R_below (pkR HO_4) hb); have n2_ := mk0 (blk_belowB BK140 (pkb BK140) hb); have n3_ := mk0 (blk_belowB BK174 (pkb BK174) hb); have n4_ := mk0 (below_step z5_4 hb); clear HO_3 HO_4 BK140 BK174 HB; have HO_3 := n0_; have HO_4 := n1_; have BK140 := n2_; have BK174 := n3_; have HB := n4_; clear n0_ n1_ n2_ n3_ n4_; (try clear hb)))
       go_roundg k2
       case measure => have := HK1.out; have := HK2.out; omega
       case rel => exact ⟨(x3_1), (x4_2), (wrap64 (x5_1 + t183)), (wrap64 (x6_1 + 1)), rs0, rs0, H', ⟨(by have := HK1.out; have := HK2.out; omega)⟩, ⟨z5_15⟩, ⟨z5_14⟩, ⟨pkb BK140⟩, ⟨z5_4⟩⟩
      rw [if_pos c53] at H
      have c53b0 := decide_eq_true c53
      clear c53
      by_cases c54 : 0 ≤ x5_1
      rotate_left
      ·rw [if_neg c54] at H
       exact absurd H (by simp)
      rw [if_pos c54] at H
      have c54b0 := decide_eq_true c54
      clear c54
      by_cases c55 : x5_1 < (l0_1.length : Int)
      rotate_left
      ·rw [if_neg c55] at H
       exact absurd H (by simp)
      rw [if_pos c55] at H
      have c55b0 := decide_eq_true c55
      clear c55
      obtain ⟨ji56, hji56⟩ : ∃ j_ : Int, (wrap64 (x5_1 + 1)) = j_ := ⟨_, rfl⟩
      replace H : (if 0 ≤ (ji56) then (if (ji56) < (l0_1.length : Int) then ((spec_QuadAt.f k2 ((rd_T46 x4_1 (ji45)).f0) ((rd_T46 x4_1 (ji45)).f1) ((rd_T46 l0_1 x5_1).f0) ((rd_T46 l0_1 x5_1).f1) ((rd_T46 l0_1 (ji56)).f0) ((rd_T46 l0_1 (ji56)).f1) x8_2).bind fun bt177 => (if x4_2.length < 8796093022208 then (spec_FlatOf.l1 k2 x3_1 (x4_2 ++ [(⟨bt177.1, bt177.2⟩ : S46)]) x5_1 x6_1 (wrap64 (x8_2 + 1)) l0_0 l0_1 ((rd_T46 x4_1 (ji45)).f0) ((rd_T46 x4_1 (ji45)).f1)) else (none))) else (none)) else (none)) = some r := by first | (rw [hji56] at H; exact H) | (simp only [hji56] at H ⊢; exact H)
      have hji56w : (IntKind.i64.wrap (x5_1 + 1)) = ji56 := (i64_w _).trans hji56
      by_cases c57 : 0 ≤ (ji56)
      rotate_left
      ·rw [if_neg c57] at H
       exact absurd H (by simp)
      rw [if_pos c57] at H
      have c57b0 := decide_eq_true c57
      clear c57
      by_cases c58 : (ji56) < (l0_1.length : Int)
      rotate_left
      ·rw [if_neg c58] at H
       exact absurd H (by simp)
      rw [if_pos c58] at H
      have c58b0 := decide_eq_true c58
      clear c58
      replace H := Option.bind_eq_some_iff.mp H
      obtain ⟨⟨t177, t178⟩, A590, H⟩ := H
      try dsimp only at H
      have A59 := mk0 A590
      clear A590
      by_cases c60 : x4_2.length < 8796093022208
      rotate_left
      ·rw [if_neg c60] at H
       exact absurd H (by simp)
      rw [if_pos c60] at H
      have LMc60 := mk0 c60
      clear c60
      obtain ⟨y179, hy_⟩ : ∃ y_ : List (S46), y_ = (x4_2 ++ [(⟨t177, t178⟩ : S46)]) := ⟨_, rfl⟩
      replace H : (spec_FlatOf.l1 k2 x3_1 y179 x5_1 x6_1 (wrap64 (x8_2 + 1)) l0_0 l0_1 ((rd_T46 x4_1 (ji45)).f0) ((rd_T46 x4_1 (ji45)).f1)) = some r := z5_2
      have Ny179 := mk0 hy_
      clear hy_
      have H' := mk0 H
      clear H
      try go_wp2
      have n0_ := mk0 (Kd.S_drew HO_3.out)
      have n1_ := mk0 (Kd.R_drew HO_4.out)
      have n2_ := mk0 (blk_drew BK140.out)
      have n3_ := mk0 (blk_drew BK174.out)
      have n4_ := mk0 (below_drew1 HB.out)
      clear HO_3 HO_4 BK140 BK174 HB; have HO_3 := n0_; have HO_4 := n1_; have BK140 := n2_; have BK174 := n3_; have HB := n4_; clear n0_ n1_ n2_ n3_ n4_
      have p175 : 0 ≤ (x5_1 : Int) := of_decide_eq_true (by first | (with_reducible assumption) | assumption)
      have q175 : x5_1 < (l0_1.length : Int) := of_decide_eq_true (by first | (with_reducible assumption) | assumption)
      obtain ⟨ad175, e175, hx175_0, hx175_1⟩ := at_T46 HR0_1.out x5_1 p175 q175
      have hw175_1 := hx175_1; have hw175_0 := hx175_0
      cases e175
      replace hx175_0 := cell_go HB hx175_0
      replace hx175_1 := cell_go HB hx175_1
      replace p175 := eq_true p175
      replace q175 := eq_true q175
      have p176 : 0 ≤ ((ji56) : Int) := of_decide_eq_true (by first | (with_reducible assumption) | assumption)
      have q176 : (ji56) < (l0_1.length : Int) := of_decide_eq_true (by first | (with_reducible assumption) | assumption)
      obtain ⟨ad176, e176, hx176_0, hx176_1⟩ := at_T46 HR0_1.out (ji56) p176 q176
      have hw176_1 := hx176_1; have hw176_0 := hx176_0
      obtain rfl : ad175 = ad176 := (by injection e176)
      replace hx176_0 := cell_go HB hx176_0
      replace hx176_1 := cell_go HB hx176_1
      replace p176 := eq_true p176
      replace q176 := eq_true q176
      refine start_ (n := 18) (S := fun w' => w'.cell? ⟨gb174, 0, none⟩ = some (.int .i64 ((rd_T46 x4_1 (ji45)).f0)) ∧ w'.cell? ⟨gb174, 1, none⟩ = some (.int .i64 ((rd_T46 x4_1 (ji45)).f1)) ∧ w'.cell? ⟨gb140, 0, none⟩ = some (.slice (some ad151) l0_0.length c0_0) ∧ w'.cell? ⟨gb140, 1, none⟩ = some (.slice (some ad175) l0_1.length c0_1) ∧ w'.cell? (ad175.add ((x5_1).toNat * 2)) = some (.int .i64 ((rd_T46 l0_1 x5_1).f0)) ∧ w'.cell? ⟨(ad175.add ((x5_1).toNat * 2)).block, (ad175.add ((x5_1).toNat * 2)).off + 1, none⟩ = some (.int .i64 ((rd_T46 l0_1 x5_1).f1)) ∧ w'.cell? (ad175.add (((ji56)).toNat * 2)) = some (.int .i64 ((rd_T46 l0_1 (ji56)).f0)) ∧ w'.cell? ⟨(ad175.add (((ji56)).toNat * 2)).block, (ad175.add (((ji56)).toNat * 2)).off + 1, none⟩ = some (.int .i64 ((rd_T46 l0_1 (ji56)).f1))) (ds := []) #[false, false, false, false, false, false, false, false, false, false, false, false, false, false, false, false, false, false] (by kernel_rfl) rfl rfl ⟨(blk_cell BK174.out 0).trans rfl, (blk_cell BK174.out 1).trans rfl, (blk_cell BK140.out 0).trans rfl, (blk_cell BK140.out 1).trans rfl, ((HB.out.cell (World.block_lt_of_cell? w _ hw175_0)).trans hw175_0), ((HB.out.cell (World.block_lt_of_cell? w _ hw175_1)).trans hw175_1), ((HB.out.cell (World.block_lt_of_cell? w _ hw176_0)).trans hw176_0), ((HB.out.cell (World.block_lt_of_cell? w _ hw176_1)).trans hw176_1)⟩ (fun hHeld => ?_); refine with_tabW spec_FlatOf.tab21 spec_FlatOf.bits21 (fun HT_ HW_ => ?_)
      generalize wr.drew = w61 at HO_3 HO_4 BK140 BK174 HB hx175_0 hx175_1 hx176_0 hx176_1 hHeld ⊢
      refine pzv (i := 0) (N := 65) (v := ?_) (a' := ?_) (bA 18 1) HT_ ?_ ?_ ?_
      rotate_left
      ·intro w'
       go_simp; with_reducible rfl
      rotate_left
      ·exact x5_put
      refine pzv (i := 2) (N := 67) (v := ?_) (a' := ?_) (bA 18 5) HT_ ?_ ?_ ?_
      rotate_left
      ·intro w'
       go_simp; with_reducible rfl
      rotate_left
      ·exact x5_put
      refine pzv (i := 4) (N := 69) (v := ?_) (a' := ?_) (bA 18 21) HT_ ?_ ?_ ?_
      rotate_left
      ·intro w'
       go_simp; with_reducible rfl
      rotate_left
      ·exact x5_put
      refine pzv (i := 7) (N := 72) (v := ?_) (a' := ?_) (bA 18 149) HT_ ?_ ?_ ?_
      rotate_left
      ·intro w'
       go_simp; with_reducible rfl
      rotate_left
      ·exact x5_put
      refine pzv (i := 9) (N := 74) (v := ?_) (a' := ?_) (bA 18 661) HT_ ?_ ?_ ?_
      rotate_left
      ·intro w'
       go_simp; with_reducible rfl
      rotate_left
      ·exact x5_put
      refine pzv (i := 10) (N := 75) (v := ?_) (a' := ?_) (bA 18 1685) HT_ ?_ ?_ ?_
      rotate_left
      ·intro w'
       go_simp; with_reducible rfl
      rotate_left
      ·exact x5_put
      refine pzv (i := 13) (N := 78) (v := ?_) (a' := ?_) (bA 18 9877) HT_ ?_ ?_ ?_
      rotate_left
      ·intro w'
       go_simp; with_reducible rfl
      rotate_left
      ·exact x5_put
      refine take_ (i := 1) (N := some 66) (v := ?_) (a' := ?_) (bA 18 9879) rfl rfl (take_ofW HT_.out HW_.out (by kernel_rfl)) (fun _ _ _ h => h) (Or.inl ⟨by rfl, ?_⟩) hHeld ?_ ?_
      rotate_left
      ·rintro w' ⟨s0, s1, s2, s3, s4, s5, s6, s7⟩
       go_simp; with_reducible rfl
      rotate_left
      ·exact x5_put
      refine take_ (i := 3) (N := some 68) (v := ?_) (a' := ?_) (bA 18 9887) rfl rfl (take_ofW HT_.out HW_.out (by kernel_rfl)) (fun _ _ _ h => h) (Or.inl ⟨by rfl, ?_⟩) hHeld ?_ ?_
      rotate_left
      ·rintro w' ⟨s0, s1, s2, s3, s4, s5, s6, s7⟩
       go_simp; with_reducible rfl
      rotate_left
      ·exact x5_put
      refine pzv (i := 5) (N := 70) (v := ?_) (a' := ?_) (bA 18 9919) HT_ ?_ ?_ ?_
      rotate_left
      ·intro w'
       go_simp; with_reducible rfl
      rotate_left
      ·exact x5_put
      refine take_ (i := 6) (N := some 71) (v := ?_) (a' := ?_) (bA 18 9983) rfl rfl (take_ofW HT_.out HW_.out (by kernel_rfl)) (fun _ _ _ h => h) (Or.inl ⟨by rfl, ?_⟩) hHeld ?_ ?_
      rotate_left
      ·rintro w' ⟨s0, s1, s2, s3, s4, s5, s6, s7⟩
       go_simp; with_reducible rfl
      rotate_left
      ·exact x5_put
      refine take_ (i := 8) (N := some 73) (v := ?_) (a' := ?_) (bA 18 10239) rfl rfl (take_ofW HT_.out HW_.out (by kernel_rfl)) (fun _ _ _ h => h) (Or.inl ⟨by rfl, ?_⟩) hHeld ?_ ?_
      rotate_left
      ·rintro w' ⟨s0, s1, s2, s3, s4, s5, s6, s7⟩
       go_simp; with_reducible rfl
      rotate_left
      ·exact x5_put
      refine pzv (i := 11) (N := 76) (v := ?_) (a' := ?_) (bA 18 12287) HT_ ?_ ?_ ?_
      rotate_left
      ·intro w'
       go_simp; with_reducible rfl
      rotate_left
      ·exact x5_put
      refine take_ (i := 12) (N := some 77) (v := ?_) (a' := ?_) (bA 18 16383) rfl rfl (take_ofW HT_.out HW_.out (by kernel_rfl)) (fun _ _ _ h => h) (Or.inl ⟨by rfl, ?_⟩) hHeld ?_ ?_
      rotate_left
      ·rintro w' ⟨s0, s1, s2, s3, s4, s5, s6, s7⟩
       go_simp; with_reducible rfl
      rotate_left
      ·exact x5_put
      refine one_ (i := 14) (N := some 79) (bA 18 32767) rfl rfl (one_of HT_.out (by kernel_rfl)) (by decide) (fun K hK => ?_)
      refine goes_ Try.func22 (by kernel_rfl) rfl #[.agg #[.int .i64 ((rd_T46 x4_1 (ji45)).f0), .int .i64 ((rd_T46 x4_1 (ji45)).f1)], .agg #[.int .i64 ((rd_T46 l0_1 x5_1).f0), .int .i64 ((rd_T46 l0_1 x5_1).f1)], .agg #[.int .i64 ((rd_T46 l0_1 (ji56)).f0), .int .i64 ((rd_T46 l0_1 (ji56)).f1)], .int .i64 x8_2] (by rfl) rfl rfl (by (try simp only [List.map_toArray, List.map_cons, List.map_nil]); first | done | (simp only [hji45, hji56]; rfl) | rfl | (simp only [List.length_drop, List.length_take]; rfl)) ?_
      with_reducible refine (spec_QuadAt.calls k2 ((rd_T46 x4_1 (ji45)).f0) ((rd_T46 x4_1 (ji45)).f1) ((rd_T46 l0_1 x5_1).f0) ((rd_T46 l0_1 x5_1).f1) ((rd_T46 l0_1 (ji56)).f0) ((rd_T46 l0_1 (ji56)).f1) x8_2 t177 t178 _ A59.out).mono ?_
      rintro e w62 ⟨rfl, hb⟩
      refine ⟨_, rfl, ?_⟩
      have n0_ := mk0 (Kd.S_below (pkS HO_3) hb)
      have n1_ := mk0 (Kd.R_below (pkR HO_4) hb)
      have n2_ := mk0 (blk_belowB BK140 (pkb BK140) hb)
      have n3_ := mk0 (blk_belowB BK174 (pkb BK174) hb)
      have n4_ := mk0 (below_step z5_4 hb)
      clear HO_3 HO_4 BK140 BK174 HB; have HO_3 := n0_; have HO_4 := n1_; have BK140 := n2_; have BK174 := n3_; have HB := n4_; clear n0_ n1_ n2_ n3_ n4_; (try clear hb); (try clear hb2); (try clear hk); (try clear hi)
      refine hK.out _ _ ⟨(blk_cell BK174.out 0).trans rfl, (blk_cell BK174.out 1).trans rfl, (blk_cell BK140.out 0).trans rfl, (blk_cell BK140.out 1).trans rfl, ((HB.out.cell (World.block_lt_of_cell? w _ hw175_0)).trans hw175_0), ((HB.out.cell (World.block_lt_of_cell? w _ hw175_1)).trans hw175_1), ((HB.out.cell (World.block_lt_of_cell? w _ hw176_0)).trans hw176_0), ((HB.out.cell (World.block_lt_of_cell? w _ hw176_1)).trans hw176_1)⟩ (fun hHeld => ?_)
      clear hK K
      refine norm_ (a' := ?_) ?_ ?_
      rotate_left
      ·show Act.put _ (some 79) _ = _
       simp only [Act.put, List.setIfInBounds_toArray, List.set_cons_zero, List.set_cons_succ, i64_w, i32_w]
       rfl
      refine one_ (i := 15) (N := some 80) (bA 18 65535) rfl rfl (one_of HT_.out (by kernel_rfl)) (by decide) (fun K hK => ?_)
      refine value_ (w1 := ?_) (v := ?_) (by rfl) rfl ?_ ?_
      rotate_left 2
      ·go_simp
       constructor
       ·rfl
       rfl
      refine hK.out _ _ ⟨(blk_cell (blk_alloc BK174.out _) 0).trans rfl, (blk_cell (blk_alloc BK174.out _) 1).trans rfl, (blk_cell (blk_alloc BK140.out _) 0).trans rfl, (blk_cell (blk_alloc BK140.out _) 1).trans rfl, (World.cell?_alloc_lt _ _ _ (World.block_lt_of_cell? _ _ (((HB.out.cell (World.block_lt_of_cell? w _ hw175_0)).trans hw175_0)))).trans (((HB.out.cell (World.block_lt_of_cell? w _ hw175_0)).trans hw175_0)), (World.cell?_alloc_lt _ _ _ (World.block_lt_of_cell? _ _ (((HB.out.cell (World.block_lt_of_cell? w _ hw175_1)).trans hw175_1)))).trans (((HB.out.cell (World.block_lt_of_cell? w _ hw175_1)).trans hw175_1)), (World.cell?_alloc_lt _ _ _ (World.block_lt_of_cell? _ _ (((HB.out.cell (World.block_lt_of_cell? w _ hw176_0)).trans hw176_0)))).trans (((HB.out.cell (World.block_lt_of_cell? w _ hw176_0)).trans hw176_0)), (World.cell?_alloc_lt _ _ _ (World.block_lt_of_cell? _ _ (((HB.out.cell (World.block_lt_of_cell? w _ hw176_1)).trans hw176_1)))).trans (((HB.out.cell (World.block_lt_of_cell? w _ hw176_1)).trans hw176_1))⟩ (fun hHeld => ?_)
      clear hK K
      refine norm_ (a' := ?_) ?_ ?_
      rotate_left
      ·show Act.put _ (some 80) _ = _
       simp only [Act.put, List.setIfInBounds_toArray, List.set_cons_zero, List.set_cons_succ, i64_w, i32_w]
       rfl
      refine one_ (i := 16) (N := some 81) (bA 18 131071) rfl rfl (one_of HT_.out (by kernel_rfl)) (by decide) (fun K hK => ?_)
      refine Kd.R_append_step k46 (w0 := w) w.heap.size (by rfl) (.tmp 65) (.tmp 80) 29 46 (.agg #[(.int .i64 0), (.int .i64 0)]) 16 rfl Try.underlying29 info46 rfl (by decide) (by omega) u4 x4_2 (⟨t177, t178⟩ : S46) [.int .i64 t177, .int .i64 t178] (fun k_ => k_ ≠ gb174) (fun _ => False) rfl rfl ?aP (fun _ hk => hk.elim) ?aF ?aO ?aB ?aS ?aL ?_
      (case aP => exact k46_mkM _ _ _ (⟨t177, t178⟩ : S46))
      (case aB => exact z5_4)
      (case aF => exact (fun k_ hk => Kd.freshB (g := gb174) (o := .cells #[.int .i64 ((rd_T46 x4_1 (ji45)).f0), .int .i64 ((rd_T46 x4_1 (ji45)).f1)] 46 (0, 0)) (pkb BK174) k_ hk))
      (case aO => exact (pkR HO_4))
      (case aS => exact (below_size z5_4))
      (case aL => have := LMc60.out; omega)
      intro v180 w63 ho hb hg hat
      rw [← Ny179.out] at ho
      have n0_ := mk0 (Kd.S_after (ok := (fun k_ => k_ ≠ gb174)) z5_7 hg hat)
      have n1_ := mk0 (blk_grown (g := gb140) (o := .cells #[.slice (some ad151) l0_0.length c0_0, .slice (some ad175) l0_1.length c0_1] 31 (0, 0)) (pkb BK140) hg (Kd.R_ne HO_4.out BK140.out (by decide)))
      have n2_ := mk0 (blk_grown (g := gb174) (o := .cells #[.int .i64 ((rd_T46 x4_1 (ji45)).f0), .int .i64 ((rd_T46 x4_1 (ji45)).f1)] 46 (0, 0)) (pkb BK174) hg (Kd.R_away HO_4.out (fun _ hk => hk)))
      have n3_ := mk0 (hb)
      have n4_ := mk0 (ho)
      clear HO_3 BK140 BK174 HB HO_4; have HO_3 := n0_; have BK140 := n1_; have BK174 := n2_; have HB := n3_; have HO181 := n4_; clear n0_ n1_ n2_ n3_ n4_ ho hb hg hat
      refine hK.out _ _ ⟨(blk_cell BK174.out 0).trans rfl, (blk_cell BK174.out 1).trans rfl, (blk_cell BK140.out 0).trans rfl, (blk_cell BK140.out 1).trans rfl, ((HB.out.cell (World.block_lt_of_cell? w _ hw175_0)).trans hw175_0), ((HB.out.cell (World.block_lt_of_cell? w _ hw175_1)).trans hw175_1), ((HB.out.cell (World.block_lt_of_cell? w _ hw176_0)).trans hw176_0), ((HB.out.cell (World.block_lt_of_cell? w _ hw176_1)).trans hw176_1)⟩ (fun hHeld => ?_)
      clear hK K
      refine norm_ (a' := ?_) ?_ ?_
      rotate_left
      ·show Act.put _ (some 81) _ = _
       simp only [Act.put, List.setIfInBounds_toArray, List.set_cons_zero, List.set_cons_succ, i64_w, i32_w]
       rfl
      refine pzv (i := 17) (N := 4) (v := ?_) (a' := ?_) (bA 18 262143) HT_ ?_ ?_ ?_
      rotate_left
      ·intro w'
       go_simp; with_reducible rfl
      rotate_left
      ·exact x5_put
      refine done_ (done_of HT_.out (by kernel_rfl)) ?_
      try go_wp2
      go_roundg k2
      case measure => have := HK1.out; have := HK2.out; omega
      case rel => exact ⟨(y179), (wrap64 (x8_2 + 1)), rs0, H', ⟨(by have := HK1.out; have := HK2.out; omega)⟩, ⟨z5_7⟩, ⟨pkR HO181⟩, ⟨pkb BK140⟩, ⟨pkb BK174⟩, ⟨z5_4⟩⟩
   rw [if_neg c44] at H
   have c44b0 : ((rd l0_0 x6_1) == 3) = false := beq_eq_false_iff_ne.mpr c44
   have c44b1 : ((rd l0_0 x6_1) != 3) = true := bne_iff_ne.mpr c44
   by_cases c70 : (rd l0_0 x6_1) = 4
   rotate_left
   ·rw [if_neg c70] at H
    have c70b0 : ((rd l0_0 x6_1) == 4) = false := beq_eq_false_iff_ne.mpr c70
    have c70b1 : ((rd l0_0 x6_1) != 4) = true := bne_iff_ne.mpr c70
    by_cases c99 : (rd l0_0 x6_1) = 5
    rotate_left
    ·rw [if_neg c99] at H
     have c99b0 : ((rd l0_0 x6_1) == 5) = false := beq_eq_false_iff_ne.mpr c99
     have c99b1 : ((rd l0_0 x6_1) != 5) = true := bne_iff_ne.mpr c99
     replace H := Option.bind_eq_some_iff.mp H
     obtain ⟨t207, A1190, H⟩ := H
     try dsimp only at H
     have A119 := mk0 A1190
     clear A1190
     have H' := mk0 H
     clear H
     obtain ⟨_, _, _, _⟩ := be_2 BK140.out
     have p151 : 0 ≤ (x6_1 : Int) := of_decide_eq_true (by first | (with_reducible assumption) | assumption)
     have q151 : x6_1 < (l0_0.length : Int) := of_decide_eq_true (by first | (with_reducible assumption) | assumption)
     obtain ⟨ad151, e151, hx151_0⟩ := Kd.at_int HR0_0.out x6_1 p151 q151
     cases e151
     replace hx151_0 := cell_go HB hx151_0
     replace p151 := eq_true p151
     replace q151 := eq_true q151
     have p206 : 0 ≤ (x6_1 : Int) := of_decide_eq_true (by first | (with_reducible assumption) | assumption)
     have q206 : x6_1 < (l0_0.length : Int) := of_decide_eq_true (by first | (with_reducible assumption) | assumption)
     obtain ⟨ad206, e206, hx206_0⟩ := Kd.at_int HR0_0.out x6_1 p206 q206
     obtain rfl : ad151 = ad206 := (by injection e206)
     replace hx206_0 := cell_go HB hx206_0
     replace p206 := eq_true p206
     replace q206 := eq_true q206
     go_wp2_with (first | ((with_reducible refine gate_callee (f := 24) rfl ?_); refine goesL_ (some 141) rfl rfl Try.func24 (by kernel_rfl) rfl #[.int .i64 (rd l0_0 x6_1)] rfl z5_3 ?_; (with_reducible refine (spec_NeedOf.calls (rd l0_0 x6_1) t207 _ A119.out).mono ?_); rintro e w121 ⟨rfl, hb⟩; refine ⟨_, rfl, ?_⟩; have n0_ := mk0 (Kd.S_below (pkS HO_3) hb); have n1_ := mk0 (Kd.R_below (pkR HO_4) hb); have n2_ := mk0 (blk_belowB BK140 (pkb BK140) hb); have n3_ := mk0 (below_step z5_1 hb); clear HO_3 HO_4 BK140 HB; have HO_3 := n0_; have HO_4 := n1_; have BK140 := n2_; have HB := n3_; clear n0_ n1_ n2_ n3_; (try clear hb)))
     go_roundg k1
     case measure => have := HK1.out; omega
     case rel => exact ⟨(x3_1), (x4_1), (wrap64 (x5_1 + t207)), (wrap64 (x6_1 + 1)), rs0, rs0, H', ⟨(by have := HK1.out; omega)⟩, ⟨pkS HO_3⟩, ⟨pkR HO_4⟩, ⟨pkb BK140⟩, ⟨z5_1⟩⟩
    rw [if_pos c99] at H
    have c99b0 : ((rd l0_0 x6_1) == 5) = true := beq_iff_eq.mpr c99
    have c99b1 : ((rd l0_0 x6_1) != 5) = false := bne_eq_false_iff_eq.mpr c99
    clear c99
    by_cases c100 : 0 < (x4_1.length : Int)
    rotate_left
    ·rw [if_neg c100] at H
     exact absurd H (by simp)
    rw [if_pos c100] at H
    have c100b0 := decide_eq_true c100
    have c100b1 : decide (0 < x4_1.length) = true := decide_eq_true (by omega)
    clear c100
    obtain ⟨ji101, hji101⟩ : ∃ j_ : Int, (wrap64 ((x4_1.length : Int) - 1)) = j_ := ⟨_, rfl⟩
    replace H : (if 0 ≤ (ji101) then (if (ji101) < (x4_1.length : Int) then (if (!(((rd_T46 x4_1 0).f0) == ((rd_T46 x4_1 (ji101)).f0)) || (!(((rd_T46 x4_1 0).f1) == ((rd_T46 x4_1 (ji101)).f1)))) = true then (if x4_1.length < 8796093022208 then ((spec_NeedOf.f (rd l0_0 x6_1)).bind fun t203 => (spec_FlatOf.l0 k1 x3_1 (x4_1 ++ [(⟨(rd_T46 x4_1 0).f0, (rd_T46 x4_1 0).f1⟩ : S46)]) (wrap64 (x5_1 + t203)) (wrap64 (x6_1 + 1)) l0_0 l0_1)) else (none)) else ((spec_NeedOf.f (rd l0_0 x6_1)).bind fun t205 => (spec_FlatOf.l0 k1 x3_1 x4_1 (wrap64 (x5_1 + t205)) (wrap64 (x6_1 + 1)) l0_0 l0_1))) else (none)) else (none)) = some r := by first | (rw [hji101] at H; exact H) | (simp only [hji101] at H ⊢; exact H)
    have hji101w : (IntKind.i64.wrap ((x4_1.length : Int) - 1)) = ji101 := (i64_w _).trans hji101
    by_cases c102 : 0 ≤ (ji101)
    rotate_left
    ·rw [if_neg c102] at H
     exact absurd H (by simp)
    rw [if_pos c102] at H
    have c102b0 := decide_eq_true c102
    clear c102
    by_cases c103 : (ji101) < (x4_1.length : Int)
    rotate_left
    ·rw [if_neg c103] at H
     exact absurd H (by simp)
    rw [if_pos c103] at H
    have c103b0 := decide_eq_true c103
    clear c103
    by_cases c104 : (!(((rd_T46 x4_1 0).f0) == ((rd_T46 x4_1 (ji101)).f0)) || (!(((rd_T46 x4_1 0).f1) == ((rd_T46 x4_1 (ji101)).f1)))) = true
    rotate_left
    ·rw [if_neg c104] at H
     have c104b0 : (!(((rd_T46 x4_1 0).f0) == ((rd_T46 x4_1 (ji101)).f0)) || (!(((rd_T46 x4_1 0).f1) == ((rd_T46 x4_1 (ji101)).f1)))) = false := by simpa using c104
     clear c104
     replace H := Option.bind_eq_some_iff.mp H
     obtain ⟨t205, A1130, H⟩ := H
     try dsimp only at H
     have A113 := mk0 A1130
     clear A1130
     have H' := mk0 H
     clear H
     obtain ⟨_, _, _, _⟩ := be_2 BK140.out
     have p151 : 0 ≤ (x6_1 : Int) := of_decide_eq_true (by first | (with_reducible assumption) | assumption)
     have q151 : x6_1 < (l0_0.length : Int) := of_decide_eq_true (by first | (with_reducible assumption) | assumption)
     obtain ⟨ad151, e151, hx151_0⟩ := Kd.at_int HR0_0.out x6_1 p151 q151
     cases e151
     replace hx151_0 := cell_go HB hx151_0
     replace p151 := eq_true p151
     replace q151 := eq_true q151
     try go_wp2
     have n0_ := mk0 (Kd.S_drew HO_3.out)
     have n1_ := mk0 (Kd.R_drew HO_4.out)
     have n2_ := mk0 (blk_drew BK140.out)
     have n3_ := mk0 (below_drew1 HB.out)
     clear HO_3 HO_4 BK140 HB; have HO_3 := n0_; have HO_4 := n1_; have BK140 := n2_; have HB := n3_; clear n0_ n1_ n2_ n3_
     obtain ⟨Ao116, co116, eo116⟩ := Kd.R_slice HO_4.out
     (first | subst eo116 | (injection eo116 with f1_ f2_ f3_; have f4_ := f1_.symm; have f5_ := f3_.symm; clear f1_ f2_ f3_; subst f4_; subst f5_))
     have p196 : 0 ≤ (0 : Int) := (by omega)
     have q196 : 0 < (x4_1.length : Int) := of_decide_eq_true (by first | (with_reducible assumption) | assumption)
     (try (obtain ⟨Aq196, cq196, eq196⟩ := Kd.R_slice HO_4.out; subst eq196))
     obtain ⟨ad196, e196, hx196_0, hx196_1⟩ := at_T46 (Kd.R_reads' HO_4.out).2.2 0 p196 q196
     cases e196
     have qi196 : (0 < x4_1.length) = True := eq_true (by omega)
     (try rw [show ((0 : Int)).toNat = 0 from rfl] at hx196_0)
     (try rw [show 0 * 2 = 0 from rfl] at hx196_0)
     (try rw [Addr.add_zero'] at hx196_0)
     (try rw [show ((0 : Int)).toNat = 0 from rfl] at hx196_1)
     (try rw [show 0 * 2 = 0 from rfl] at hx196_1)
     (try rw [Addr.add_zero'] at hx196_1)
     replace p196 := eq_true p196
     replace q196 := eq_true q196
     have p197 : 0 ≤ ((ji101) : Int) := of_decide_eq_true (by first | (with_reducible assumption) | assumption)
     have q197 : (ji101) < (x4_1.length : Int) := of_decide_eq_true (by first | (with_reducible assumption) | assumption)
     obtain ⟨ad197, e197, hx197_0, hx197_1⟩ := at_T46 (Kd.R_reads' HO_4.out).2.2 (ji101) p197 q197
     obtain rfl : ad196 = ad197 := (by injection e197)
     replace p197 := eq_true p197
     replace q197 := eq_true q197
     refine start_ (n := 10) (S := fun w' => w'.cell? ad196 = some (.int .i64 ((rd_T46 x4_1 0).f0)) ∧ w'.cell? ⟨ad196.block, ad196.off + 1, none⟩ = some (.int .i64 ((rd_T46 x4_1 0).f1)) ∧ w'.cell? (ad196.add (((ji101)).toNat * 2)) = some (.int .i64 ((rd_T46 x4_1 (ji101)).f0)) ∧ w'.cell? ⟨(ad196.add (((ji101)).toNat * 2)).block, (ad196.add (((ji101)).toNat * 2)).off + 1, none⟩ = some (.int .i64 ((rd_T46 x4_1 (ji101)).f1))) (ds := []) #[false, false, false, false, false, false, false, false, false, false] (by kernel_rfl) rfl rfl ⟨hx196_0, hx196_1, hx197_0, hx197_1⟩ (fun hHeld => ?_); refine with_tabW spec_FlatOf.tab29 spec_FlatOf.bits29 (fun HT_ HW_ => ?_)
     generalize wr.drew = w115 at HO_3 HO_4 BK140 HB hx196_0 hx196_1 hx197_0 hx197_1 hHeld ⊢
     refine pzv (i := 0) (N := 119) (v := ?_) (a' := ?_) (bA 10 1) HT_ ?_ ?_ ?_
     rotate_left
     ·intro w'
      go_simp; with_reducible rfl
     rotate_left
     ·exact x5_put
     refine pzv (i := 1) (N := 120) (v := ?_) (a' := ?_) (bA 10 3) HT_ ?_ ?_ ?_
     rotate_left
     ·intro w'
      go_simp; with_reducible rfl
     rotate_left
     ·exact x5_put
     refine pzv (i := 3) (N := 122) (v := ?_) (a' := ?_) (bA 10 11) HT_ ?_ ?_ ?_
     rotate_left
     ·intro w'
      go_simp; with_reducible rfl
     rotate_left
     ·exact x5_put
     refine pzv (i := 4) (N := 123) (v := ?_) (a' := ?_) (bA 10 27) HT_ ?_ ?_ ?_
     rotate_left
     ·intro w'
      go_simp; with_reducible rfl
     rotate_left
     ·exact x5_put
     refine pzv (i := 5) (N := 124) (v := ?_) (a' := ?_) (bA 10 59) HT_ ?_ ?_ ?_
     rotate_left
     ·intro w'
      go_simp; with_reducible rfl
     rotate_left
     ·exact x5_put
     refine pzv (i := 6) (N := 125) (v := ?_) (a' := ?_) (bA 10 123) HT_ ?_ ?_ ?_
     rotate_left
     ·intro w'
      go_simp; with_reducible rfl
     rotate_left
     ·exact x5_put
     refine pzv (i := 7) (N := 126) (v := ?_) (a' := ?_) (bA 10 251) HT_ ?_ ?_ ?_
     rotate_left
     ·intro w'
      go_simp; with_reducible rfl
     rotate_left
     ·exact x5_put
     refine take_ (i := 2) (N := some 121) (v := ?_) (a' := ?_) (bA 10 255) rfl rfl (take_ofW HT_.out HW_.out (by kernel_rfl)) (fun _ _ _ h => h) (Or.inl ⟨by rfl, ?_⟩) hHeld ?_ ?_
     rotate_left
     ·rintro w' ⟨s0, s1, s2, s3⟩
      go_simp; with_reducible rfl
     rotate_left
     ·exact x5_put
     refine take_ (i := 8) (N := some 127) (v := ?_) (a' := ?_) (bA 10 511) rfl rfl (take_ofW HT_.out HW_.out (by kernel_rfl)) (fun _ _ _ h => h) (Or.inl ⟨by rfl, ?_⟩) hHeld ?_ ?_
     rotate_left
     ·rintro w' ⟨s0, s1, s2, s3⟩
      go_simp; with_reducible rfl
     rotate_left
     ·exact x5_put
     refine pzv (i := 9) (N := 128) (v := ?_) (a' := ?_) (bA 10 1023) HT_ ?_ ?_ ?_
     rotate_left
     ·intro w'
      go_simp; with_reducible rfl
     rotate_left
     ·exact x5_put
     refine done_ (done_of HT_.out (by kernel_rfl)) ?_
     obtain ⟨_, _, _, _⟩ := be_2 BK140.out
     have p204 : 0 ≤ (x6_1 : Int) := of_decide_eq_true (by first | (with_reducible assumption) | assumption)
     have q204 : x6_1 < (l0_0.length : Int) := of_decide_eq_true (by first | (with_reducible assumption) | assumption)
     obtain ⟨ad204, e204, hx204_0⟩ := Kd.at_int HR0_0.out x6_1 p204 q204
     obtain rfl : ad151 = ad204 := (by injection e204)
     replace hx204_0 := cell_go HB hx204_0
     replace p204 := eq_true p204
     replace q204 := eq_true q204
     try go_wp2_with (first | ((with_reducible refine gate_callee (f := 24) rfl ?_); refine goesL_ (some 141) rfl rfl Try.func24 (by kernel_rfl) rfl #[.int .i64 (rd l0_0 x6_1)] rfl z5_3 ?_; (with_reducible refine (spec_NeedOf.calls (rd l0_0 x6_1) t205 _ A113.out).mono ?_); rintro e w118 ⟨rfl, hb⟩; refine ⟨_, rfl, ?_⟩; have n0_ := mk0 (Kd.S_below (pkS HO_3) hb); have n1_ := mk0 (Kd.R_below (pkR HO_4) hb); have n2_ := mk0 (blk_belowB BK140 (pkb BK140) hb); have n3_ := mk0 (below_step z5_1 hb); clear HO_3 HO_4 BK140 HB; have HO_3 := n0_; have HO_4 := n1_; have BK140 := n2_; have HB := n3_; clear n0_ n1_ n2_ n3_; (try clear hb)))
     go_roundg k1
     case measure => have := HK1.out; omega
     case rel => exact ⟨(x3_1), (x4_1), (wrap64 (x5_1 + t205)), (wrap64 (x6_1 + 1)), rs0, rs0, H', ⟨(by have := HK1.out; omega)⟩, ⟨pkS HO_3⟩, ⟨pkR HO_4⟩, ⟨pkb BK140⟩, ⟨z5_1⟩⟩
    rw [if_pos c104] at H
    have c104b0 : (!(((rd_T46 x4_1 0).f0) == ((rd_T46 x4_1 (ji101)).f0)) || (!(((rd_T46 x4_1 0).f1) == ((rd_T46 x4_1 (ji101)).f1)))) = true := c104
    clear c104
    by_cases c105 : x4_1.length < 8796093022208
    rotate_left
    ·rw [if_neg c105] at H
     exact absurd H (by simp)
    rw [if_pos c105] at H
    have LMc105 := mk0 c105
    clear c105
    obtain ⟨y199, hy_⟩ : ∃ y_ : List (S46), y_ = (x4_1 ++ [(⟨(rd_T46 x4_1 0).f0, (rd_T46 x4_1 0).f1⟩ : S46)]) := ⟨_, rfl⟩
    replace H : ((spec_NeedOf.f (rd l0_0 x6_1)).bind fun t203 => (spec_FlatOf.l0 k1 x3_1 y199 (wrap64 (x5_1 + t203)) (wrap64 (x6_1 + 1)) l0_0 l0_1)) = some r := z5_2
    have Ny199 := mk0 hy_
    clear hy_
    replace H := Option.bind_eq_some_iff.mp H
    obtain ⟨t203, A1060, H⟩ := H
    try dsimp only at H
    have A106 := mk0 A1060
    clear A1060
    have H' := mk0 H
    clear H
    obtain ⟨_, _, _, _⟩ := be_2 BK140.out
    have p151 : 0 ≤ (x6_1 : Int) := of_decide_eq_true (by first | (with_reducible assumption) | assumption)
    have q151 : x6_1 < (l0_0.length : Int) := of_decide_eq_true (by first | (with_reducible assumption) | assumption)
    obtain ⟨ad151, e151, hx151_0⟩ := Kd.at_int HR0_0.out x6_1 p151 q151
    cases e151
    replace hx151_0 := cell_go HB hx151_0
    replace p151 := eq_true p151
    replace q151 := eq_true q151
    try go_wp2
    have n0_ := mk0 (Kd.S_drew HO_3.out)
    have n1_ := mk0 (Kd.R_drew HO_4.out)
    have n2_ := mk0 (blk_drew BK140.out)
    have n3_ := mk0 (below_drew1 HB.out)
    clear HO_3 HO_4 BK140 HB; have HO_3 := n0_; have HO_4 := n1_; have BK140 := n2_; have HB := n3_; clear n0_ n1_ n2_ n3_
    obtain ⟨Ao109, co109, eo109⟩ := Kd.R_slice HO_4.out
    (first | subst eo109 | (injection eo109 with f1_ f2_ f3_; have f4_ := f1_.symm; have f5_ := f3_.symm; clear f1_ f2_ f3_; subst f4_; subst f5_))
    have p196 : 0 ≤ (0 : Int) := (by omega)
    have q196 : 0 < (x4_1.length : Int) := of_decide_eq_true (by first | (with_reducible assumption) | assumption)
    (try (obtain ⟨Aq196, cq196, eq196⟩ := Kd.R_slice HO_4.out; subst eq196))
    obtain ⟨ad196, e196, hx196_0, hx196_1⟩ := at_T46 (Kd.R_reads' HO_4.out).2.2 0 p196 q196
    cases e196
    have qi196 : (0 < x4_1.length) = True := eq_true (by omega)
    (try rw [show ((0 : Int)).toNat = 0 from rfl] at hx196_0)
    (try rw [show 0 * 2 = 0 from rfl] at hx196_0)
    (try rw [Addr.add_zero'] at hx196_0)
    (try rw [show ((0 : Int)).toNat = 0 from rfl] at hx196_1)
    (try rw [show 0 * 2 = 0 from rfl] at hx196_1)
    (try rw [Addr.add_zero'] at hx196_1)
    replace p196 := eq_true p196
    replace q196 := eq_true q196
    have p197 : 0 ≤ ((ji101) : Int) := of_decide_eq_true (by first | (with_reducible assumption) | assumption)
    have q197 : (ji101) < (x4_1.length : Int) := of_decide_eq_true (by first | (with_reducible assumption) | assumption)
    obtain ⟨ad197, e197, hx197_0, hx197_1⟩ := at_T46 (Kd.R_reads' HO_4.out).2.2 (ji101) p197 q197
    obtain rfl : ad196 = ad197 := (by injection e197)
    replace p197 := eq_true p197
    replace q197 := eq_true q197
    refine start_ (n := 10) (S := fun w' => w'.cell? ad196 = some (.int .i64 ((rd_T46 x4_1 0).f0)) ∧ w'.cell? ⟨ad196.block, ad196.off + 1, none⟩ = some (.int .i64 ((rd_T46 x4_1 0).f1)) ∧ w'.cell? (ad196.add (((ji101)).toNat * 2)) = some (.int .i64 ((rd_T46 x4_1 (ji101)).f0)) ∧ w'.cell? ⟨(ad196.add (((ji101)).toNat * 2)).block, (ad196.add (((ji101)).toNat * 2)).off + 1, none⟩ = some (.int .i64 ((rd_T46 x4_1 (ji101)).f1))) (ds := []) #[false, false, false, false, false, false, false, false, false, false] (by kernel_rfl) rfl rfl ⟨hx196_0, hx196_1, hx197_0, hx197_1⟩ (fun hHeld => ?_); refine with_tabW spec_FlatOf.tab29 spec_FlatOf.bits29 (fun HT_ HW_ => ?_)
    generalize wr.drew = w108 at HO_3 HO_4 BK140 HB hx196_0 hx196_1 hx197_0 hx197_1 hHeld ⊢
    refine pzv (i := 0) (N := 119) (v := ?_) (a' := ?_) (bA 10 1) HT_ ?_ ?_ ?_
    rotate_left
    ·intro w'
     go_simp; with_reducible rfl
    rotate_left
    ·exact x5_put
    refine pzv (i := 1) (N := 120) (v := ?_) (a' := ?_) (bA 10 3) HT_ ?_ ?_ ?_
    rotate_left
    ·intro w'
     go_simp; with_reducible rfl
    rotate_left
    ·exact x5_put
    refine pzv (i := 3) (N := 122) (v := ?_) (a' := ?_) (bA 10 11) HT_ ?_ ?_ ?_
    rotate_left
    ·intro w'
     go_simp; with_reducible rfl
    rotate_left
    ·exact x5_put
    refine pzv (i := 4) (N := 123) (v := ?_) (a' := ?_) (bA 10 27) HT_ ?_ ?_ ?_
    rotate_left
    ·intro w'
     go_simp; with_reducible rfl
    rotate_left
    ·exact x5_put
    refine pzv (i := 5) (N := 124) (v := ?_) (a' := ?_) (bA 10 59) HT_ ?_ ?_ ?_
    rotate_left
    ·intro w'
     go_simp; with_reducible rfl
    rotate_left
    ·exact x5_put
    refine pzv (i := 6) (N := 125) (v := ?_) (a' := ?_) (bA 10 123) HT_ ?_ ?_ ?_
    rotate_left
    ·intro w'
     go_simp; with_reducible rfl
    rotate_left
    ·exact x5_put
    refine pzv (i := 7) (N := 126) (v := ?_) (a' := ?_) (bA 10 251) HT_ ?_ ?_ ?_
    rotate_left
    ·intro w'
     go_simp; with_reducible rfl
    rotate_left
    ·exact x5_put
    refine take_ (i := 2) (N := some 121) (v := ?_) (a' := ?_) (bA 10 255) rfl rfl (take_ofW HT_.out HW_.out (by kernel_rfl)) (fun _ _ _ h => h) (Or.inl ⟨by rfl, ?_⟩) hHeld ?_ ?_
    rotate_left
    ·rintro w' ⟨s0, s1, s2, s3⟩
     go_simp; with_reducible rfl
    rotate_left
    ·exact x5_put
    refine take_ (i := 8) (N := some 127) (v := ?_) (a' := ?_) (bA 10 511) rfl rfl (take_ofW HT_.out HW_.out (by kernel_rfl)) (fun _ _ _ h => h) (Or.inl ⟨by rfl, ?_⟩) hHeld ?_ ?_
    rotate_left
    ·rintro w' ⟨s0, s1, s2, s3⟩
     go_simp; with_reducible rfl
    rotate_left
    ·exact x5_put
    refine pzv (i := 9) (N := 128) (v := ?_) (a' := ?_) (bA 10 1023) HT_ ?_ ?_ ?_
    rotate_left
    ·intro w'
     go_simp; with_reducible rfl
    rotate_left
    ·exact x5_put
    refine done_ (done_of HT_.out (by kernel_rfl)) ?_
    have p198 : 0 ≤ (0 : Int) := (by omega)
    have q198 : 0 < (x4_1.length : Int) := of_decide_eq_true (by first | (with_reducible assumption) | assumption)
    obtain ⟨ad198, e198, hx198_0, hx198_1⟩ := at_T46 (Kd.R_reads' HO_4.out).2.2 0 p198 q198
    obtain rfl : ad196 = ad198 := (by injection e198)
    have qi198 : (0 < x4_1.length) = True := eq_true (by omega)
    (try rw [show ((0 : Int)).toNat = 0 from rfl] at hx198_0)
    (try rw [show 0 * 2 = 0 from rfl] at hx198_0)
    (try rw [Addr.add_zero'] at hx198_0)
    (try rw [show ((0 : Int)).toNat = 0 from rfl] at hx198_1)
    (try rw [show 0 * 2 = 0 from rfl] at hx198_1)
    (try rw [Addr.add_zero'] at hx198_1)
    replace p198 := eq_true p198
    replace q198 := eq_true q198
    try go_wp2_with (first | ((with_reducible refine gate_builtin (b := .append) (xs := #[.tmp 129, .tmp 133]) rfl ?_); at_builtin; refine Kd.R_append k46 (w0 := w) w.heap.size rfl (.tmp 129) (.tmp 133) 29 46 (.agg #[(.int .i64 0), (.int .i64 0)]) 16 rfl Try.underlying29 info46 rfl (by decide) (by omega) (.slice (some ad196) x4_1.length co109) x4_1 (⟨(rd_T46 x4_1 0).f0, (rd_T46 x4_1 0).f1⟩ : S46) [.int .i64 ((rd_T46 x4_1 0).f0), .int .i64 ((rd_T46 x4_1 0).f1)] (fun _ => True) (fun _ => False) rfl rfl ?aP (fun _ hk => hk.elim) ?aF ?aO ?aB ?aS ?aL ?_; (case aP => exact k46_mkM _ _ _ (⟨(rd_T46 x4_1 0).f0, (rd_T46 x4_1 0).f1⟩ : S46)); (case aB => exact z5_1); (case aF => exact (fun _ _ => trivial)); (case aO => exact (pkR HO_4)); (case aS => exact (below_size z5_1)); (case aL => have := LMc105.out; omega); intro v200 w110 ho hb hg hat; rw [← Ny199.out] at ho; have n0_ := mk0 (Kd.S_after (ok := (fun _ => True)) z5_13 hg hat); have n1_ := mk0 (blk_grown (g := gb140) (o := .cells #[.slice (some ad151) l0_0.length c0_0, .slice A0_1 l0_1.length c0_1] 31 (0, 0)) (pkb BK140) hg (Kd.R_ne HO_4.out BK140.out (by decide))); have n2_ := mk0 (hb); have n3_ := mk0 (ho); clear HO_3 BK140 HB HO_4; have HO_3 := n0_; have BK140 := n1_; have HB := n2_; have HO201 := n3_; clear n0_ n1_ n2_ n3_ ho hb hg hat; obtain ⟨_, _, _, _⟩ := be_2 BK140.out; have p202 : 0 ≤ (x6_1 : Int) := of_decide_eq_true (by first | (with_reducible assumption) | assumption); have q202 : x6_1 < (l0_0.length : Int) := of_decide_eq_true (by first | (with_reducible assumption) | assumption); obtain ⟨ad202, e202, hx202_0⟩ := Kd.at_int HR0_0.out x6_1 p202 q202; obtain rfl : ad151 = ad202 := (by injection e202); replace hx202_0 := cell_go HB hx202_0; replace p202 := eq_true p202; replace q202 := eq_true q202) | ((with_reducible refine gate_callee (f := 24) rfl ?_); refine goesL_ (some 141) rfl rfl Try.func24 (by kernel_rfl) rfl #[.int .i64 (rd l0_0 x6_1)] rfl z5_3 ?_; (with_reducible refine (spec_NeedOf.calls (rd l0_0 x6_1) t203 _ A106.out).mono ?_); rintro e w112 ⟨rfl, hb⟩; refine ⟨_, rfl, ?_⟩; have n0_ := mk0 (Kd.S_below (pkS HO_3) hb); have n1_ := mk0 (Kd.R_below (pkR HO201) hb); have n2_ := mk0 (blk_belowB BK140 (pkb BK140) hb); have n3_ := mk0 (below_step z5_1 hb); clear HO_3 HO201 BK140 HB; have HO_3 := n0_; have HO201 := n1_; have BK140 := n2_; have HB := n3_; clear n0_ n1_ n2_ n3_; (try clear hb); (try clear hk)))
    go_roundg k1
    case measure => have := HK1.out; omega
    case rel => exact ⟨(x3_1), (y199), (wrap64 (x5_1 + t203)), (wrap64 (x6_1 + 1)), rs0, rs0, H', ⟨(by have := HK1.out; omega)⟩, ⟨z5_8⟩, ⟨pkR HO201⟩, ⟨pkb BK140⟩, ⟨z5_1⟩⟩
   rw [if_pos c70] at H
   have c70b0 : ((rd l0_0 x6_1) == 4) = true := beq_iff_eq.mpr c70
   have c70b1 : ((rd l0_0 x6_1) != 4) = false := bne_eq_false_iff_eq.mpr c70
   clear c70
   obtain ⟨ji71, hji71⟩ : ∃ j_ : Int, (wrap64 ((x4_1.length : Int) - 1)) = j_ := ⟨_, rfl⟩
   replace H : (if 0 ≤ (ji71) then (if (ji71) < (x4_1.length : Int) then (spec_FlatOf.l2 k1 x3_1 x4_1 x5_1 x6_1 1 l0_0 l0_1 ((rd_T46 x4_1 (ji71)).f0) ((rd_T46 x4_1 (ji71)).f1)) else (none)) else (none)) = some r := by first | (rw [hji71] at H; exact H) | (simp only [hji71] at H ⊢; exact H)
   have hji71w : (IntKind.i64.wrap ((x4_1.length : Int) - 1)) = ji71 := (i64_w _).trans hji71
   by_cases c72 : 0 ≤ (ji71)
   rotate_left
   ·rw [if_neg c72] at H
    exact absurd H (by simp)
   rw [if_pos c72] at H
   have c72b0 := decide_eq_true c72
   clear c72
   by_cases c73 : (ji71) < (x4_1.length : Int)
   rotate_left
   ·rw [if_neg c73] at H
    exact absurd H (by simp)
   rw [if_pos c73] at H
   have c73b0 := decide_eq_true c73
   clear c73
   have H' := mk0 H
   clear H
   obtain ⟨_, _, _, _⟩ := be_2 BK140.out
   have p151 : 0 ≤ (x6_1 : Int) := of_decide_eq_true (by first | (with_reducible assumption) | assumption)
   have q151 : x6_1 < (l0_0.length : Int) := of_decide_eq_true (by first | (with_reducible assumption) | assumption)
   obtain ⟨ad151, e151, hx151_0⟩ := Kd.at_int HR0_0.out x6_1 p151 q151
   cases e151
   replace hx151_0 := cell_go HB hx151_0
   replace p151 := eq_true p151
   replace q151 := eq_true q151
   obtain ⟨Ao75, co75, eo75⟩ := Kd.R_slice HO_4.out
   subst eo75
   have p184 : 0 ≤ ((ji71) : Int) := of_decide_eq_true (by first | (with_reducible assumption) | assumption)
   have q184 : (ji71) < (x4_1.length : Int) := of_decide_eq_true (by first | (with_reducible assumption) | assumption)
   (try (obtain ⟨Aq184, cq184, eq184⟩ := Kd.R_slice HO_4.out; subst eq184))
   obtain ⟨ad184, e184, hx184_0, hx184_1⟩ := at_T46 (Kd.R_reads' HO_4.out).2.2 (ji71) p184 q184
   cases e184
   replace p184 := eq_true p184
   replace q184 := eq_true q184
   go_wp2_with (first | ((with_reducible refine gate_dst (N := 9) rfl ?_); refine boxz (cs := #[.int .i64 0, .int .i64 0]) (t := 46) rfl ?_; intro gb185 hg w76 hbox hb; have n0_ := mk0 (Kd.S_below (Kd.S_elderB (pkS HO_3) gb185 (Nat.le_of_eq hg.symm)) hb); have n1_ := mk0 (Kd.R_below (Kd.R_elderB (pkR HO_4) gb185 (Nat.le_of_eq hg.symm)) hb); have n2_ := mk0 (blk_belowB BK140 (pkb BK140) hb); have n3_ := mk0 (below_step z5_1 hb); have n4_ := mk0 (hbox); have GW185 := mk0 (ge_go (a := w.heap.size) hg (below_size z5_1)); have GE185 := GW185; have NB140_185 := mk0 (nb_lt hg (blk_ltB BK140 (pkb BK140))); have NB185_140 := mk0 (nb_gt hg (blk_ltB BK140 (pkb BK140))); clear HO_3 HO_4 BK140 HB; have HO_3 := n0_; have HO_4 := n1_; have BK140 := n2_; have HB := n3_; have BK185 := n4_; clear n0_ n1_ n2_ n3_ n4_ ; clear hb hbox hg; have hnb77 := NB185_140.out; have hnc77 := NB140_185.out; obtain ⟨_, _, _, _⟩ := be_2 BK185.out))
   go_loopg [4, 10] k1 (fun kq v4 v10 w' => ∃ (x4_2 : List (S46)) (x10_2 : Int), v10 = .int .i64 x10_2 ∧ Aside0 (spec_FlatOf.l2 kq x3_1 x4_2 x5_1 x6_1 x10_2 l0_0 l0_1 ((rd_T46 x4_1 (ji71)).f0) ((rd_T46 x4_1 (ji71)).f1) = some r) ∧ Aside0 (kq ≤ k1) ∧ Aside0 (Kd.S (Kd.slice 46 k46) 29 w' w.heap.size (fun k_ => some k_ ≠ (v4 : Value).ownBlock ∧ k_ ≠ gb185) u3 x3_1) ∧ Aside0 (Kd.R k46 46 w' w.heap.size (fun k_ => k_ ≠ gb185) v4 x4_2) ∧ Aside0 (w'.heap[gb140]? = some (.cells #[(.slice (some ad151) l0_0.length c0_0), (.slice A0_1 l0_1.length c0_1)] 31 (0, 0))) ∧ Aside0 (w'.heap[gb185]? = some (.cells #[.int .i64 ((rd_T46 x4_1 (ji71)).f0), .int .i64 ((rd_T46 x4_1 (ji71)).f1)] 46 (0, 0))) ∧ Aside0 (Below w.heap.size w w'))
   case atStart => exact ⟨(x4_1), (1), rs0, H', ⟨Nat.le_refl _⟩, ⟨(by (with_reducible repeat (first | apply Kd.S_alloc | apply Kd.S_drewN | apply Kd.S_drew)); exact Kd.S_mono (Kd.S_far (p := ⟨gb185, 1, none⟩) (Kd.S_far (p := ⟨gb185, 0, none⟩) (Kd.S_mono HO_3.out (fun k_ hk => (⟨hk, hk.2⟩ : _ ∧ k_ ≠ gb185))) (fun _ hk => hk.2) (.int .i64 ((rd_T46 x4_1 (ji71)).f0))) (fun _ hk => hk.2) (.int .i64 ((rd_T46 x4_1 (ji71)).f1))) (fun _ hk => ⟨hk.1.1, hk.1.2⟩))⟩, ⟨(by (with_reducible repeat (first | apply Kd.R_alloc | apply Kd.R_drewN | apply Kd.R_drew)); exact Kd.R_mono (Kd.R_far (p := ⟨gb185, 1, none⟩) (Kd.R_far (p := ⟨gb185, 0, none⟩) (Kd.R_mono HO_4.out (fun k_ hk => (⟨hk, hk.2⟩ : _ ∧ k_ ≠ gb185))) (fun _ hk => hk.2) (.int .i64 ((rd_T46 x4_1 (ji71)).f0))) (fun _ hk => hk.2) (.int .i64 ((rd_T46 x4_1 (ji71)).f1))) (fun _ hk => hk.1.2))⟩, ⟨(by (with_reducible repeat (first | refine blk_drewN ?_ _ | refine blk_drew ?_ | refine blk_alloc ?_ _)); refine blk_far ?_ NB140_185.out _; (with_reducible repeat (first | refine blk_drewN ?_ _ | refine blk_drew ?_ | refine blk_alloc ?_ _)); refine blk_far ?_ NB140_185.out _; (with_reducible repeat (first | refine blk_drewN ?_ _ | refine blk_drew ?_ | refine blk_alloc ?_ _)); exact BK140.out)⟩, ⟨(by (with_reducible repeat (first | refine blk_drewN ?_ _ | refine blk_drew ?_ | refine blk_alloc ?_ _)); refine blk_put (cs := #[.int .i64 ((rd_T46 x4_1 (ji71)).f0), .int .i64 0]) ?_ 1 _ rfl; (with_reducible repeat (first | refine blk_drewN ?_ _ | refine blk_drew ?_ | refine blk_alloc ?_ _)); refine blk_put (cs := #[.int .i64 0, .int .i64 0]) ?_ 0 _ rfl; (with_reducible repeat (first | refine blk_drewN ?_ _ | refine blk_drew ?_ | refine blk_alloc ?_ _)); exact BK185.out)⟩, ⟨z5_5⟩⟩
   case round =>
    clear H'
    try clear c1
    try clear p1
    try clear q1
    try clear hx1
    try clear c2
    try clear p2
    try clear c3
    try clear c4
    try clear c5
    try clear c6
    try clear p6
    try clear c7
    try clear c11
    try clear c11b0
    try clear c12
    try clear c12b0
    try clear c13
    try clear c13b0
    try clear c13b1
    try clear c14
    try clear c14b0
    try clear c15
    try clear p15
    try clear q15
    try clear hx15
    try clear c16
    try clear c16b0
    try clear p16
    try clear q16
    try clear hx16
    try clear c17
    try clear c17b0
    try clear p17
    try clear q17
    try clear hx17
    try clear p18
    try clear q18
    try clear hx18
    try clear c21
    try clear c22
    try clear c24
    try clear c27
    try clear c27b0
    try clear c28
    try clear c28b0
    try clear c35
    try clear c35b0
    try clear c35b1
    try clear c36
    try clear c36b0
    try clear c37
    try clear c37b0
    try clear c38
    try clear c44
    try clear c44b0
    try clear c44b1
    try clear c46
    try clear c46b0
    try clear c47
    try clear c47b0
    try clear c51
    try clear c53
    try clear c53b0
    try clear c54
    try clear c54b0
    try clear c55
    try clear c55b0
    try clear c57
    try clear c57b0
    try clear c58
    try clear c58b0
    try clear c60
    try clear c64
    try clear c64b0
    try clear p64
    try clear c65
    try clear c65b0
    try clear c67
    try clear c70
    try clear c70b0
    try clear c70b1
    try clear c72
    try clear c72b0
    try clear c73
    try clear c73b0
    try clear c77
    try clear hcz19_0
    try clear hcz19_1
    try clear hcz22_0
    try clear hcz22_1
    try clear hcz25_0
    try clear hcz25_1
    try clear hcz30_0
    try clear hcz30_1
    try clear hcz33_0
    try clear hcz33_1
    try clear hcz40_0
    try clear hcz40_1
    try clear hcz42_0
    try clear hcz42_1
    try clear hcz48_0
    try clear hcz48_1
    try clear hcz52_0
    try clear hcz52_1
    try clear hcz68_0
    try clear hcz68_1
    try clear hcz74_0
    try clear hcz74_1
    try clear hcz78_0
    try clear hcz78_1
    try clear hcz7_0
    try clear hcz7_1
    try clear hfz19_0
    try clear hfz19_1
    try clear hfz22_0
    try clear hfz22_1
    try clear hfz25_0
    try clear hfz25_1
    try clear hfz30_0
    try clear hfz30_1
    try clear hfz33_0
    try clear hfz33_1
    try clear hfz40_0
    try clear hfz40_1
    try clear hfz42_0
    try clear hfz42_1
    try clear hfz48_0
    try clear hfz48_1
    try clear hfz52_0
    try clear hfz52_1
    try clear hfz68_0
    try clear hfz68_1
    try clear hfz74_0
    try clear hfz74_1
    try clear hfz78_0
    try clear hfz78_1
    try clear hfz7_0
    try clear hfz7_1
    try clear hx151_0
    try clear hx155_0
    try clear hx155_1
    try clear hx159_0
    try clear hx161_0
    try clear hx161_1
    try clear hx165_0
    try clear hx167_0
    try clear hx167_1
    try clear hx171_0
    try clear hx173_0
    try clear hx173_1
    try clear hx175_0
    try clear hx175_1
    try clear hx176_0
    try clear hx176_1
    try clear hx182_0
    try clear hx184_0
    try clear hx184_1
    try clear p1
    try clear p15
    try clear p151
    try clear p155
    try clear p159
    try clear p16
    try clear p161
    try clear p165
    try clear p167
    try clear p17
    try clear p171
    try clear p173
    try clear p175
    try clear p176
    try clear p182
    try clear p184
    try clear p2
    try clear p6
    try clear q1
    try clear q15
    try clear q151
    try clear q155
    try clear q159
    try clear q16
    try clear q161
    try clear q165
    try clear q167
    try clear q17
    try clear q171
    try clear q173
    try clear q175
    try clear q176
    try clear q182
    try clear q184
    obtain ⟨x4_2, x10_2, rfl, HA, HK2, HO_3, HO_4, BK140, BK185, HB⟩ := hrel
    cases gk with
    | zero => exact absurd HA.out (by simp [spec_FlatOf.l2])
    | succ k2 =>
     have H := HA.out; clear HA
     simp only [spec_FlatOf.l2] at H
     by_cases c79 : x10_2 ≤ 8
     rotate_left
     ·rw [if_neg c79] at H
      have c79b0 := decide_eq_false c79
      clear c79
      by_cases c93 : 0 ≤ x6_1
      rotate_left
      ·rw [if_neg c93] at H
       exact absurd H (by simp)
      rw [if_pos c93] at H
      have c93b0 := decide_eq_true c93
      clear c93
      by_cases c94 : x6_1 < (l0_0.length : Int)
      rotate_left
      ·rw [if_neg c94] at H
       exact absurd H (by simp)
      rw [if_pos c94] at H
      have c94b0 := decide_eq_true c94
      clear c94
      replace H := Option.bind_eq_some_iff.mp H
      obtain ⟨t195, A950, H⟩ := H
      try dsimp only at H
      have A95 := mk0 A950
      clear A950
      have H' := mk0 H
      clear H; have hnb96 := NB140_185.out; have hnc96 := NB185_140.out
      obtain ⟨_, _, _, _⟩ := be_2 BK140.out
      have p194 : 0 ≤ (x6_1 : Int) := of_decide_eq_true (by first | (with_reducible assumption) | assumption)
      have q194 : x6_1 < (l0_0.length : Int) := of_decide_eq_true (by first | (with_reducible assumption) | assumption)
      obtain ⟨ad194, e194, hx194_0⟩ := Kd.at_int HR0_0.out x6_1 p194 q194
      obtain rfl : ad151 = ad194 := (by injection e194)
      replace hx194_0 := cell_go HB hx194_0
      replace p194 := eq_true p194
      replace q194 := eq_true q194
      go_wp2_with (first | ((with_reducible refine gate_callee (f := 24) rfl ?_); refine goesL_ (some 141) rfl rfl Try.func24 (by kernel_rfl) rfl #[.int .i64 (rd l0_0 x6_1)] rfl z5_3 ?_; (with_reducible refine (spec_NeedOf.calls (rd l0_0 x6_1) t195 _ A95.out).mono ?_); rintro e w98 ⟨rfl, hb⟩; refine ⟨_, rfl, ?_⟩; have n0_ := mk0 (Kd.S_below (pkS HO_3) hb); have n1_ := mk0 (Kd.R_below (pkR HO_4) hb); have n2_ := mk0 (blk_belowB BK140 (pkb BK140) hb); have n3_ := mk0 (blk_belowB BK185 (pkb BK185) hb); have n4_ := mk0 (below_step z5_5 hb); clear HO_3 HO_4 BK140 BK185 HB; have HO_3 := n0_; have HO_4 := n1_; have BK140 := n2_; have BK185 := n3_; have HB := n4_; clear n0_ n1_ n2_ n3_ n4_; (try clear hb)))
      go_roundg k2
      case measure => have := HK1.out; have := HK2.out; omega
      case rel => exact ⟨(x3_1), (x4_2), (wrap64 (x5_1 + t195)), (wrap64 (x6_1 + 1)), rs0, rs0, H', ⟨(by have := HK1.out; have := HK2.out; omega)⟩, ⟨z5_15⟩, ⟨z5_14⟩, ⟨pkb BK140⟩, ⟨z5_5⟩⟩
     rw [if_pos c79] at H
     have c79b0 := decide_eq_true c79
     clear c79
     by_cases c80 : 0 ≤ x5_1
     rotate_left
     ·rw [if_neg c80] at H
      exact absurd H (by simp)
     rw [if_pos c80] at H
     have c80b0 := decide_eq_true c80
     clear c80
     by_cases c81 : x5_1 < (l0_1.length : Int)
     rotate_left
     ·rw [if_neg c81] at H
      exact absurd H (by simp)
     rw [if_pos c81] at H
     have c81b0 := decide_eq_true c81
     clear c81
     obtain ⟨ji82, hji82⟩ : ∃ j_ : Int, (wrap64 (x5_1 + 1)) = j_ := ⟨_, rfl⟩
     replace H : (if 0 ≤ (ji82) then (if (ji82) < (l0_1.length : Int) then (if 0 ≤ (wrap64 (x5_1 + 2)) then (if (wrap64 (x5_1 + 2)) < (l0_1.length : Int) then ((spec_CubicAt.f k2 ((rd_T46 x4_1 (ji71)).f0) ((rd_T46 x4_1 (ji71)).f1) ((rd_T46 l0_1 x5_1).f0) ((rd_T46 l0_1 x5_1).f1) ((rd_T46 l0_1 (ji82)).f0) ((rd_T46 l0_1 (ji82)).f1) ((rd_T46 l0_1 (wrap64 (x5_1 + 2))).f0) ((rd_T46 l0_1 (wrap64 (x5_1 + 2))).f1) x10_2).bind fun bt189 => (if x4_2.length < 8796093022208 then (spec_FlatOf.l2 k2 x3_1 (x4_2 ++ [(⟨bt189.1, bt189.2⟩ : S46)]) x5_1 x6_1 (wrap64 (x10_2 + 1)) l0_0 l0_1 ((rd_T46 x4_1 (ji71)).f0) ((rd_T46 x4_1 (ji71)).f1)) else (none))) else (none)) else (none)) else (none)) else (none)) = some r := by first | (rw [hji82] at H; exact H) | (simp only [hji82] at H ⊢; exact H)
     have hji82w : (IntKind.i64.wrap (x5_1 + 1)) = ji82 := (i64_w _).trans hji82
     by_cases c83 : 0 ≤ (ji82)
     rotate_left
     ·rw [if_neg c83] at H
      exact absurd H (by simp)
     rw [if_pos c83] at H
     have c83b0 := decide_eq_true c83
     clear c83
     by_cases c84 : (ji82) < (l0_1.length : Int)
     rotate_left
     ·rw [if_neg c84] at H
      exact absurd H (by simp)
     rw [if_pos c84] at H
     have c84b0 := decide_eq_true c84
     clear c84
     obtain ⟨ji85, hji85⟩ : ∃ j_ : Int, (wrap64 (x5_1 + 2)) = j_ := ⟨_, rfl⟩
     replace H : (if 0 ≤ (ji85) then (if (ji85) < (l0_1.length : Int) then ((spec_CubicAt.f k2 ((rd_T46 x4_1 (ji71)).f0) ((rd_T46 x4_1 (ji71)).f1) ((rd_T46 l0_1 x5_1).f0) ((rd_T46 l0_1 x5_1).f1) ((rd_T46 l0_1 (ji82)).f0) ((rd_T46 l0_1 (ji82)).f1) ((rd_T46 l0_1 (ji85)).f0) ((rd_T46 l0_1 (ji85)).f1) x10_2).bind fun bt189 => (if x4_2.length < 8796093022208 then (spec_FlatOf.l2 k2 x3_1 (x4_2 ++ [(⟨bt189.1, bt189.2⟩ : S46)]) x5_1 x6_1 (wrap64 (x10_2 + 1)) l0_0 l0_1 ((rd_T46 x4_1 (ji71)).f0) ((rd_T46 x4_1 (ji71)).f1)) else (none))) else (none)) else (none)) = some r := by first | (rw [hji85] at H; exact H) | (simp only [hji85] at H ⊢; exact H)
     have hji85w : (IntKind.i64.wrap (x5_1 + 2)) = ji85 := (i64_w _).trans hji85
     by_cases c86 : 0 ≤ (ji85)
     rotate_left
     ·rw [if_neg c86] at H
      exact absurd H (by simp)
     rw [if_pos c86] at H
     have c86b0 := decide_eq_true c86
     clear c86
     by_cases c87 : (ji85) < (l0_1.length : Int)
     rotate_left
     ·rw [if_neg c87] at H
      exact absurd H (by simp)
     rw [if_pos c87] at H
     have c87b0 := decide_eq_true c87
     clear c87
     replace H := Option.bind_eq_some_iff.mp H
     obtain ⟨⟨t189, t190⟩, A880, H⟩ := H
     try dsimp only at H
     have A88 := mk0 A880
     clear A880
     by_cases c89 : x4_2.length < 8796093022208
     rotate_left
     ·rw [if_neg c89] at H
      exact absurd H (by simp)
     rw [if_pos c89] at H
     have LMc89 := mk0 c89
     clear c89
     obtain ⟨y191, hy_⟩ : ∃ y_ : List (S46), y_ = (x4_2 ++ [(⟨t189, t190⟩ : S46)]) := ⟨_, rfl⟩
     replace H : (spec_FlatOf.l2 k2 x3_1 y191 x5_1 x6_1 (wrap64 (x10_2 + 1)) l0_0 l0_1 ((rd_T46 x4_1 (ji71)).f0) ((rd_T46 x4_1 (ji71)).f1)) = some r := z5_2
     have Ny191 := mk0 hy_
     clear hy_
     have H' := mk0 H
     clear H
     try go_wp2
     have n0_ := mk0 (Kd.S_drew HO_3.out)
     have n1_ := mk0 (Kd.R_drew HO_4.out)
     have n2_ := mk0 (blk_drew BK140.out)
     have n3_ := mk0 (blk_drew BK185.out)
     have n4_ := mk0 (below_drew1 HB.out)
     clear HO_3 HO_4 BK140 BK185 HB; have HO_3 := n0_; have HO_4 := n1_; have BK140 := n2_; have BK185 := n3_; have HB := n4_; clear n0_ n1_ n2_ n3_ n4_
     have p186 : 0 ≤ (x5_1 : Int) := of_decide_eq_true (by first | (with_reducible assumption) | assumption)
     have q186 : x5_1 < (l0_1.length : Int) := of_decide_eq_true (by first | (with_reducible assumption) | assumption)
     obtain ⟨ad186, e186, hx186_0, hx186_1⟩ := at_T46 HR0_1.out x5_1 p186 q186
     have hw186_1 := hx186_1; have hw186_0 := hx186_0
     cases e186
     replace hx186_0 := cell_go HB hx186_0
     replace hx186_1 := cell_go HB hx186_1
     replace p186 := eq_true p186
     replace q186 := eq_true q186
     have p187 : 0 ≤ ((ji82) : Int) := of_decide_eq_true (by first | (with_reducible assumption) | assumption)
     have q187 : (ji82) < (l0_1.length : Int) := of_decide_eq_true (by first | (with_reducible assumption) | assumption)
     obtain ⟨ad187, e187, hx187_0, hx187_1⟩ := at_T46 HR0_1.out (ji82) p187 q187
     have hw187_1 := hx187_1; have hw187_0 := hx187_0
     obtain rfl : ad186 = ad187 := (by injection e187)
     replace hx187_0 := cell_go HB hx187_0
     replace hx187_1 := cell_go HB hx187_1
     replace p187 := eq_true p187
     replace q187 := eq_true q187
     have p188 : 0 ≤ ((ji85) : Int) := of_decide_eq_true (by first | (with_reducible assumption) | assumption)
     have q188 : (ji85) < (l0_1.length : Int) := of_decide_eq_true (by first | (with_reducible assumption) | assumption)
     obtain ⟨ad188, e188, hx188_0, hx188_1⟩ := at_T46 HR0_1.out (ji85) p188 q188
     have hw188_1 := hx188_1; have hw188_0 := hx188_0
     obtain rfl : ad186 = ad188 := (by injection e188)
     replace hx188_0 := cell_go HB hx188_0
     replace hx188_1 := cell_go HB hx188_1
     replace p188 := eq_true p188
     replace q188 := eq_true q188
     refine start_ (n := 24) (S := fun w' => w'.cell? ⟨gb185, 0, none⟩ = some (.int .i64 ((rd_T46 x4_1 (ji71)).f0)) ∧ w'.cell? ⟨gb185, 1, none⟩ = some (.int .i64 ((rd_T46 x4_1 (ji71)).f1)) ∧ w'.cell? ⟨gb140, 0, none⟩ = some (.slice (some ad151) l0_0.length c0_0) ∧ w'.cell? ⟨gb140, 1, none⟩ = some (.slice (some ad186) l0_1.length c0_1) ∧ w'.cell? (ad186.add ((x5_1).toNat * 2)) = some (.int .i64 ((rd_T46 l0_1 x5_1).f0)) ∧ w'.cell? ⟨(ad186.add ((x5_1).toNat * 2)).block, (ad186.add ((x5_1).toNat * 2)).off + 1, none⟩ = some (.int .i64 ((rd_T46 l0_1 x5_1).f1)) ∧ w'.cell? (ad186.add (((ji82)).toNat * 2)) = some (.int .i64 ((rd_T46 l0_1 (ji82)).f0)) ∧ w'.cell? ⟨(ad186.add (((ji82)).toNat * 2)).block, (ad186.add (((ji82)).toNat * 2)).off + 1, none⟩ = some (.int .i64 ((rd_T46 l0_1 (ji82)).f1)) ∧ w'.cell? (ad186.add (((ji85)).toNat * 2)) = some (.int .i64 ((rd_T46 l0_1 (ji85)).f0)) ∧ w'.cell? ⟨(ad186.add (((ji85)).toNat * 2)).block, (ad186.add (((ji85)).toNat * 2)).off + 1, none⟩ = some (.int .i64 ((rd_T46 l0_1 (ji85)).f1))) (ds := []) #[false, false, false, false, false, false, false, false, false, false, false, false, false, false, false, false, false, false, false, false, false, false, false, false] (by kernel_rfl) rfl rfl ⟨(blk_cell BK185.out 0).trans rfl, (blk_cell BK185.out 1).trans rfl, (blk_cell BK140.out 0).trans rfl, (blk_cell BK140.out 1).trans rfl, ((HB.out.cell (World.block_lt_of_cell? w _ hw186_0)).trans hw186_0), ((HB.out.cell (World.block_lt_of_cell? w _ hw186_1)).trans hw186_1), ((HB.out.cell (World.block_lt_of_cell? w _ hw187_0)).trans hw187_0), ((HB.out.cell (World.block_lt_of_cell? w _ hw187_1)).trans hw187_1), ((HB.out.cell (World.block_lt_of_cell? w _ hw188_0)).trans hw188_0), ((HB.out.cell (World.block_lt_of_cell? w _ hw188_1)).trans hw188_1)⟩ (fun hHeld => ?_); refine with_tabW spec_FlatOf.tab27 spec_FlatOf.bits27 (fun HT_ HW_ => ?_)
     generalize wr.drew = w90 at HO_3 HO_4 BK140 BK185 HB hx186_0 hx186_1 hx187_0 hx187_1 hx188_0 hx188_1 hHeld ⊢
     refine pzv (i := 0) (N := 94) (v := ?_) (a' := ?_) (bA 24 1) HT_ ?_ ?_ ?_
     rotate_left
     ·intro w'
      go_simp; with_reducible rfl
     rotate_left
     ·exact x5_put
     refine pzv (i := 2) (N := 96) (v := ?_) (a' := ?_) (bA 24 5) HT_ ?_ ?_ ?_
     rotate_left
     ·intro w'
      go_simp; with_reducible rfl
     rotate_left
     ·exact x5_put
     refine pzv (i := 4) (N := 98) (v := ?_) (a' := ?_) (bA 24 21) HT_ ?_ ?_ ?_
     rotate_left
     ·intro w'
      go_simp; with_reducible rfl
     rotate_left
     ·exact x5_put
     refine pzv (i := 7) (N := 101) (v := ?_) (a' := ?_) (bA 24 149) HT_ ?_ ?_ ?_
     rotate_left
     ·intro w'
      go_simp; with_reducible rfl
     rotate_left
     ·exact x5_put
     refine pzv (i := 9) (N := 103) (v := ?_) (a' := ?_) (bA 24 661) HT_ ?_ ?_ ?_
     rotate_left
     ·intro w'
      go_simp; with_reducible rfl
     rotate_left
     ·exact x5_put
     refine pzv (i := 10) (N := 104) (v := ?_) (a' := ?_) (bA 24 1685) HT_ ?_ ?_ ?_
     rotate_left
     ·intro w'
      go_simp; with_reducible rfl
     rotate_left
     ·exact x5_put
     refine pzv (i := 13) (N := 107) (v := ?_) (a' := ?_) (bA 24 9877) HT_ ?_ ?_ ?_
     rotate_left
     ·intro w'
      go_simp; with_reducible rfl
     rotate_left
     ·exact x5_put
     refine pzv (i := 15) (N := 109) (v := ?_) (a' := ?_) (bA 24 42645) HT_ ?_ ?_ ?_
     rotate_left
     ·intro w'
      go_simp; with_reducible rfl
     rotate_left
     ·exact x5_put
     refine pzv (i := 16) (N := 110) (v := ?_) (a' := ?_) (bA 24 108181) HT_ ?_ ?_ ?_
     rotate_left
     ·intro w'
      go_simp; with_reducible rfl
     rotate_left
     ·exact x5_put
     refine pzv (i := 19) (N := 113) (v := ?_) (a' := ?_) (bA 24 632469) HT_ ?_ ?_ ?_
     rotate_left
     ·intro w'
      go_simp; with_reducible rfl
     rotate_left
     ·exact x5_put
     refine take_ (i := 1) (N := some 95) (v := ?_) (a' := ?_) (bA 24 632471) rfl rfl (take_ofW HT_.out HW_.out (by kernel_rfl)) (fun _ _ _ h => h) (Or.inl ⟨by rfl, ?_⟩) hHeld ?_ ?_
     rotate_left
     ·rintro w' ⟨s0, s1, s2, s3, s4, s5, s6, s7, s8, s9⟩
      go_simp; with_reducible rfl
     rotate_left
     ·exact x5_put
     refine take_ (i := 3) (N := some 97) (v := ?_) (a' := ?_) (bA 24 632479) rfl rfl (take_ofW HT_.out HW_.out (by kernel_rfl)) (fun _ _ _ h => h) (Or.inl ⟨by rfl, ?_⟩) hHeld ?_ ?_
     rotate_left
     ·rintro w' ⟨s0, s1, s2, s3, s4, s5, s6, s7, s8, s9⟩
      go_simp; with_reducible rfl
     rotate_left
     ·exact x5_put
     refine pzv (i := 5) (N := 99) (v := ?_) (a' := ?_) (bA 24 632511) HT_ ?_ ?_ ?_
     rotate_left
     ·intro w'
      go_simp; with_reducible rfl
     rotate_left
     ·exact x5_put
     refine take_ (i := 6) (N := some 100) (v := ?_) (a' := ?_) (bA 24 632575) rfl rfl (take_ofW HT_.out HW_.out (by kernel_rfl)) (fun _ _ _ h => h) (Or.inl ⟨by rfl, ?_⟩) hHeld ?_ ?_
     rotate_left
     ·rintro w' ⟨s0, s1, s2, s3, s4, s5, s6, s7, s8, s9⟩
      go_simp; with_reducible rfl
     rotate_left
     ·exact x5_put
     refine take_ (i := 8) (N := some 102) (v := ?_) (a' := ?_) (bA 24 632831) rfl rfl (take_ofW HT_.out HW_.out (by kernel_rfl)) (fun _ _ _ h => h) (Or.inl ⟨by rfl, ?_⟩) hHeld ?_ ?_
     rotate_left
     ·rintro w' ⟨s0, s1, s2, s3, s4, s5, s6, s7, s8, s9⟩
      go_simp; with_reducible rfl
     rotate_left
     ·exact x5_put
     refine pzv (i := 11) (N := 105) (v := ?_) (a' := ?_) (bA 24 634879) HT_ ?_ ?_ ?_
     rotate_left
     ·intro w'
      go_simp; with_reducible rfl
     rotate_left
     ·exact x5_put
     refine take_ (i := 12) (N := some 106) (v := ?_) (a' := ?_) (bA 24 638975) rfl rfl (take_ofW HT_.out HW_.out (by kernel_rfl)) (fun _ _ _ h => h) (Or.inl ⟨by rfl, ?_⟩) hHeld ?_ ?_
     rotate_left
     ·rintro w' ⟨s0, s1, s2, s3, s4, s5, s6, s7, s8, s9⟩
      go_simp; with_reducible rfl
     rotate_left
     ·exact x5_put
     refine take_ (i := 14) (N := some 108) (v := ?_) (a' := ?_) (bA 24 655359) rfl rfl (take_ofW HT_.out HW_.out (by kernel_rfl)) (fun _ _ _ h => h) (Or.inl ⟨by rfl, ?_⟩) hHeld ?_ ?_
     rotate_left
     ·rintro w' ⟨s0, s1, s2, s3, s4, s5, s6, s7, s8, s9⟩
      go_simp; with_reducible rfl
     rotate_left
     ·exact x5_put
     refine pzv (i := 17) (N := 111) (v := ?_) (a' := ?_) (bA 24 786431) HT_ ?_ ?_ ?_
     rotate_left
     ·intro w'
      go_simp; with_reducible rfl
     rotate_left
     ·exact x5_put
     refine take_ (i := 18) (N := some 112) (v := ?_) (a' := ?_) (bA 24 1048575) rfl rfl (take_ofW HT_.out HW_.out (by kernel_rfl)) (fun _ _ _ h => h) (Or.inl ⟨by rfl, ?_⟩) hHeld ?_ ?_
     rotate_left
     ·rintro w' ⟨s0, s1, s2, s3, s4, s5, s6, s7, s8, s9⟩
      go_simp; with_reducible rfl
     rotate_left
     ·exact x5_put
     refine one_ (i := 20) (N := some 114) (bA 24 2097151) rfl rfl (one_of HT_.out (by kernel_rfl)) (by decide) (fun K hK => ?_)
     refine goes_ Try.func23 (by kernel_rfl) rfl #[.agg #[.int .i64 ((rd_T46 x4_1 (ji71)).f0), .int .i64 ((rd_T46 x4_1 (ji71)).f1)], .agg #[.int .i64 ((rd_T46 l0_1 x5_1).f0), .int .i64 ((rd_T46 l0_1 x5_1).f1)], .agg #[.int .i64 ((rd_T46 l0_1 (ji82)).f0), .int .i64 ((rd_T46 l0_1 (ji82)).f1)], .agg #[.int .i64 ((rd_T46 l0_1 (ji85)).f0), .int .i64 ((rd_T46 l0_1 (ji85)).f1)], .int .i64 x10_2] (by rfl) rfl rfl (by (try simp only [List.map_toArray, List.map_cons, List.map_nil]); first | done | (simp only [hji71, hji82, hji85]; rfl) | rfl | (simp only [List.length_drop, List.length_take]; rfl)) ?_
     with_reducible refine (spec_CubicAt.calls k2 ((rd_T46 x4_1 (ji71)).f0) ((rd_T46 x4_1 (ji71)).f1) ((rd_T46 l0_1 x5_1).f0) ((rd_T46 l0_1 x5_1).f1) ((rd_T46 l0_1 (ji82)).f0) ((rd_T46 l0_1 (ji82)).f1) ((rd_T46 l0_1 (ji85)).f0) ((rd_T46 l0_1 (ji85)).f1) x10_2 t189 t190 _ A88.out).mono ?_
     rintro e w91 ⟨rfl, hb⟩
     refine ⟨_, rfl, ?_⟩
     have n0_ := mk0 (Kd.S_below (pkS HO_3) hb)
     have n1_ := mk0 (Kd.R_below (pkR HO_4) hb)
     have n2_ := mk0 (blk_belowB BK140 (pkb BK140) hb)
     have n3_ := mk0 (blk_belowB BK185 (pkb BK185) hb)
     have n4_ := mk0 (below_step z5_5 hb)
     clear HO_3 HO_4 BK140 BK185 HB; have HO_3 := n0_; have HO_4 := n1_; have BK140 := n2_; have BK185 := n3_; have HB := n4_; clear n0_ n1_ n2_ n3_ n4_; (try clear hb); (try clear hb2); (try clear hk); (try clear hi)
     refine hK.out _ _ ⟨(blk_cell BK185.out 0).trans rfl, (blk_cell BK185.out 1).trans rfl, (blk_cell BK140.out 0).trans rfl, (blk_cell BK140.out 1).trans rfl, ((HB.out.cell (World.block_lt_of_cell? w _ hw186_0)).trans hw186_0), ((HB.out.cell (World.block_lt_of_cell? w _ hw186_1)).trans hw186_1), ((HB.out.cell (World.block_lt_of_cell? w _ hw187_0)).trans hw187_0), ((HB.out.cell (World.block_lt_of_cell? w _ hw187_1)).trans hw187_1), ((HB.out.cell (World.block_lt_of_cell? w _ hw188_0)).trans hw188_0), ((HB.out.cell (World.block_lt_of_cell? w _ hw188_1)).trans hw188_1)⟩ (fun hHeld => ?_)
     clear hK K
     refine norm_ (a' := ?_) ?_ ?_
     rotate_left
     ·show Act.put _ (some 114) _ = _
      simp only [Act.put, List.setIfInBounds_toArray, List.set_cons_zero, List.set_cons_succ, i64_w, i32_w]
      rfl
     refine one_ (i := 21) (N := some 115) (bA 24 4194303) rfl rfl (one_of HT_.out (by kernel_rfl)) (by decide) (fun K hK => ?_)
     refine value_ (w1 := ?_) (v := ?_) (by rfl) rfl ?_ ?_
     rotate_left 2
     ·go_simp
      constructor
      ·rfl
      rfl
     refine hK.out _ _ ⟨(blk_cell (blk_alloc BK185.out _) 0).trans rfl, (blk_cell (blk_alloc BK185.out _) 1).trans rfl, (blk_cell (blk_alloc BK140.out _) 0).trans rfl, (blk_cell (blk_alloc BK140.out _) 1).trans rfl, (World.cell?_alloc_lt _ _ _ (World.block_lt_of_cell? _ _ (((HB.out.cell (World.block_lt_of_cell? w _ hw186_0)).trans hw186_0)))).trans (((HB.out.cell (World.block_lt_of_cell? w _ hw186_0)).trans hw186_0)), (World.cell?_alloc_lt _ _ _ (World.block_lt_of_cell? _ _ (((HB.out.cell (World.block_lt_of_cell? w _ hw186_1)).trans hw186_1)))).trans (((HB.out.cell (World.block_lt_of_cell? w _ hw186_1)).trans hw186_1)), (World.cell?_alloc_lt _ _ _ (World.block_lt_of_cell? _ _ (((HB.out.cell (World.block_lt_of_cell? w _ hw187_0)).trans hw187_0)))).trans (((HB.out.cell (World.block_lt_of_cell? w _ hw187_0)).trans hw187_0)), (World.cell?_alloc_lt _ _ _ (World.block_lt_of_cell? _ _ (((HB.out.cell (World.block_lt_of_cell? w _ hw187_1)).trans hw187_1)))).trans (((HB.out.cell (World.block_lt_of_cell? w _ hw187_1)).trans hw187_1)), (World.cell?_alloc_lt _ _ _ (World.block_lt_of_cell? _ _ (((HB.out.cell (World.block_lt_of_cell? w _ hw188_0)).trans hw188_0)))).trans (((HB.out.cell (World.block_lt_of_cell? w _ hw188_0)).trans hw188_0)), (World.cell?_alloc_lt _ _ _ (World.block_lt_of_cell? _ _ (((HB.out.cell (World.block_lt_of_cell? w _ hw188_1)).trans hw188_1)))).trans (((HB.out.cell (World.block_lt_of_cell? w _ hw188_1)).trans hw188_1))⟩ (fun hHeld => ?_)
     clear hK K
     refine norm_ (a' := ?_) ?_ ?_
     rotate_left
     ·show Act.put _ (some 115) _ = _
      simp only [Act.put, List.setIfInBounds_toArray, List.set_cons_zero, List.set_cons_succ, i64_w, i32_w]
      rfl
     refine one_ (i := 22) (N := some 116) (bA 24 8388607) rfl rfl (one_of HT_.out (by kernel_rfl)) (by decide) (fun K hK => ?_)
     refine Kd.R_append_step k46 (w0 := w) w.heap.size (by rfl) (.tmp 94) (.tmp 115) 29 46 (.agg #[(.int .i64 0), (.int .i64 0)]) 16 rfl Try.underlying29 info46 rfl (by decide) (by omega) u4 x4_2 (⟨t189, t190⟩ : S46) [.int .i64 t189, .int .i64 t190] (fun k_ => k_ ≠ gb185) (fun _ => False) rfl rfl ?aP (fun _ hk => hk.elim) ?aF ?aO ?aB ?aS ?aL ?_
     (case aP => exact k46_mkM _ _ _ (⟨t189, t190⟩ : S46))
     (case aB => exact z5_5)
     (case aF => exact (fun k_ hk => Kd.freshB (g := gb185) (o := .cells #[.int .i64 ((rd_T46 x4_1 (ji71)).f0), .int .i64 ((rd_T46 x4_1 (ji71)).f1)] 46 (0, 0)) (pkb BK185) k_ hk))
     (case aO => exact (pkR HO_4))
     (case aS => exact (below_size z5_5))
     (case aL => have := LMc89.out; omega)
     intro v192 w92 ho hb hg hat
     rw [← Ny191.out] at ho
     have n0_ := mk0 (Kd.S_after (ok := (fun k_ => k_ ≠ gb185)) z5_7 hg hat)
     have n1_ := mk0 (blk_grown (g := gb140) (o := .cells #[.slice (some ad151) l0_0.length c0_0, .slice (some ad186) l0_1.length c0_1] 31 (0, 0)) (pkb BK140) hg (Kd.R_ne HO_4.out BK140.out (by decide)))
     have n2_ := mk0 (blk_grown (g := gb185) (o := .cells #[.int .i64 ((rd_T46 x4_1 (ji71)).f0), .int .i64 ((rd_T46 x4_1 (ji71)).f1)] 46 (0, 0)) (pkb BK185) hg (Kd.R_away HO_4.out (fun _ hk => hk)))
     have n3_ := mk0 (hb)
     have n4_ := mk0 (ho)
     clear HO_3 BK140 BK185 HB HO_4; have HO_3 := n0_; have BK140 := n1_; have BK185 := n2_; have HB := n3_; have HO193 := n4_; clear n0_ n1_ n2_ n3_ n4_ ho hb hg hat
     refine hK.out _ _ ⟨(blk_cell BK185.out 0).trans rfl, (blk_cell BK185.out 1).trans rfl, (blk_cell BK140.out 0).trans rfl, (blk_cell BK140.out 1).trans rfl, ((HB.out.cell (World.block_lt_of_cell? w _ hw186_0)).trans hw186_0), ((HB.out.cell (World.block_lt_of_cell? w _ hw186_1)).trans hw186_1), ((HB.out.cell (World.block_lt_of_cell? w _ hw187_0)).trans hw187_0), ((HB.out.cell (World.block_lt_of_cell? w _ hw187_1)).trans hw187_1), ((HB.out.cell (World.block_lt_of_cell? w _ hw188_0)).trans hw188_0), ((HB.out.cell (World.block_lt_of_cell? w _ hw188_1)).trans hw188_1)⟩ (fun hHeld => ?_)
     clear hK K
     refine norm_ (a' := ?_) ?_ ?_
     rotate_left
     ·show Act.put _ (some 116) _ = _
      simp only [Act.put, List.setIfInBounds_toArray, List.set_cons_zero, List.set_cons_succ, i64_w, i32_w]
      rfl
     refine pzv (i := 23) (N := 4) (v := ?_) (a' := ?_) (bA 24 16777215) HT_ ?_ ?_ ?_
     rotate_left
     ·intro w'
      go_simp; with_reducible rfl
     rotate_left
     ·exact x5_put
     refine done_ (done_of HT_.out (by kernel_rfl)) ?_
     try go_wp2
     go_roundg k2
     case measure => have := HK1.out; have := HK2.out; omega
     case rel => exact ⟨(y191), (wrap64 (x10_2 + 1)), rs0, H', ⟨(by have := HK1.out; have := HK2.out; omega)⟩, ⟨z5_7⟩, ⟨pkR HO193⟩, ⟨pkb BK140⟩, ⟨pkb BK185⟩, ⟨z5_5⟩⟩

end Go.Proofs.Ytdpnimngndemiaa.MFnFlats
