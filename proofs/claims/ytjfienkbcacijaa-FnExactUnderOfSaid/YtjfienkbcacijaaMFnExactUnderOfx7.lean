/- Functions of the program as Lean functions, and the proof that a call comes to just these: machine text of this session's own program (myprint.py). -/
import Derived.Test.YtjfienkbcacijaaMFnExactUnderOfx0
import Derived.Test.YtjfienkbcacijaaMFnExactUnderOfx6
namespace Go.Proofs.Ytjfienkbcacijaa.MFnExactUnderOf
open Go.RowKit Go.Proofs.YtjfienkbcacijaaW.PrintWords Go.Proofs.YtjfienkbcacijaaW.PrintLast Go.Proofs.YtjfienkbcacijaaW.PrintMore
attribute [local go_sem] max2_int min2_int max_two min_two max_three min_three max_four min_four   -- for this text's walks alone
set_option linter.unusedVariables false
set_option linter.unusedSimpArgs false

theorem x7_put {P : Prop} (h : P := by simp only [Act.put, List.setIfInBounds_toArray, List.set_cons_zero, List.set_cons_succ, i64_w, i32_w]; rfl) : P := h
theorem z7_1 {P : Prop} (h : P := by repeat (first | (with_reducible first | exact HB.out | apply below_alloc | apply pw_below_drewN | apply below_drew1 | refine below_set ?_ GE289.out) | exact HB.out)) : P := h
theorem z7_2 {P : Prop} (h : P := by repeat (first | (with_reducible first | exact HB.out | apply below_alloc | apply pw_below_drewN | apply below_drew1) | exact HB.out)) : P := h
theorem z7_3 {P : Prop} (h : P := by repeat (first | (with_reducible first | exact HB.out | apply below_alloc | apply pw_below_drewN | apply below_drew1 | refine below_set ?_ GE286.out) | exact HB.out)) : P := h
theorem z7_4 {P : Prop} (h : P := by repeat (first | exact (Kd.C_below HR0_0.out HB.out) | (with_reducible refine Kd.C_alloc ?_ _) | (with_reducible refine Kd.C_drewN ?_ _) | (with_reducible refine Kd.C_drew ?_))) : P := h
theorem z7_5 {P : Prop} (h : P := by (try simp only [List.map_toArray, List.map_cons, List.map_nil]); first | done | rfl | (simp only [List.length_drop, List.length_take]; rfl)) : P := h
theorem z7_6 {P : Prop} (h : P := by first | rfl | (simp [errW_none, errW_some] <;> rfl) | (simp [*, errW_none, errW_some] <;> rfl)) : P := h
theorem z7_7 {P : Prop} (h : P := by repeat (first | (with_reducible first | exact HB.out | apply below_alloc | apply pw_below_drewN | apply below_drew1 | refine below_set ?_ GE1.out) | exact HB.out)) : P := h
theorem z7_8 {P : Prop} (h : P := by first | (rw [hy_]; with_reducible exact H) | (have H2_ := (Option.bind_some _ _).symm.trans H; rw [hy_]; with_reducible exact H2_) | (have H2_ := (Option.bind_some _ _).symm.trans H; with_reducible exact H2_) | with_reducible exact H | (rw [hy_]; exact H) | exact H) : P := h
/-! ### spec_l15Under: function 71 -/
def spec_l15Under.l0 : Nat → Int → Int → Int → List (S69) → Option (Bool)
 | 0, _, _, _, _ => none
 | k + 1, x1, x2, x7, x287000 => if x7 ≤ 8 then (if x1 = x2 then (some true) else ((spec_NodeAt.f k x287000 x1).bind fun t287 => (if t287 < 0 then (some false) else (if 0 ≤ t287 then (if t287 < (x287000.length : Int) then (spec_l15Under.l0 k ((rd_T69 x287000 t287).f1) x2 (wrap64 (x7 + 1)) x287000) else (none)) else (none))))) else (some false)
def spec_l15Under.f (k : Nat) (l0_0 : List (S69)) (a1 : Int) (a2 : Int) : Option (Bool) := spec_l15Under.l0 k a1 a2 0 l0_0
theorem spec_l15Under.mono_l : ∀ k, (∀ y0 y1 y2 y3, LeO (spec_l15Under.l0 k y0 y1 y2 y3) (spec_l15Under.l0 (k + 1) y0 y1 y2 y3))
 | 0 => fun _ _ _ _ r h => by simp [spec_l15Under.l0] at h
 | k + 1 => by
  have ih0 := spec_l15Under.mono_l k
  ·intro y0 y1 y2 y3
   unfold spec_l15Under.l0
   repeat' first
   | (with_reducible exact ih0 _ _ _ _)
   | (with_reducible exact spec_NodeAt.mono _ _ _)
   | (with_reducible exact LeO.refl _)
   | (with_reducible exact LeO.none _)
   | (with_reducible refine LeO.ite ?_ ?_)
   | (with_reducible refine LeO.bind ?_ (fun _ => ?_))
theorem spec_l15Under.mono : ∀ a0 a1 a2 k, LeO (spec_l15Under.f k a0 a1 a2) (spec_l15Under.f (k + 1) a0 a1 a2) := by
 intro a0 a1 a2 k
 have ih0 := spec_l15Under.mono_l k
 unfold spec_l15Under.f
 repeat' first
   | (with_reducible exact ih0 _ _ _ _)
   | (with_reducible exact spec_NodeAt.mono _ _ _)
   | (with_reducible exact LeO.refl _)
   | (with_reducible exact LeO.none _)
   | (with_reducible refine LeO.ite ?_ ?_)
   | (with_reducible refine LeO.bind ?_ (fun _ => ?_))
set_option maxHeartbeats 8000000 in
set_option maxRecDepth 100000 in
theorem spec_l15Under.calls (k : Nat) (A0_0 : Option Addr) (c0_0 : Nat) (l0_0 : List (S69)) (a1 : Int) (a2 : Int) (r : Bool) (w : World) (hr0_0 : Kd.C k69 w A0_0 l0_0.length l0_0) (hc0_0 : l0_0.length ≤ c0_0) (h : spec_l15Under.f k l0_0 a1 a2 = some r) :
  Calls Try.prog 71 #[.agg #[.slice A0_0 l0_0.length c0_0], .int .i64 a1, .int .i64 a2] w fun e w' => e = .returned (.bool r) ∧ Below w.heap.size w w' := by
 have hu53 := Try.underlying53
 have HR0_0 := mk0 hr0_0
 have HC0_0 := mk0 hc0_0
 clear hr0_0 hc0_0
 have HB := mk0 (Below.refl w.heap.size w)
 have H : (spec_l15Under.l0 k a1 a2 0 l0_0) = some r := h
 clear h
 have H' := mk0 H
 clear H
 go_enter Try.func71, Try.ntmps71
 go_wp2_with (first | ((with_reducible refine gate_dst (N := 3) rfl ?_); refine boxz (cs := #[.slice A0_0 l0_0.length c0_0]) (t := 53) rfl ?_; intro gb286 hg w4 hbox hb; have n0_ := mk0 (below_step z7_2 hb); have n1_ := mk0 (hbox); have GW286 := mk0 (ge_go (a := w.heap.size) hg (below_size z7_2)); have GE286 := GW286; clear HB; have HB := n0_; have BK286 := n1_; clear n0_ n1_ ; clear hb hbox hg))
 go_loopg [1, 7] k (fun kq v1 v7 w' => ∃ (x1_1 : Int) (x7_1 : Int), v1 = .int .i64 x1_1 ∧ v7 = .int .i64 x7_1 ∧ Aside0 (spec_l15Under.l0 kq x1_1 a2 x7_1 l0_0 = some r) ∧ Aside0 (kq ≤ k) ∧ Aside0 (w'.heap[gb286]? = some (.cells #[(.slice A0_0 l0_0.length c0_0)] 53 (0, 0))) ∧ Aside0 (Below w.heap.size w w'))
 case atStart => exact ⟨(a1), (0), rs0, rs0, H', ⟨Nat.le_refl _⟩, ⟨pkb BK286⟩, ⟨z7_3⟩⟩
 case round =>
  clear H'
  try clear p2
  obtain ⟨x1_1, x7_1, rfl, rfl, HA, HK1, BK286, HB⟩ := hrel
  cases gk with
  | zero => exact absurd HA.out (by simp [spec_l15Under.l0])
  | succ k1 =>
   have H := HA.out; clear HA
   simp only [spec_l15Under.l0] at H
   by_cases c5 : x7_1 ≤ 8
   rotate_left
   ·rw [if_neg c5] at H
    have c5b0 := decide_eq_false c5
    clear c5
    obtain rfl := Option.some.inj H
    simp only [Option.some.injEq, Prod.mk.injEq] at H
    obtain ⟨rfl⟩ := H
    go_wp2
    go_ret
    exact ⟨z7_6, z7_3⟩
   rw [if_pos c5] at H
   have c5b0 := decide_eq_true c5
   clear c5
   by_cases c6 : x1_1 = a2
   ·rw [if_pos c6] at H
    have c6b0 : (x1_1 == a2) = true := beq_iff_eq.mpr c6
    have c6b1 : (x1_1 != a2) = false := bne_eq_false_iff_eq.mpr c6
    clear c6
    obtain rfl := Option.some.inj H
    simp only [Option.some.injEq, Prod.mk.injEq] at H
    obtain ⟨rfl⟩ := H
    go_wp2
    go_ret
    exact ⟨z7_6, z7_3⟩
   rw [if_neg c6] at H
   have c6b0 : (x1_1 == a2) = false := beq_eq_false_iff_ne.mpr c6
   have c6b1 : (x1_1 != a2) = true := bne_iff_ne.mpr c6
   replace H := Option.bind_eq_some_iff.mp H
   obtain ⟨t287, A70, H⟩ := H
   try dsimp only at H
   have A7 := mk0 A70
   clear A70
   by_cases c8 : t287 < 0
   ·rw [if_pos c8] at H
    have c8b0 := decide_eq_true c8
    clear c8
    obtain rfl := Option.some.inj H
    simp only [Option.some.injEq, Prod.mk.injEq] at H
    obtain ⟨rfl⟩ := H
    obtain ⟨_, _⟩ := be_1 BK286.out
    go_wp2_with (first | ((with_reducible refine gate_callee (f := 70) rfl ?_); refine goesL_ (some 18) rfl rfl Try.func70 (by kernel_rfl) rfl #[.agg #[.slice A0_0 l0_0.length c0_0], .int .i64 x1_1] rfl z7_5 ?_; (with_reducible refine (spec_NodeAt.calls k1 _ _ l0_0 x1_1 t287 _ ?side1 ?side2 A7.out).mono ?_); (case side1 => exact z7_4); (case side2 => exact HC0_0.out); rintro e w10 ⟨rfl, hb⟩; refine ⟨_, rfl, ?_⟩; have n0_ := mk0 (blk_belowB BK286 (pkb BK286) hb); have n1_ := mk0 (below_step z7_3 hb); clear BK286 HB; have BK286 := n0_; have HB := n1_; clear n0_ n1_; (try clear hb)))
    go_ret
    exact ⟨z7_6, z7_3⟩
   rw [if_neg c8] at H
   have c8b0 := decide_eq_false c8
   clear c8
   by_cases c11 : 0 ≤ t287
   rotate_left
   ·rw [if_neg c11] at H
    exact absurd H (by simp)
   rw [if_pos c11] at H
   have c11b0 := decide_eq_true c11
   clear c11
   by_cases c12 : t287 < (l0_0.length : Int)
   rotate_left
   ·rw [if_neg c12] at H
    exact absurd H (by simp)
   rw [if_pos c12] at H
   have c12b0 := decide_eq_true c12
   clear c12
   have H' := mk0 H
   clear H
   obtain ⟨_, _⟩ := be_1 BK286.out
   go_wp2_with (first | ((with_reducible refine gate_callee (f := 70) rfl ?_); refine goesL_ (some 18) rfl rfl Try.func70 (by kernel_rfl) rfl #[.agg #[.slice A0_0 l0_0.length c0_0], .int .i64 x1_1] rfl z7_5 ?_; (with_reducible refine (spec_NodeAt.calls k1 _ _ l0_0 x1_1 t287 _ ?side1 ?side2 A7.out).mono ?_); (case side1 => exact z7_4); (case side2 => exact HC0_0.out); rintro e w14 ⟨rfl, hb⟩; refine ⟨_, rfl, ?_⟩; have n0_ := mk0 (blk_belowB BK286 (pkb BK286) hb); have n1_ := mk0 (below_step z7_3 hb); clear BK286 HB; have BK286 := n0_; have HB := n1_; clear n0_ n1_; (try clear hb); obtain ⟨_, _⟩ := be_1 BK286.out; have p288 : 0 ≤ (t287 : Int) := of_decide_eq_true (by first | (with_reducible assumption) | assumption); have q288 : t287 < (l0_0.length : Int) := of_decide_eq_true (by first | (with_reducible assumption) | assumption); obtain ⟨ad288, A288_9, c288_9, A288_10, c288_10, A288_13, c288_13, A288_29, c288_29, A288_30, c288_30, e288, hx288_0, hx288_1, hx288_2, hx288_3, hx288_4, hx288_5, hx288_6, hx288_7, hx288_8, hx288_9, hx288_10, hx288_11, hx288_12, hx288_13, hx288_14, hx288_15, hx288_16, hx288_17, hx288_18, hx288_19, hx288_20, hx288_21, hx288_22, hx288_23, hx288_24, hx288_25, hx288_26, hx288_27, hx288_28, hx288_29, hx288_30, hl288_9, hi288_9, hl288_10, hi288_10, hl288_13, hi288_13, hl288_29, hi288_29, hl288_30, hi288_30⟩ := at_T69 HR0_0.out t287 p288 q288; cases e288; replace hx288_0 := cell_go HB hx288_0; replace hx288_1 := cell_go HB hx288_1; replace hx288_2 := cell_go HB hx288_2; replace hx288_3 := cell_go HB hx288_3; replace hx288_4 := cell_go HB hx288_4; replace hx288_5 := cell_go HB hx288_5; replace hx288_6 := cell_go HB hx288_6; replace hx288_7 := cell_go HB hx288_7; replace hx288_8 := cell_go HB hx288_8; replace hx288_9 := cell_go HB hx288_9; replace hx288_10 := cell_go HB hx288_10; replace hx288_11 := cell_go HB hx288_11; replace hx288_12 := cell_go HB hx288_12; replace hx288_13 := cell_go HB hx288_13; replace hx288_14 := cell_go HB hx288_14; replace hx288_15 := cell_go HB hx288_15; replace hx288_16 := cell_go HB hx288_16; replace hx288_17 := cell_go HB hx288_17; replace hx288_18 := cell_go HB hx288_18; replace hx288_19 := cell_go HB hx288_19; replace hx288_20 := cell_go HB hx288_20; replace hx288_21 := cell_go HB hx288_21; replace hx288_22 := cell_go HB hx288_22; replace hx288_23 := cell_go HB hx288_23; replace hx288_24 := cell_go HB hx288_24; replace hx288_25 := cell_go HB hx288_25; replace hx288_26 := cell_go HB hx288_26; replace hx288_27 := cell_go HB hx288_27; replace hx288_28 := cell_go HB hx288_28; replace hx288_29 := cell_go HB hx288_29; replace hx288_30 := cell_go HB hx288_30; have HR288_9 := mk0 hi288_9; have HC288_9 := mk0 hl288_9; clear hi288_9 hl288_9; have HR288_10 := mk0 hi288_10; have HC288_10 := mk0 hl288_10; clear hi288_10 hl288_10; have HR288_13 := mk0 hi288_13; have HC288_13 := mk0 hl288_13; clear hi288_13 hl288_13; have HR288_29 := mk0 hi288_29; have HC288_29 := mk0 hl288_29; clear hi288_29 hl288_29; have HR288_30 := mk0 hi288_30; have HC288_30 := mk0 hl288_30; clear hi288_30 hl288_30; replace p288 := eq_true p288; replace q288 := eq_true q288))
   go_roundg k1
   case measure => have := HK1.out; omega
   case rel => exact ⟨((rd_T69 l0_0 t287).f1), (wrap64 (x7_1 + 1)), rs0, rs0, H', ⟨(by have := HK1.out; omega)⟩, ⟨pkb BK286⟩, ⟨z7_3⟩⟩

/-! ### spec_UnderOf: function 36 -/
def spec_UnderOf.l0 : Nat → Int → List Int → Int → List (S69) → Option (List Int)
 | 0, _, _, _, _ => none
 | k + 1, x1, x5, x6, x290000 => if x6 < (x290000.length : Int) then (if 0 ≤ x6 then ((spec_l15Under.f k x290000 ((rd_T69 x290000 x6).f0) x1).bind fun t295 => (if t295 = true then (if x5.length < 17592186044416 then (spec_UnderOf.l0 k x1 (x5 ++ [(rd_T69 x290000 x6).f0]) (wrap64 (x6 + 1)) x290000) else (none)) else (spec_UnderOf.l0 k x1 x5 (wrap64 (x6 + 1)) x290000))) else (none)) else (some x5)
def spec_UnderOf.f (k : Nat) (l0_0 : List (S69)) (a1 : Int) : Option (List Int) := (some (([] : List Int) : List Int)).bind fun y290 => ((spec_NodeAt.f k l0_0 a1).bind fun t293 => (if t293 < 0 then (some y290) else (spec_UnderOf.l0 k a1 y290 0 l0_0)))
theorem spec_UnderOf.mono_l : ∀ k, (∀ y0 y1 y2 y3, LeO (spec_UnderOf.l0 k y0 y1 y2 y3) (spec_UnderOf.l0 (k + 1) y0 y1 y2 y3))
 | 0 => fun _ _ _ _ r h => by simp [spec_UnderOf.l0] at h
 | k + 1 => by
  have ih0 := spec_UnderOf.mono_l k
  ·intro y0 y1 y2 y3
   unfold spec_UnderOf.l0
   repeat' first
   | (with_reducible exact ih0 _ _ _ _)
   | (with_reducible exact spec_NodeAt.mono _ _ _)
   | (with_reducible exact spec_l15Under.mono _ _ _ _)
   | (with_reducible exact LeO.refl _)
   | (with_reducible exact LeO.none _)
   | (with_reducible refine LeO.ite ?_ ?_)
   | (with_reducible refine LeO.bind ?_ (fun _ => ?_))
theorem spec_UnderOf.mono : ∀ a0 a1 k, LeO (spec_UnderOf.f k a0 a1) (spec_UnderOf.f (k + 1) a0 a1) := by
 intro a0 a1 k
 have ih0 := spec_UnderOf.mono_l k
 unfold spec_UnderOf.f
 repeat' first
   | (with_reducible exact ih0 _ _ _ _)
   | (with_reducible exact spec_NodeAt.mono _ _ _)
   | (with_reducible exact spec_l15Under.mono _ _ _ _)
   | (with_reducible exact LeO.refl _)
   | (with_reducible exact LeO.none _)
   | (with_reducible refine LeO.ite ?_ ?_)
   | (with_reducible refine LeO.bind ?_ (fun _ => ?_))
def spec_UnderOf.T7 : Bool × List (List Nat × List Nat) := (true, [([], []), ([], []), ([1], [1]), ([], []), ([2, 3], [2, 3]), ([4], [4]), ([5], [5]), ([], []), ([0, 6, 7], [0, 6, 7])])
def spec_UnderOf.B7 : List Nat := [0, 0, 2, 0, 14, 30, 62, 0, 255]
theorem spec_UnderOf.tab7 : rtab .any (opsOf Try.f36 7) = spec_UnderOf.T7 := by kernel_rfl
theorem spec_UnderOf.bits7 : waitsOk spec_UnderOf.T7.2 spec_UnderOf.B7 = true := by kernel_rfl
set_option maxHeartbeats 8000000 in
set_option maxRecDepth 100000 in
theorem spec_UnderOf.calls (k : Nat) (A0_0 : Option Addr) (c0_0 : Nat) (l0_0 : List (S69)) (a1 : Int) (r : List Int) (w : World) (hr0_0 : Kd.C k69 w A0_0 l0_0.length l0_0) (hc0_0 : l0_0.length ≤ c0_0) (h : spec_UnderOf.f k l0_0 a1 = some r) :
  Calls Try.prog 36 #[.agg #[.slice A0_0 l0_0.length c0_0], .int .i64 a1] w fun e w' => ∃ v0_ : Value, e = .returned (v0_) ∧ Kd.R (Kd.int .i64) 3 w' w.heap.size (fun _ => True) v0_ r ∧ Below w.heap.size w w' := by
 have hu53 := Try.underlying53
 have HR0_0 := mk0 hr0_0
 have HC0_0 := mk0 hc0_0
 clear hr0_0 hc0_0
 have HB := mk0 (Below.refl w.heap.size w)
 have H : ((some (([] : List Int) : List Int)).bind fun y290 => ((spec_NodeAt.f k l0_0 a1).bind fun t293 => (if t293 < 0 then (some y290) else (spec_UnderOf.l0 k a1 y290 0 l0_0)))) = some r := h
 clear h
 obtain ⟨y290, hy_⟩ : ∃ y_ : List Int, y_ = (([] : List Int)) := ⟨_, rfl⟩
 replace H : ((spec_NodeAt.f k l0_0 a1).bind fun t293 => (if t293 < 0 then (some y290) else (spec_UnderOf.l0 k a1 y290 0 l0_0))) = some r := z7_8
 have Ny290 := mk0 hy_
 clear hy_
 replace H := Option.bind_eq_some_iff.mp H
 obtain ⟨t293, A30, H⟩ := H
 try dsimp only at H
 have A3 := mk0 A30
 clear A30
 by_cases c4 : t293 < 0
 ·rw [if_pos c4] at H
  have c4b0 := decide_eq_true c4
  clear c4
  obtain rfl := Option.some.inj H
  simp only [Option.some.injEq, Prod.mk.injEq] at H
  obtain ⟨rfl⟩ := H
  go_enter Try.func36, Try.ntmps36
  go_wp2_with (first | ((with_reducible refine gate_dst (N := 2) rfl ?_); refine boxz (cs := #[.slice A0_0 l0_0.length c0_0]) (t := 53) rfl ?_; intro gb289 hg w5 hbox hb; have n0_ := mk0 (below_step z7_2 hb); have n1_ := mk0 (hbox); have GW289 := mk0 (ge_go (a := w.heap.size) hg (below_size z7_2)); have GE289 := GW289; clear HB; have HB := n0_; have BK289 := n1_; clear n0_ n1_ ; clear hb hbox hg) | ((with_reducible refine gate_dst (N := 7) rfl ?_); refine Kd.R_lit (Kd.int .i64) _ 3 ?hg (N := 7) ?hd (xs := ([] : List Int)) (inner := []) (ok := fun _ => True) (okp := fun _ => True) ?hr ?hp (fun _ hk => hk) trivial (Below.refl _ _) (Nat.le_refl _) (by simp) ?_; (case hd => rfl); (case hg => rfl); (case hr => first | (go_simp; done) | (go_simp; rfl)); (case hp => exact (Reps.none _ _)); intro v291 w6 ho7 hb hg_ hnew_; clear hg_ hnew_; (first | rw [← Ny290.out] at ho7 | (simp only [Int.reduceToNat] at ho7; rw [← Ny290.out] at ho7)); have n0_ := mk0 (Kd.R_lower ho7 (below_size z7_1)); have n1_ := mk0 (blk_belowB BK289 (pkb BK289) hb); have n2_ := mk0 (below_step z7_1 hb); clear BK289 HB; have HO292 := n0_; have BK289 := n1_; have HB := n2_; clear n0_ n1_ n2_ hb ho7; obtain ⟨_, _⟩ := be_1 BK289.out) | ((with_reducible refine gate_callee (f := 70) rfl ?_); refine goesL_ (some 10) rfl rfl Try.func70 (by kernel_rfl) rfl #[.agg #[.slice A0_0 l0_0.length c0_0], .int .i64 a1] rfl z7_5 ?_; (with_reducible refine (spec_NodeAt.calls k _ _ l0_0 a1 t293 _ ?side1 ?side2 A3.out).mono ?_); (case side1 => exact z7_4); (case side2 => exact HC0_0.out); rintro e w9 ⟨rfl, hb⟩; refine ⟨_, rfl, ?_⟩; have n0_ := mk0 (Kd.R_below (pkR HO292) hb); have n1_ := mk0 (blk_belowB BK289 (pkb BK289) hb); have n2_ := mk0 (below_step z7_1 hb); clear HO292 BK289 HB; have HO292 := n0_; have BK289 := n1_; have HB := n2_; clear n0_ n1_ n2_; (try clear hb); (try clear hk)))
  go_ret
  exact ⟨_, z7_6, (pkR HO292), z7_1⟩
 rw [if_neg c4] at H
 have c4b0 := decide_eq_false c4
 clear c4
 have H' := mk0 H
 clear H
 go_enter Try.func36, Try.ntmps36
 go_wp2_with (first | ((with_reducible refine gate_dst (N := 2) rfl ?_); refine boxz (cs := #[.slice A0_0 l0_0.length c0_0]) (t := 53) rfl ?_; intro gb289 hg w10 hbox hb; have n0_ := mk0 (below_step z7_2 hb); have n1_ := mk0 (hbox); have GW289 := mk0 (ge_go (a := w.heap.size) hg (below_size z7_2)); have GE289 := GW289; clear HB; have HB := n0_; have BK289 := n1_; clear n0_ n1_ ; clear hb hbox hg) | ((with_reducible refine gate_dst (N := 7) rfl ?_); refine Kd.R_lit (Kd.int .i64) _ 3 ?hg (N := 7) ?hd (xs := ([] : List Int)) (inner := []) (ok := fun _ => True) (okp := fun _ => True) ?hr ?hp (fun _ hk => hk) trivial (Below.refl _ _) (Nat.le_refl _) (by simp) ?_; (case hd => rfl); (case hg => rfl); (case hr => first | (go_simp; done) | (go_simp; rfl)); (case hp => exact (Reps.none _ _)); intro v291 w11 ho12 hb hg_ hnew_; clear hg_ hnew_; (first | rw [← Ny290.out] at ho12 | (simp only [Int.reduceToNat] at ho12; rw [← Ny290.out] at ho12)); have n0_ := mk0 (Kd.R_lower ho12 (below_size z7_1)); have n1_ := mk0 (blk_belowB BK289 (pkb BK289) hb); have n2_ := mk0 (below_step z7_1 hb); clear BK289 HB; have HO292 := n0_; have BK289 := n1_; have HB := n2_; clear n0_ n1_ n2_ hb ho12; obtain ⟨_, _⟩ := be_1 BK289.out) | ((with_reducible refine gate_callee (f := 70) rfl ?_); refine goesL_ (some 10) rfl rfl Try.func70 (by kernel_rfl) rfl #[.agg #[.slice A0_0 l0_0.length c0_0], .int .i64 a1] rfl z7_5 ?_; (with_reducible refine (spec_NodeAt.calls k _ _ l0_0 a1 t293 _ ?side1 ?side2 A3.out).mono ?_); (case side1 => exact z7_4); (case side2 => exact HC0_0.out); rintro e w14 ⟨rfl, hb⟩; refine ⟨_, rfl, ?_⟩; have n0_ := mk0 (Kd.R_below (pkR HO292) hb); have n1_ := mk0 (blk_belowB BK289 (pkb BK289) hb); have n2_ := mk0 (below_step z7_1 hb); clear HO292 BK289 HB; have HO292 := n0_; have BK289 := n1_; have HB := n2_; clear n0_ n1_ n2_; (try clear hb); (try clear hk)))
 go_loopg [5, 6] k (fun kq v5 v6 w' => ∃ (x5_1 : List Int) (x6_1 : Int), v6 = .int .i64 x6_1 ∧ Aside0 (spec_UnderOf.l0 kq a1 x5_1 x6_1 l0_0 = some r) ∧ Aside0 (kq ≤ k) ∧ Aside0 (Kd.R (Kd.int .i64) 3 w' w.heap.size (fun _ => True) v5 x5_1) ∧ Aside0 (w'.heap[gb289]? = some (.cells #[(.slice A0_0 l0_0.length c0_0)] 53 (0, 0))) ∧ Aside0 (Below w.heap.size w w'))
 case atStart => exact ⟨(y290), (0), rs0, H', ⟨Nat.le_refl _⟩, ⟨pkR HO292⟩, ⟨pkb BK289⟩, ⟨z7_1⟩⟩
 case round =>
  clear H'
  try clear p2
  try clear c3
  try clear c4
  try clear c4b0
  try clear c7
  try clear hcz13_0
  try clear hcz8_0
  try clear hfz13_0
  try clear hfz8_0
  obtain ⟨x5_1, x6_1, rfl, HA, HK1, HO_5, BK289, HB⟩ := hrel
  cases gk with
  | zero => exact absurd HA.out (by simp [spec_UnderOf.l0])
  | succ k1 =>
   have H := HA.out; clear HA
   simp only [spec_UnderOf.l0] at H
   by_cases c15 : x6_1 < (l0_0.length : Int)
   rotate_left
   ·rw [if_neg c15] at H
    have c15b0 := decide_eq_false c15
    clear c15
    obtain rfl := Option.some.inj H
    simp only [Option.some.injEq, Prod.mk.injEq] at H
    obtain ⟨rfl⟩ := H
    obtain ⟨_, _⟩ := be_1 BK289.out
    go_wp2
    go_ret
    exact ⟨_, z7_6, (pkR HO_5), z7_1⟩
   rw [if_pos c15] at H
   have c15b0 := decide_eq_true c15
   clear c15
   by_cases c16 : 0 ≤ x6_1
   rotate_left
   ·rw [if_neg c16] at H
    exact absurd H (by simp)
   rw [if_pos c16] at H
   have c16b0 := decide_eq_true c16
   clear c16
   replace H := Option.bind_eq_some_iff.mp H
   obtain ⟨t295, A170, H⟩ := H
   try dsimp only at H
   have A17 := mk0 A170
   clear A170
   by_cases c18 : t295 = true
   rotate_left
   ·replace c18 := Bool.eq_false_iff.mpr c18
    subst c18
    rw [if_neg (show ¬ (false = true) by decide)] at H
    have H' := mk0 H
    clear H
    obtain ⟨_, _⟩ := be_1 BK289.out
    try go_wp2
    have n0_ := mk0 (Kd.R_drew HO_5.out)
    have n1_ := mk0 (blk_drew BK289.out)
    have n2_ := mk0 (below_drew1 HB.out)
    clear HO_5 BK289 HB; have HO_5 := n0_; have BK289 := n1_; have HB := n2_; clear n0_ n1_ n2_
    have p294 : 0 ≤ (x6_1 : Int) := of_decide_eq_true (by first | (with_reducible assumption) | assumption)
    have q294 : x6_1 < (l0_0.length : Int) := of_decide_eq_true (by first | (with_reducible assumption) | assumption)
    obtain ⟨ad294, A294_9, c294_9, A294_10, c294_10, A294_13, c294_13, A294_29, c294_29, A294_30, c294_30, e294, hx294_0, hx294_1, hx294_2, hx294_3, hx294_4, hx294_5, hx294_6, hx294_7, hx294_8, hx294_9, hx294_10, hx294_11, hx294_12, hx294_13, hx294_14, hx294_15, hx294_16, hx294_17, hx294_18, hx294_19, hx294_20, hx294_21, hx294_22, hx294_23, hx294_24, hx294_25, hx294_26, hx294_27, hx294_28, hx294_29, hx294_30, hl294_9, hi294_9, hl294_10, hi294_10, hl294_13, hi294_13, hl294_29, hi294_29, hl294_30, hi294_30⟩ := at_T69 HR0_0.out x6_1 p294 q294
    have hM294 := lie_zero hx294_0 (lie_n hx294_1 (lie_n hx294_2 (lie_n hx294_3 (lie_n hx294_4 (lie_n hx294_5 (lie_n hx294_6 (lie_n hx294_7 (lie_n hx294_8 (lie_n hx294_9 (lie_n hx294_10 (lie_n hx294_11 (lie_n hx294_12 (lie_n hx294_13 (lie_n hx294_14 (lie_n hx294_15 (lie_n hx294_16 (lie_n hx294_17 (lie_n hx294_18 (lie_n hx294_19 (lie_n hx294_20 (lie_n hx294_21 (lie_n hx294_22 (lie_n hx294_23 (lie_n hx294_24 (lie_n hx294_25 (lie_n hx294_26 (lie_n hx294_27 (lie_n hx294_28 (lie_n hx294_29 (lie_n hx294_30 (lie_nil _ _ _)))))))))))))))))))))))))))))))
    have hw294_30 := hx294_30; have hw294_29 := hx294_29; have hw294_28 := hx294_28; have hw294_27 := hx294_27; have hw294_26 := hx294_26; have hw294_25 := hx294_25; have hw294_24 := hx294_24; have hw294_23 := hx294_23; have hw294_22 := hx294_22; have hw294_21 := hx294_21; have hw294_20 := hx294_20; have hw294_19 := hx294_19; have hw294_18 := hx294_18; have hw294_17 := hx294_17; have hw294_16 := hx294_16; have hw294_15 := hx294_15; have hw294_14 := hx294_14; have hw294_13 := hx294_13; have hw294_12 := hx294_12; have hw294_11 := hx294_11; have hw294_10 := hx294_10; have hw294_9 := hx294_9; have hw294_8 := hx294_8; have hw294_7 := hx294_7; have hw294_6 := hx294_6; have hw294_5 := hx294_5; have hw294_4 := hx294_4; have hw294_3 := hx294_3; have hw294_2 := hx294_2; have hw294_1 := hx294_1; have hw294_0 := hx294_0
    cases e294
    replace hx294_0 := cell_go HB hx294_0
    replace hx294_1 := cell_go HB hx294_1
    replace hx294_2 := cell_go HB hx294_2
    replace hx294_3 := cell_go HB hx294_3
    replace hx294_4 := cell_go HB hx294_4
    replace hx294_5 := cell_go HB hx294_5
    replace hx294_6 := cell_go HB hx294_6
    replace hx294_7 := cell_go HB hx294_7
    replace hx294_8 := cell_go HB hx294_8
    replace hx294_9 := cell_go HB hx294_9
    replace hx294_10 := cell_go HB hx294_10
    replace hx294_11 := cell_go HB hx294_11
    replace hx294_12 := cell_go HB hx294_12
    replace hx294_13 := cell_go HB hx294_13
    replace hx294_14 := cell_go HB hx294_14
    replace hx294_15 := cell_go HB hx294_15
    replace hx294_16 := cell_go HB hx294_16
    replace hx294_17 := cell_go HB hx294_17
    replace hx294_18 := cell_go HB hx294_18
    replace hx294_19 := cell_go HB hx294_19
    replace hx294_20 := cell_go HB hx294_20
    replace hx294_21 := cell_go HB hx294_21
    replace hx294_22 := cell_go HB hx294_22
    replace hx294_23 := cell_go HB hx294_23
    replace hx294_24 := cell_go HB hx294_24
    replace hx294_25 := cell_go HB hx294_25
    replace hx294_26 := cell_go HB hx294_26
    replace hx294_27 := cell_go HB hx294_27
    replace hx294_28 := cell_go HB hx294_28
    replace hx294_29 := cell_go HB hx294_29
    replace hx294_30 := cell_go HB hx294_30
    have HR294_9 := mk0 hi294_9
    have HC294_9 := mk0 hl294_9
    clear hi294_9 hl294_9
    have HR294_10 := mk0 hi294_10
    have HC294_10 := mk0 hl294_10
    clear hi294_10 hl294_10
    have HR294_13 := mk0 hi294_13
    have HC294_13 := mk0 hl294_13
    clear hi294_13 hl294_13
    have HR294_29 := mk0 hi294_29
    have HC294_29 := mk0 hl294_29
    clear hi294_29 hl294_29
    have HR294_30 := mk0 hi294_30
    have HC294_30 := mk0 hl294_30
    clear hi294_30 hl294_30
    replace p294 := eq_true p294
    replace q294 := eq_true q294
    refine start_ (n := 9) (S := fun w' => w'.cell? ⟨gb289, 0, none⟩ = some (.slice (some ad294) l0_0.length c0_0) ∧ Lie w' (ad294.add ((x6_1).toNat * 31)) 0 [.int .i64 ((rd_T69 l0_0 x6_1).f0), .int .i64 ((rd_T69 l0_0 x6_1).f1), .bool ((rd_T69 l0_0 x6_1).f2), .int .i64 ((rd_T69 l0_0 x6_1).f3.f0), .int .i64 ((rd_T69 l0_0 x6_1).f3.f1), .int .i64 ((rd_T69 l0_0 x6_1).f3.f2), .int .i64 ((rd_T69 l0_0 x6_1).f3.f3), .int .i64 ((rd_T69 l0_0 x6_1).f3.f4), .int .i64 ((rd_T69 l0_0 x6_1).f3.f5), .slice A294_9 ((rd_T69 l0_0 x6_1).f4.f0).length c294_9, .slice A294_10 ((rd_T69 l0_0 x6_1).f4.f1).length c294_10, .bool ((rd_T69 l0_0 x6_1).f5), .int .i64 ((rd_T69 l0_0 x6_1).f6), .slice A294_13 ((rd_T69 l0_0 x6_1).f7).length c294_13, .int .i64 ((rd_T69 l0_0 x6_1).f8.f0), .int .i64 ((rd_T69 l0_0 x6_1).f8.f1.f0), .int .i64 ((rd_T69 l0_0 x6_1).f8.f1.f1), .int .i64 ((rd_T69 l0_0 x6_1).f8.f1.f2), .int .i64 ((rd_T69 l0_0 x6_1).f8.f1.f3), .int .i64 ((rd_T69 l0_0 x6_1).f8.f2.f0), .int .i64 ((rd_T69 l0_0 x6_1).f8.f2.f1), .int .i64 ((rd_T69 l0_0 x6_1).f8.f2.f2), .int .i64 ((rd_T69 l0_0 x6_1).f8.f2.f3), .int .i64 ((rd_T69 l0_0 x6_1).f8.f3.f0), .int .i64 ((rd_T69 l0_0 x6_1).f8.f3.f1), .int .i64 ((rd_T69 l0_0 x6_1).f8.f4.f0), .int .i64 ((rd_T69 l0_0 x6_1).f8.f4.f1), .int .i64 ((rd_T69 l0_0 x6_1).f9), .int .i64 ((rd_T69 l0_0 x6_1).f10), .slice A294_29 ((rd_T69 l0_0 x6_1).f11.f0).length c294_29, .slice A294_30 ((rd_T69 l0_0 x6_1).f11.f1).length c294_30]) (ds := []) #[false, false, false, false, false, false, false, false, false] (by kernel_rfl) rfl rfl ⟨(blk_cell BK289.out 0).trans rfl, lie_below HB.out hM294⟩ (fun hHeld => ?_); refine with_tabW spec_UnderOf.tab7 spec_UnderOf.bits7 (fun HT_ HW_ => ?_)
    generalize wr.drew = w26 at HO_5 BK289 HB HR294_10 HR294_13 HR294_29 HR294_30 HR294_9 hx294_0 hx294_1 hx294_10 hx294_11 hx294_12 hx294_13 hx294_14 hx294_15 hx294_16 hx294_17 hx294_18 hx294_19 hx294_2 hx294_20 hx294_21 hx294_22 hx294_23 hx294_24 hx294_25 hx294_26 hx294_27 hx294_28 hx294_29 hx294_3 hx294_30 hx294_4 hx294_5 hx294_6 hx294_7 hx294_8 hx294_9 hHeld ⊢
    refine pzv (i := 1) (N := 21) (v := ?_) (a' := ?_) (bA 9 2) HT_ ?_ ?_ ?_
    rotate_left
    ·intro w'
     go_simp; with_reducible rfl
    rotate_left
    ·exact x7_put
    refine pzv (i := 3) (N := 23) (v := ?_) (a' := ?_) (bA 9 10) HT_ ?_ ?_ ?_
    rotate_left
    ·intro w'
     go_simp; with_reducible rfl
    rotate_left
    ·exact x7_put
    refine pzv (i := 7) (N := 27) (v := ?_) (a' := ?_) (bA 9 138) HT_ ?_ ?_ ?_
    rotate_left
    ·intro w'
     go_simp; with_reducible rfl
    rotate_left
    ·exact x7_put
    refine take_ (i := 0) (N := some 20) (v := ?_) (a' := ?_) (bA 9 139) rfl rfl (take_ofW HT_.out HW_.out (by kernel_rfl)) (fun _ _ _ h => h) (Or.inl ⟨by rfl, ?_⟩) hHeld ?_ ?_
    rotate_left
    ·rintro w' ⟨s0, sL294⟩
     first | (refine load_yields (t := 69) (x := ?x_670_294) ?ho_670_294 ?hx_670_294 _ _ sL294 Try.underlying69 rfl (show (Try.prog.info? 69).map (·.size) = some 31 by kernel_rfl); (case ho_670_294 => rfl); (case hx_670_294 => rfl)) | (have c0_ := lie_at sL294 0 _ rfl; simp only [Nat.add_zero, Addr.add_zero'] at c0_; go_simp; with_reducible rfl) | (go_simp; with_reducible rfl)
    rotate_left
    ·exact x7_put
    refine take_ (i := 2) (N := some 22) (v := ?_) (a' := ?_) (bA 9 143) rfl rfl (take_ofW HT_.out HW_.out (by kernel_rfl)) (fun _ _ _ h => h) (Or.inl ⟨by rfl, ?_⟩) hHeld ?_ ?_
    rotate_left
    ·rintro w' ⟨s0, sL294⟩
     first | (refine load_yields (t := 69) (x := ?x_680_294) ?ho_680_294 ?hx_680_294 _ _ sL294 Try.underlying69 rfl (show (Try.prog.info? 69).map (·.size) = some 31 by kernel_rfl); (case ho_680_294 => rfl); (case hx_680_294 => rfl)) | (have c0_ := lie_at sL294 0 _ rfl; simp only [Nat.add_zero, Addr.add_zero'] at c0_; go_simp; with_reducible rfl) | (go_simp; with_reducible rfl)
    rotate_left
    ·exact x7_put
    refine pzv (i := 4) (N := 24) (v := ?_) (a' := ?_) (bA 9 159) HT_ ?_ ?_ ?_
    rotate_left
    ·intro w'
     go_simp; with_reducible rfl
    rotate_left
    ·exact x7_put
    refine pzv (i := 5) (N := 25) (v := ?_) (a' := ?_) (bA 9 191) HT_ ?_ ?_ ?_
    rotate_left
    ·intro w'
     go_simp; with_reducible rfl
    rotate_left
    ·exact x7_put
    refine take_ (i := 6) (N := some 26) (v := ?_) (a' := ?_) (bA 9 255) rfl rfl (take_ofW HT_.out HW_.out (by kernel_rfl)) (fun _ _ _ h => h) (Or.inl ⟨by rfl, ?_⟩) hHeld ?_ ?_
    rotate_left
    ·rintro w' ⟨s0, sL294⟩
     first | (refine load_yields (t := 69) (x := ?x_706_294) ?ho_706_294 ?hx_706_294 _ _ sL294 Try.underlying69 rfl (show (Try.prog.info? 69).map (·.size) = some 31 by kernel_rfl); (case ho_706_294 => rfl); (case hx_706_294 => rfl)) | (have c0_ := lie_at sL294 0 _ rfl; simp only [Nat.add_zero, Addr.add_zero'] at c0_; go_simp; with_reducible rfl) | (go_simp; with_reducible rfl)
    rotate_left
    ·exact x7_put
    refine one_ (i := 8) (N := some 28) (bA 9 511) rfl rfl (one_of HT_.out (by kernel_rfl)) (by decide) (fun K hK => ?_)
    refine goes_ Try.func71 (by kernel_rfl) rfl #[.agg #[.slice (some ad294) l0_0.length c0_0], .int .i64 ((rd_T69 l0_0 x6_1).f0), .int .i64 a1] (by rfl) rfl rfl z7_5 ?_
    with_reducible refine (spec_l15Under.calls k1 _ _ l0_0 ((rd_T69 l0_0 x6_1).f0) a1 false _ ?side1 ?side2 A17.out).mono ?_
    (case side1 => exact z7_4)
    (case side2 => exact HC0_0.out)
    rintro e w27 ⟨rfl, hb⟩
    refine ⟨_, rfl, ?_⟩
    have n0_ := mk0 (Kd.R_below (pkR HO_5) hb)
    have n1_ := mk0 (blk_belowB BK289 (pkb BK289) hb)
    have n2_ := mk0 (below_step z7_1 hb)
    clear HO_5 BK289 HB; have HO_5 := n0_; have BK289 := n1_; have HB := n2_; clear n0_ n1_ n2_; (try clear hb); (try clear hb2); (try clear hk); (try clear hi)
    refine hK.out _ _ ⟨(blk_cell BK289.out 0).trans rfl, lie_below HB.out hM294⟩ (fun hHeld => ?_)
    clear hK K
    refine norm_ (a' := ?_) ?_ ?_
    rotate_left
    ·show Act.put _ (some 28) _ = _
     simp only [Act.put, List.setIfInBounds_toArray, List.set_cons_zero, List.set_cons_succ, i64_w, i32_w]
     rfl
    refine done_ (done_of HT_.out (by kernel_rfl)) ?_
    try go_wp2_with (first | ((with_reducible refine gate_load (t := 69) rfl ?_); refine load_lie (t := 69) rfl rfl hM294 HB (by with_reducible rfl) rfl Try.underlying69 rfl (show (Try.prog.info? 69).map (·.size) = some 31 by kernel_rfl) rfl ?_) | ((with_reducible refine gate_load (t := 69) rfl ?_); refine load_lie0 (t := 69) rfl rfl hM294 (by with_reducible rfl) rfl Try.underlying69 rfl (show (Try.prog.info? 69).map (·.size) = some 31 by kernel_rfl) rfl ?_))
    go_roundg k1
    case measure => have := HK1.out; omega
    case rel => exact ⟨(x5_1), (wrap64 (x6_1 + 1)), rs0, H', ⟨(by have := HK1.out; omega)⟩, ⟨pkR HO_5⟩, ⟨pkb BK289⟩, ⟨z7_1⟩⟩
   subst c18
   rw [if_pos rfl] at H
   by_cases c19 : x5_1.length < 17592186044416
   rotate_left
   ·rw [if_neg c19] at H
    exact absurd H (by simp)
   rw [if_pos c19] at H
   have LMc19 := mk0 c19
   clear c19
   obtain ⟨y297, hy_⟩ : ∃ y_ : List Int, y_ = (x5_1 ++ [(rd_T69 l0_0 x6_1).f0]) := ⟨_, rfl⟩
   replace H : (spec_UnderOf.l0 k1 a1 y297 (wrap64 (x6_1 + 1)) l0_0) = some r := z7_8
   have Ny297 := mk0 hy_
   clear hy_
   have H' := mk0 H
   clear H
   obtain ⟨_, _⟩ := be_1 BK289.out
   try go_wp2
   have n0_ := mk0 (Kd.R_drew HO_5.out)
   have n1_ := mk0 (blk_drew BK289.out)
   have n2_ := mk0 (below_drew1 HB.out)
   clear HO_5 BK289 HB; have HO_5 := n0_; have BK289 := n1_; have HB := n2_; clear n0_ n1_ n2_
   have p294 : 0 ≤ (x6_1 : Int) := of_decide_eq_true (by first | (with_reducible assumption) | assumption)
   have q294 : x6_1 < (l0_0.length : Int) := of_decide_eq_true (by first | (with_reducible assumption) | assumption)
   obtain ⟨ad294, A294_9, c294_9, A294_10, c294_10, A294_13, c294_13, A294_29, c294_29, A294_30, c294_30, e294, hx294_0, hx294_1, hx294_2, hx294_3, hx294_4, hx294_5, hx294_6, hx294_7, hx294_8, hx294_9, hx294_10, hx294_11, hx294_12, hx294_13, hx294_14, hx294_15, hx294_16, hx294_17, hx294_18, hx294_19, hx294_20, hx294_21, hx294_22, hx294_23, hx294_24, hx294_25, hx294_26, hx294_27, hx294_28, hx294_29, hx294_30, hl294_9, hi294_9, hl294_10, hi294_10, hl294_13, hi294_13, hl294_29, hi294_29, hl294_30, hi294_30⟩ := at_T69 HR0_0.out x6_1 p294 q294
   have hM294 := lie_zero hx294_0 (lie_n hx294_1 (lie_n hx294_2 (lie_n hx294_3 (lie_n hx294_4 (lie_n hx294_5 (lie_n hx294_6 (lie_n hx294_7 (lie_n hx294_8 (lie_n hx294_9 (lie_n hx294_10 (lie_n hx294_11 (lie_n hx294_12 (lie_n hx294_13 (lie_n hx294_14 (lie_n hx294_15 (lie_n hx294_16 (lie_n hx294_17 (lie_n hx294_18 (lie_n hx294_19 (lie_n hx294_20 (lie_n hx294_21 (lie_n hx294_22 (lie_n hx294_23 (lie_n hx294_24 (lie_n hx294_25 (lie_n hx294_26 (lie_n hx294_27 (lie_n hx294_28 (lie_n hx294_29 (lie_n hx294_30 (lie_nil _ _ _)))))))))))))))))))))))))))))))
   have hw294_30 := hx294_30; have hw294_29 := hx294_29; have hw294_28 := hx294_28; have hw294_27 := hx294_27; have hw294_26 := hx294_26; have hw294_25 := hx294_25; have hw294_24 := hx294_24; have hw294_23 := hx294_23; have hw294_22 := hx294_22; have hw294_21 := hx294_21; have hw294_20 := hx294_20; have hw294_19 := hx294_19; have hw294_18 := hx294_18; have hw294_17 := hx294_17; have hw294_16 := hx294_16; have hw294_15 := hx294_15; have hw294_14 := hx294_14; have hw294_13 := hx294_13; have hw294_12 := hx294_12; have hw294_11 := hx294_11; have hw294_10 := hx294_10; have hw294_9 := hx294_9; have hw294_8 := hx294_8; have hw294_7 := hx294_7; have hw294_6 := hx294_6; have hw294_5 := hx294_5; have hw294_4 := hx294_4; have hw294_3 := hx294_3; have hw294_2 := hx294_2; have hw294_1 := hx294_1; have hw294_0 := hx294_0
   cases e294
   replace hx294_0 := cell_go HB hx294_0
   replace hx294_1 := cell_go HB hx294_1
   replace hx294_2 := cell_go HB hx294_2
   replace hx294_3 := cell_go HB hx294_3
   replace hx294_4 := cell_go HB hx294_4
   replace hx294_5 := cell_go HB hx294_5
   replace hx294_6 := cell_go HB hx294_6
   replace hx294_7 := cell_go HB hx294_7
   replace hx294_8 := cell_go HB hx294_8
   replace hx294_9 := cell_go HB hx294_9
   replace hx294_10 := cell_go HB hx294_10
   replace hx294_11 := cell_go HB hx294_11
   replace hx294_12 := cell_go HB hx294_12
   replace hx294_13 := cell_go HB hx294_13
   replace hx294_14 := cell_go HB hx294_14
   replace hx294_15 := cell_go HB hx294_15
   replace hx294_16 := cell_go HB hx294_16
   replace hx294_17 := cell_go HB hx294_17
   replace hx294_18 := cell_go HB hx294_18
   replace hx294_19 := cell_go HB hx294_19
   replace hx294_20 := cell_go HB hx294_20
   replace hx294_21 := cell_go HB hx294_21
   replace hx294_22 := cell_go HB hx294_22
   replace hx294_23 := cell_go HB hx294_23
   replace hx294_24 := cell_go HB hx294_24
   replace hx294_25 := cell_go HB hx294_25
   replace hx294_26 := cell_go HB hx294_26
   replace hx294_27 := cell_go HB hx294_27
   replace hx294_28 := cell_go HB hx294_28
   replace hx294_29 := cell_go HB hx294_29
   replace hx294_30 := cell_go HB hx294_30
   have HR294_9 := mk0 hi294_9
   have HC294_9 := mk0 hl294_9
   clear hi294_9 hl294_9
   have HR294_10 := mk0 hi294_10
   have HC294_10 := mk0 hl294_10
   clear hi294_10 hl294_10
   have HR294_13 := mk0 hi294_13
   have HC294_13 := mk0 hl294_13
   clear hi294_13 hl294_13
   have HR294_29 := mk0 hi294_29
   have HC294_29 := mk0 hl294_29
   clear hi294_29 hl294_29
   have HR294_30 := mk0 hi294_30
   have HC294_30 := mk0 hl294_30
   clear hi294_30 hl294_30
   replace p294 := eq_true p294
   replace q294 := eq_true q294
   refine start_ (n := 9) (S := fun w' => w'.cell? ⟨gb289, 0, none⟩ = some (.slice (some ad294) l0_0.length c0_0) ∧ Lie w' (ad294.add ((x6_1).toNat * 31)) 0 [.int .i64 ((rd_T69 l0_0 x6_1).f0), .int .i64 ((rd_T69 l0_0 x6_1).f1), .bool ((rd_T69 l0_0 x6_1).f2), .int .i64 ((rd_T69 l0_0 x6_1).f3.f0), .int .i64 ((rd_T69 l0_0 x6_1).f3.f1), .int .i64 ((rd_T69 l0_0 x6_1).f3.f2), .int .i64 ((rd_T69 l0_0 x6_1).f3.f3), .int .i64 ((rd_T69 l0_0 x6_1).f3.f4), .int .i64 ((rd_T69 l0_0 x6_1).f3.f5), .slice A294_9 ((rd_T69 l0_0 x6_1).f4.f0).length c294_9, .slice A294_10 ((rd_T69 l0_0 x6_1).f4.f1).length c294_10, .bool ((rd_T69 l0_0 x6_1).f5), .int .i64 ((rd_T69 l0_0 x6_1).f6), .slice A294_13 ((rd_T69 l0_0 x6_1).f7).length c294_13, .int .i64 ((rd_T69 l0_0 x6_1).f8.f0), .int .i64 ((rd_T69 l0_0 x6_1).f8.f1.f0), .int .i64 ((rd_T69 l0_0 x6_1).f8.f1.f1), .int .i64 ((rd_T69 l0_0 x6_1).f8.f1.f2), .int .i64 ((rd_T69 l0_0 x6_1).f8.f1.f3), .int .i64 ((rd_T69 l0_0 x6_1).f8.f2.f0), .int .i64 ((rd_T69 l0_0 x6_1).f8.f2.f1), .int .i64 ((rd_T69 l0_0 x6_1).f8.f2.f2), .int .i64 ((rd_T69 l0_0 x6_1).f8.f2.f3), .int .i64 ((rd_T69 l0_0 x6_1).f8.f3.f0), .int .i64 ((rd_T69 l0_0 x6_1).f8.f3.f1), .int .i64 ((rd_T69 l0_0 x6_1).f8.f4.f0), .int .i64 ((rd_T69 l0_0 x6_1).f8.f4.f1), .int .i64 ((rd_T69 l0_0 x6_1).f9), .int .i64 ((rd_T69 l0_0 x6_1).f10), .slice A294_29 ((rd_T69 l0_0 x6_1).f11.f0).length c294_29, .slice A294_30 ((rd_T69 l0_0 x6_1).f11.f1).length c294_30]) (ds := []) #[false, false, false, false, false, false, false, false, false] (by kernel_rfl) rfl rfl ⟨(blk_cell BK289.out 0).trans rfl, lie_below HB.out hM294⟩ (fun hHeld => ?_); refine with_tabW spec_UnderOf.tab7 spec_UnderOf.bits7 (fun HT_ HW_ => ?_)
   generalize wr.drew = w21 at HO_5 BK289 HB HR294_10 HR294_13 HR294_29 HR294_30 HR294_9 hx294_0 hx294_1 hx294_10 hx294_11 hx294_12 hx294_13 hx294_14 hx294_15 hx294_16 hx294_17 hx294_18 hx294_19 hx294_2 hx294_20 hx294_21 hx294_22 hx294_23 hx294_24 hx294_25 hx294_26 hx294_27 hx294_28 hx294_29 hx294_3 hx294_30 hx294_4 hx294_5 hx294_6 hx294_7 hx294_8 hx294_9 hHeld ⊢
   refine pzv (i := 1) (N := 21) (v := ?_) (a' := ?_) (bA 9 2) HT_ ?_ ?_ ?_
   rotate_left
   ·intro w'
    go_simp; with_reducible rfl
   rotate_left
   ·exact x7_put
   refine pzv (i := 3) (N := 23) (v := ?_) (a' := ?_) (bA 9 10) HT_ ?_ ?_ ?_
   rotate_left
   ·intro w'
    go_simp; with_reducible rfl
   rotate_left
   ·exact x7_put
   refine pzv (i := 7) (N := 27) (v := ?_) (a' := ?_) (bA 9 138) HT_ ?_ ?_ ?_
   rotate_left
   ·intro w'
    go_simp; with_reducible rfl
   rotate_left
   ·exact x7_put
   refine take_ (i := 0) (N := some 20) (v := ?_) (a' := ?_) (bA 9 139) rfl rfl (take_ofW HT_.out HW_.out (by kernel_rfl)) (fun _ _ _ h => h) (Or.inl ⟨by rfl, ?_⟩) hHeld ?_ ?_
   rotate_left
   ·rintro w' ⟨s0, sL294⟩
    first | (refine load_yields (t := 69) (x := ?x_403_294) ?ho_403_294 ?hx_403_294 _ _ sL294 Try.underlying69 rfl (show (Try.prog.info? 69).map (·.size) = some 31 by kernel_rfl); (case ho_403_294 => rfl); (case hx_403_294 => rfl)) | (have c0_ := lie_at sL294 0 _ rfl; simp only [Nat.add_zero, Addr.add_zero'] at c0_; go_simp; with_reducible rfl) | (go_simp; with_reducible rfl)
   rotate_left
   ·exact x7_put
   refine take_ (i := 2) (N := some 22) (v := ?_) (a' := ?_) (bA 9 143) rfl rfl (take_ofW HT_.out HW_.out (by kernel_rfl)) (fun _ _ _ h => h) (Or.inl ⟨by rfl, ?_⟩) hHeld ?_ ?_
   rotate_left
   ·rintro w' ⟨s0, sL294⟩
    first | (refine load_yields (t := 69) (x := ?x_413_294) ?ho_413_294 ?hx_413_294 _ _ sL294 Try.underlying69 rfl (show (Try.prog.info? 69).map (·.size) = some 31 by kernel_rfl); (case ho_413_294 => rfl); (case hx_413_294 => rfl)) | (have c0_ := lie_at sL294 0 _ rfl; simp only [Nat.add_zero, Addr.add_zero'] at c0_; go_simp; with_reducible rfl) | (go_simp; with_reducible rfl)
   rotate_left
   ·exact x7_put
   refine pzv (i := 4) (N := 24) (v := ?_) (a' := ?_) (bA 9 159) HT_ ?_ ?_ ?_
   rotate_left
   ·intro w'
    go_simp; with_reducible rfl
   rotate_left
   ·exact x7_put
   refine pzv (i := 5) (N := 25) (v := ?_) (a' := ?_) (bA 9 191) HT_ ?_ ?_ ?_
   rotate_left
   ·intro w'
    go_simp; with_reducible rfl
   rotate_left
   ·exact x7_put
   refine take_ (i := 6) (N := some 26) (v := ?_) (a' := ?_) (bA 9 255) rfl rfl (take_ofW HT_.out HW_.out (by kernel_rfl)) (fun _ _ _ h => h) (Or.inl ⟨by rfl, ?_⟩) hHeld ?_ ?_
   rotate_left
   ·rintro w' ⟨s0, sL294⟩
    first | (refine load_yields (t := 69) (x := ?x_439_294) ?ho_439_294 ?hx_439_294 _ _ sL294 Try.underlying69 rfl (show (Try.prog.info? 69).map (·.size) = some 31 by kernel_rfl); (case ho_439_294 => rfl); (case hx_439_294 => rfl)) | (have c0_ := lie_at sL294 0 _ rfl; simp only [Nat.add_zero, Addr.add_zero'] at c0_; go_simp; with_reducible rfl) | (go_simp; with_reducible rfl)
   rotate_left
   ·exact x7_put
   refine one_ (i := 8) (N := some 28) (bA 9 511) rfl rfl (one_of HT_.out (by kernel_rfl)) (by decide) (fun K hK => ?_)
   refine goes_ Try.func71 (by kernel_rfl) rfl #[.agg #[.slice (some ad294) l0_0.length c0_0], .int .i64 ((rd_T69 l0_0 x6_1).f0), .int .i64 a1] (by rfl) rfl rfl z7_5 ?_
   with_reducible refine (spec_l15Under.calls k1 _ _ l0_0 ((rd_T69 l0_0 x6_1).f0) a1 true _ ?side1 ?side2 A17.out).mono ?_
   (case side1 => exact z7_4)
   (case side2 => exact HC0_0.out)
   rintro e w22 ⟨rfl, hb⟩
   refine ⟨_, rfl, ?_⟩
   have n0_ := mk0 (Kd.R_below (pkR HO_5) hb)
   have n1_ := mk0 (blk_belowB BK289 (pkb BK289) hb)
   have n2_ := mk0 (below_step z7_1 hb)
   clear HO_5 BK289 HB; have HO_5 := n0_; have BK289 := n1_; have HB := n2_; clear n0_ n1_ n2_; (try clear hb); (try clear hb2); (try clear hk); (try clear hi)
   refine hK.out _ _ ⟨(blk_cell BK289.out 0).trans rfl, lie_below HB.out hM294⟩ (fun hHeld => ?_)
   clear hK K
   refine norm_ (a' := ?_) ?_ ?_
   rotate_left
   ·show Act.put _ (some 28) _ = _
    simp only [Act.put, List.setIfInBounds_toArray, List.set_cons_zero, List.set_cons_succ, i64_w, i32_w]
    rfl
   refine done_ (done_of HT_.out (by kernel_rfl)) ?_
   obtain ⟨_, _⟩ := be_1 BK289.out
   have p296 : 0 ≤ (x6_1 : Int) := of_decide_eq_true (by first | (with_reducible assumption) | assumption)
   have q296 : x6_1 < (l0_0.length : Int) := of_decide_eq_true (by first | (with_reducible assumption) | assumption)
   obtain ⟨ad296, A296_9, c296_9, A296_10, c296_10, A296_13, c296_13, A296_29, c296_29, A296_30, c296_30, e296, hx296_0, hx296_1, hx296_2, hx296_3, hx296_4, hx296_5, hx296_6, hx296_7, hx296_8, hx296_9, hx296_10, hx296_11, hx296_12, hx296_13, hx296_14, hx296_15, hx296_16, hx296_17, hx296_18, hx296_19, hx296_20, hx296_21, hx296_22, hx296_23, hx296_24, hx296_25, hx296_26, hx296_27, hx296_28, hx296_29, hx296_30, hl296_9, hi296_9, hl296_10, hi296_10, hl296_13, hi296_13, hl296_29, hi296_29, hl296_30, hi296_30⟩ := at_T69 HR0_0.out x6_1 p296 q296
   have hM296 := lie_zero hx296_0 (lie_n hx296_1 (lie_n hx296_2 (lie_n hx296_3 (lie_n hx296_4 (lie_n hx296_5 (lie_n hx296_6 (lie_n hx296_7 (lie_n hx296_8 (lie_n hx296_9 (lie_n hx296_10 (lie_n hx296_11 (lie_n hx296_12 (lie_n hx296_13 (lie_n hx296_14 (lie_n hx296_15 (lie_n hx296_16 (lie_n hx296_17 (lie_n hx296_18 (lie_n hx296_19 (lie_n hx296_20 (lie_n hx296_21 (lie_n hx296_22 (lie_n hx296_23 (lie_n hx296_24 (lie_n hx296_25 (lie_n hx296_26 (lie_n hx296_27 (lie_n hx296_28 (lie_n hx296_29 (lie_n hx296_30 (lie_nil _ _ _)))))))))))))))))))))))))))))))
   obtain rfl : ad294 = ad296 := (by injection e296)
   replace hx296_0 := cell_go HB hx296_0
   replace hx296_1 := cell_go HB hx296_1
   replace hx296_2 := cell_go HB hx296_2
   replace hx296_3 := cell_go HB hx296_3
   replace hx296_4 := cell_go HB hx296_4
   replace hx296_5 := cell_go HB hx296_5
   replace hx296_6 := cell_go HB hx296_6
   replace hx296_7 := cell_go HB hx296_7
   replace hx296_8 := cell_go HB hx296_8
   replace hx296_9 := cell_go HB hx296_9
   replace hx296_10 := cell_go HB hx296_10
   replace hx296_11 := cell_go HB hx296_11
   replace hx296_12 := cell_go HB hx296_12
   replace hx296_13 := cell_go HB hx296_13
   replace hx296_14 := cell_go HB hx296_14
   replace hx296_15 := cell_go HB hx296_15
   replace hx296_16 := cell_go HB hx296_16
   replace hx296_17 := cell_go HB hx296_17
   replace hx296_18 := cell_go HB hx296_18
   replace hx296_19 := cell_go HB hx296_19
   replace hx296_20 := cell_go HB hx296_20
   replace hx296_21 := cell_go HB hx296_21
   replace hx296_22 := cell_go HB hx296_22
   replace hx296_23 := cell_go HB hx296_23
   replace hx296_24 := cell_go HB hx296_24
   replace hx296_25 := cell_go HB hx296_25
   replace hx296_26 := cell_go HB hx296_26
   replace hx296_27 := cell_go HB hx296_27
   replace hx296_28 := cell_go HB hx296_28
   replace hx296_29 := cell_go HB hx296_29
   replace hx296_30 := cell_go HB hx296_30
   have HR296_9 := mk0 hi296_9
   have HC296_9 := mk0 hl296_9
   clear hi296_9 hl296_9
   have HR296_10 := mk0 hi296_10
   have HC296_10 := mk0 hl296_10
   clear hi296_10 hl296_10
   have HR296_13 := mk0 hi296_13
   have HC296_13 := mk0 hl296_13
   clear hi296_13 hl296_13
   have HR296_29 := mk0 hi296_29
   have HC296_29 := mk0 hl296_29
   clear hi296_29 hl296_29
   have HR296_30 := mk0 hi296_30
   have HC296_30 := mk0 hl296_30
   clear hi296_30 hl296_30
   replace p296 := eq_true p296
   replace q296 := eq_true q296
   try go_wp2_with (first | ((with_reducible refine gate_load (t := 69) rfl ?_); refine load_lie (t := 69) rfl rfl hM294 HB (by with_reducible rfl) rfl Try.underlying69 rfl (show (Try.prog.info? 69).map (·.size) = some 31 by kernel_rfl) rfl ?_) | ((with_reducible refine gate_load (t := 69) rfl ?_); refine load_lie0 (t := 69) rfl rfl hM294 (by with_reducible rfl) rfl Try.underlying69 rfl (show (Try.prog.info? 69).map (·.size) = some 31 by kernel_rfl) rfl ?_) | ((with_reducible refine gate_load (t := 69) rfl ?_); refine load_lie (t := 69) rfl rfl hM296 HB (by with_reducible rfl) rfl Try.underlying69 rfl (show (Try.prog.info? 69).map (·.size) = some 31 by kernel_rfl) rfl ?_) | ((with_reducible refine gate_load (t := 69) rfl ?_); refine load_lie0 (t := 69) rfl rfl hM296 (by with_reducible rfl) rfl Try.underlying69 rfl (show (Try.prog.info? 69).map (·.size) = some 31 by kernel_rfl) rfl ?_) | ((with_reducible refine gate_builtin (b := .append) (xs := #[.tmp 29, .tmp 36]) rfl ?_); at_builtin; refine Kd.R_append (Kd.int .i64) (w0 := w) w.heap.size rfl (.tmp 29) (.tmp 36) 24 3 (.int .i64 0) 8 rfl Try.underlying24 info3 rfl (by decide) (by omega) u5 x5_1 ((rd_T69 l0_0 x6_1).f0) [.int .i64 ((rd_T69 l0_0 x6_1).f0)] (fun _ => True) (fun _ => False) rfl rfl ?aP (fun _ hk => hk.elim) ?aF ?aO ?aB ?aS ?aL ?_; (case aP => exact rfl); (case aB => exact z7_1); (case aF => exact (fun _ _ => trivial)); (case aO => exact (pkR HO_5)); (case aS => exact (below_size z7_1)); (case aL => have := LMc19.out; omega); intro v298 w24 ho hb hg hat; rw [← Ny297.out] at ho; have n0_ := mk0 (blk_grown (g := gb289) (o := .cells #[.slice (some ad294) l0_0.length c0_0] 53 (0, 0)) (pkb BK289) hg (Kd.R_ne HO_5.out BK289.out (by decide))); have n1_ := mk0 (hb); have n2_ := mk0 (ho); clear BK289 HB HO_5; have BK289 := n0_; have HB := n1_; have HO299 := n2_; clear n0_ n1_ n2_ ho hb hg hat))
   go_roundg k1
   case measure => have := HK1.out; omega
   case rel => exact ⟨(y297), (wrap64 (x6_1 + 1)), rs0, H', ⟨(by have := HK1.out; omega)⟩, ⟨pkR HO299⟩, ⟨pkb BK289⟩, ⟨z7_1⟩⟩

/-! ### impl_NodeAt_1: function 82 -/
def impl_NodeAt_1.f (a0_0 : Int) (a0_1 : Int) (a0_2 : Bool) (a0_3 : Int) (a0_4 : Int) (a0_5 : Int) (a0_6 : Int) (a0_7 : Int) (a0_8 : Int) (l0_9 : List Int) (l0_10 : List (S29)) (a0_11 : Bool) (a0_12 : Int) (l0_13 : List Int) (a0_14 : Int) (a0_15 : Int) (a0_16 : Int) (a0_17 : Int) (a0_18 : Int) (a0_19 : Int) (a0_20 : Int) (a0_21 : Int) (a0_22 : Int) (a0_23 : Int) (a0_24 : Int) (a0_25 : Int) (a0_26 : Int) (a0_27 : Int) (a0_28 : Int) (l0_29 : List Int) (l0_30 : List (S29)) (a1 : Int) : Option (Bool) := some (a0_0 == a1)
set_option maxHeartbeats 8000000 in
set_option maxRecDepth 100000 in
theorem impl_NodeAt_1.calls (a0_0 : Int) (a0_1 : Int) (a0_2 : Bool) (a0_3 : Int) (a0_4 : Int) (a0_5 : Int) (a0_6 : Int) (a0_7 : Int) (a0_8 : Int) (A0_9 : Option Addr) (c0_9 : Nat) (l0_9 : List Int) (A0_10 : Option Addr) (c0_10 : Nat) (l0_10 : List (S29)) (a0_11 : Bool) (a0_12 : Int) (A0_13 : Option Addr) (c0_13 : Nat) (l0_13 : List Int) (a0_14 : Int) (a0_15 : Int) (a0_16 : Int) (a0_17 : Int) (a0_18 : Int) (a0_19 : Int) (a0_20 : Int) (a0_21 : Int) (a0_22 : Int) (a0_23 : Int) (a0_24 : Int) (a0_25 : Int) (a0_26 : Int) (a0_27 : Int) (a0_28 : Int) (A0_29 : Option Addr) (c0_29 : Nat) (l0_29 : List Int) (A0_30 : Option Addr) (c0_30 : Nat) (l0_30 : List (S29)) (g1 : Nat) (a1 : Int) (r : Bool) (w : World) (hr0_9 : Kd.C (Kd.int .i64) w A0_9 l0_9.length l0_9) (hc0_9 : l0_9.length ≤ c0_9) (hr0_10 : Kd.C k29 w A0_10 l0_10.length l0_10) (hc0_10 : l0_10.length ≤ c0_10) (hr0_13 : Kd.C (Kd.int .i64) w A0_13 l0_13.length l0_13) (hc0_13 : l0_13.length ≤ c0_13) (hr0_29 : Kd.C (Kd.int .i64) w A0_29 l0_29.length l0_29) (hc0_29 : l0_29.length ≤ c0_29) (hr0_30 : Kd.C k29 w A0_30 l0_30.length l0_30) (hc0_30 : l0_30.length ≤ c0_30) (hb1 : w.heap[g1]? = some (.cells #[.int .i64 a1] 3 (0, 0))) (h : impl_NodeAt_1.f a0_0 a0_1 a0_2 a0_3 a0_4 a0_5 a0_6 a0_7 a0_8 l0_9 l0_10 a0_11 a0_12 l0_13 a0_14 a0_15 a0_16 a0_17 a0_18 a0_19 a0_20 a0_21 a0_22 a0_23 a0_24 a0_25 a0_26 a0_27 a0_28 l0_29 l0_30 a1 = some r) :
  Calls Try.prog 82 #[.agg #[.int .i64 a0_0, .int .i64 a0_1, .bool a0_2, .int .i64 a0_3, .int .i64 a0_4, .int .i64 a0_5, .int .i64 a0_6, .int .i64 a0_7, .int .i64 a0_8, .slice A0_9 l0_9.length c0_9, .slice A0_10 l0_10.length c0_10, .bool a0_11, .int .i64 a0_12, .slice A0_13 l0_13.length c0_13, .int .i64 a0_14, .int .i64 a0_15, .int .i64 a0_16, .int .i64 a0_17, .int .i64 a0_18, .int .i64 a0_19, .int .i64 a0_20, .int .i64 a0_21, .int .i64 a0_22, .int .i64 a0_23, .int .i64 a0_24, .int .i64 a0_25, .int .i64 a0_26, .int .i64 a0_27, .int .i64 a0_28, .slice A0_29 l0_29.length c0_29, .slice A0_30 l0_30.length c0_30], .pointer (some ⟨g1, 0, none⟩)] w fun e w' => e = .returned (.bool r) ∧ Below w.heap.size w w' := by
 have hu69 := Try.underlying69
 have HR0_9 := mk0 hr0_9
 have HC0_9 := mk0 hc0_9
 clear hr0_9 hc0_9
 have HR0_10 := mk0 hr0_10
 have HC0_10 := mk0 hc0_10
 clear hr0_10 hc0_10
 have HR0_13 := mk0 hr0_13
 have HC0_13 := mk0 hc0_13
 clear hr0_13 hc0_13
 have HR0_29 := mk0 hr0_29
 have HC0_29 := mk0 hc0_29
 clear hr0_29 hc0_29
 have HR0_30 := mk0 hr0_30
 have HC0_30 := mk0 hc0_30
 clear hr0_30 hc0_30
 have BK1 := mk0 hb1
 clear hb1
 have HB := mk0 (Below.refl w.heap.size w)
 have H : (some (a0_0 == a1)) = some r := h
 clear h
 obtain rfl := Option.some.inj H
 simp only [Option.some.injEq, Prod.mk.injEq] at H
 obtain ⟨rfl⟩ := H
 go_enter Try.func82, Try.ntmps82
 go_wp2_with (first | ((with_reducible refine gate_dst (N := 2) rfl ?_); refine boxz (cs := #[.int .i64 a0_0, .int .i64 a0_1, .bool a0_2, .int .i64 a0_3, .int .i64 a0_4, .int .i64 a0_5, .int .i64 a0_6, .int .i64 a0_7, .int .i64 a0_8, .slice A0_9 l0_9.length c0_9, .slice A0_10 l0_10.length c0_10, .bool a0_11, .int .i64 a0_12, .slice A0_13 l0_13.length c0_13, .int .i64 a0_14, .int .i64 a0_15, .int .i64 a0_16, .int .i64 a0_17, .int .i64 a0_18, .int .i64 a0_19, .int .i64 a0_20, .int .i64 a0_21, .int .i64 a0_22, .int .i64 a0_23, .int .i64 a0_24, .int .i64 a0_25, .int .i64 a0_26, .int .i64 a0_27, .int .i64 a0_28, .slice A0_29 l0_29.length c0_29, .slice A0_30 l0_30.length c0_30]) (t := 69) rfl ?_; intro gb300 hg w3 hbox hb; have n0_ := mk0 (blk_below (g := g1) (o := .cells #[.int .i64 a1] 3 (0, 0)) (pkb BK1) hb); have n1_ := mk0 (below_step z7_7 hb); have n2_ := mk0 (hbox); have GW300 := mk0 (ge_go (a := w.heap.size) hg (below_size z7_7)); have GE300 := GW300; have NB1_300 := mk0 ((by rw [hg]; exact Nat.ne_of_lt (blk_lt (g := g1) (o := .cells #[.int .i64 a1] 3 (0, 0)) (pkb BK1)) : g1 ≠ gb300)); have NB300_1 := mk0 ((by rw [hg]; exact Nat.ne_of_gt (blk_lt (g := g1) (o := .cells #[.int .i64 a1] 3 (0, 0)) (pkb BK1)) : gb300 ≠ g1)); clear BK1 HB; have BK1 := n0_; have HB := n1_; have BK300 := n2_; clear n0_ n1_ n2_ ; clear hb hbox hg; have hnb4 := NB300_1.out; have hnc4 := NB1_300.out; obtain ⟨_, _, _, _, _, _, _, _, _, _, _, _, _, _, _, _, _, _, _, _, _, _, _, _, _, _, _, _, _, _, _, _, _, _, _, _, _, _, _, _, _, _, _, _, _, _, _, _, _, _, _, _, _, _, _, _, _, _, _, _, _, _⟩ := be_31 BK300.out; have hcz6_0 : w3.cell? ⟨g1, 0, none⟩ = some (.int .i64 a1) := (blk_cell BK1.out 0).trans rfl; have hfz6_0 := blk_frozen BK1.out 0))
 go_ret
 exact ⟨z7_6, (by repeat (first | (with_reducible first | exact HB.out | apply below_alloc | apply pw_below_drewN | apply below_drew1 | refine below_set ?_ GE1.out | refine below_set ?_ GE300.out) | exact HB.out))⟩

end Go.Proofs.Ytjfienkbcacijaa.MFnExactUnderOf
