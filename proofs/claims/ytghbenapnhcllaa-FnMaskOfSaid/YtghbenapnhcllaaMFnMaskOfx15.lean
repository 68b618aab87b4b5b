/- Functions of the program as Lean functions, and the proof that a call comes to just these: machine text of this session's own program (myprint.py). -/
import Derived.Test.YtghbenapnhcllaaMFnMaskOfx0
import Derived.Test.YtghbenapnhcllaaMFnMaskOfx3
import Derived.Test.YtghbenapnhcllaaMFnMaskOfx5
import Derived.Test.YtghbenapnhcllaaMFnMaskOfx13
import Derived.Test.YtghbenapnhcllaaMFnMaskOfx14
namespace Go.Proofs.Ytghbenapnhcllaa.MFnMaskOf
open Go.RowKit Go.Proofs.YtghbenapnhcllaaW.PrintWords Go.Proofs.YtghbenapnhcllaaW.PrintLast Go.Proofs.YtghbenapnhcllaaW.PrintMore
attribute [local go_sem] max2_int min2_int max_two min_two max_three min_three max_four min_four   -- for this text's walks alone
set_option linter.unusedVariables false
set_option linter.unusedSimpArgs false

theorem x15_put {P : Prop} (h : P := by simp only [Act.put, List.setIfInBounds_toArray, List.set_cons_zero, List.set_cons_succ, i64_w, i32_w]; rfl) : P := h
theorem z15_1 {P : Prop} (h : P := by repeat (first | (with_reducible first | exact HB.out | apply below_alloc | apply pw_below_drewN | apply below_drew1) | exact HB.out)) : P := h
theorem z15_2 {P : Prop} (h : P := by (with_reducible repeat (first | refine blk_drewN ?_ _ | refine blk_drew ?_ | refine blk_alloc ?_ _)); exact BK533.out) : P := h
theorem z15_3 {P : Prop} (h : P := by (with_reducible repeat (first | refine blk_drewN ?_ _ | refine blk_drew ?_ | refine blk_alloc ?_ _)); exact BK534.out) : P := h
theorem z15_4 {P : Prop} (h : P := by (try simp only [List.map_toArray, List.map_cons, List.map_nil]); first | done | rfl | (simp only [List.length_drop, List.length_take]; rfl)) : P := h
theorem z15_5 {P : Prop} (h : P := by repeat (first | (with_reducible first | exact HB.out | apply below_alloc | apply pw_below_drewN | apply below_drew1 | refine below_set ?_ GE533.out | refine below_set ?_ GE534.out | refine below_set ?_ GE535.out | refine below_set ?_ GE536.out) | exact HB.out)) : P := h
theorem z15_6 {P : Prop} (h : P := by (with_reducible repeat (first | refine blk_drewN ?_ _ | refine blk_drew ?_ | refine blk_alloc ?_ _)); exact BK2.out) : P := h
theorem z15_7 {P : Prop} (h : P := by (with_reducible repeat (first | refine blk_drewN ?_ _ | refine blk_drew ?_ | refine blk_alloc ?_ _)); exact BK3.out) : P := h
theorem z15_8 {P : Prop} (h : P := by first | exact of_decide_eq_true (by with_reducible assumption) | exact of_decide_eq_true (by assumption) | omega | (simp; done)) : P := h
theorem z15_9 {P : Prop} (h : P := by repeat (first | (with_reducible first | exact HB.out | apply below_alloc | apply pw_below_drewN | apply below_drew1 | refine below_set ?_ GE533.out | refine below_set ?_ GE534.out | refine below_set ?_ GE535.out) | exact HB.out)) : P := h
theorem z15_10 {P : Prop} (h : P := by repeat (first | (with_reducible first | exact HB.out | apply below_alloc | apply pw_below_drewN | apply below_drew1 | refine below_set ?_ GE533.out | refine below_set ?_ GE534.out) | exact HB.out)) : P := h
theorem z15_11 {P : Prop} (h : P := by (with_reducible repeat (first | refine blk_drewN ?_ _ | refine blk_drew ?_ | refine blk_alloc ?_ _)); exact BK535.out) : P := h
theorem z15_12 {P : Prop} (h : P := by repeat (first | (with_reducible first | exact HB.out | apply below_alloc | apply pw_below_drewN | apply below_drew1 | refine below_set ?_ GE2.out | refine below_set ?_ GE3.out | refine below_set ?_ GE526.out | refine below_set ?_ GE527.out | refine below_set ?_ GE528.out) | exact HB.out)) : P := h
theorem z15_13 {P : Prop} (h : P := by (with_reducible repeat (first | refine blk_drewN ?_ _ | refine blk_drew ?_ | refine blk_alloc ?_ _)); exact BK526.out) : P := h
theorem z15_14 {P : Prop} (h : P := by repeat (first | (with_reducible first | exact HB.out | apply below_alloc | apply pw_below_drewN | apply below_drew1 | refine below_set ?_ GE533.out) | exact HB.out)) : P := h
theorem z15_15 {P : Prop} (h : P := by repeat (first | (with_reducible first | exact HB.out | apply below_alloc | apply pw_below_drewN | apply below_drew1 | refine below_set ?_ GE2.out | refine below_set ?_ GE3.out) | exact HB.out)) : P := h
theorem z15_16 {P : Prop} (h : P := by first | rfl | (simp [errW_none, errW_some] <;> rfl) | (simp [*, errW_none, errW_some] <;> rfl)) : P := h
theorem z15_17 {P : Prop} (h : P := by repeat (first | (with_reducible first | exact HB.out | apply below_alloc | apply pw_below_drewN | apply below_drew1 | refine below_set ?_ GE2.out | refine below_set ?_ GE3.out | refine below_set ?_ GE526.out | refine below_set ?_ GE527.out) | exact HB.out)) : P := h
theorem z15_18 {P : Prop} (h : P := by repeat (first | (with_reducible first | exact HB.out | apply below_alloc | apply pw_below_drewN | apply below_drew1 | refine below_set ?_ GE523.out) | exact HB.out)) : P := h
theorem z15_19 {P : Prop} (h : P := by (with_reducible repeat (first | refine blk_drewN ?_ _ | refine blk_drew ?_ | refine blk_alloc ?_ _)); exact BK527.out) : P := h
theorem z15_20 {P : Prop} (h : P := by repeat (first | (with_reducible first | exact HB.out | apply below_alloc | apply pw_below_drewN | apply below_drew1 | refine below_set ?_ GE2.out | refine below_set ?_ GE3.out | refine below_set ?_ GE526.out) | exact HB.out)) : P := h
theorem z15_21 {P : Prop} (h : P := by apply blk_fin; (focus ((with_reducible repeat (first | apply blk_putQ | refine blk_drewN ?_ _ | refine blk_drew ?_ | refine blk_alloc ?_ _)); exact BK523.out)); first | (simp only [List.setIfInBounds_toArray, List.set_cons_zero, List.set_cons_succ]; done) | rfl) : P := h
theorem z15_22 {P : Prop} (h : P := by apply blk_fin; (focus ((with_reducible repeat (first | apply blk_putQ | refine blk_drewN ?_ _ | refine blk_drew ?_ | refine blk_alloc ?_ _)); exact BK536.out)); first | (simp only [List.setIfInBounds_toArray, List.set_cons_zero, List.set_cons_succ]; done) | rfl) : P := h
theorem z15_23 {P : Prop} (h : P := by (with_reducible repeat (first | refine blk_drewN ?_ _ | refine blk_drew ?_ | refine blk_alloc ?_ _)); exact BK536.out) : P := h
theorem z15_24 {P : Prop} (h : P := by repeat (first | (with_reducible first | exact HB.out | apply below_alloc | apply pw_below_drewN | apply below_drew1 | refine below_set ?_ GE545.out) | exact HB.out)) : P := h
theorem z15_25 {P : Prop} (h : P := by (with_reducible repeat (first | refine blk_drewN ?_ _ | refine blk_drew ?_ | refine blk_alloc ?_ _)); exact BK528.out) : P := h
/-! ### impl_MaskAt: function 99 -/
def impl_MaskAt.l0 : Nat → List (List (S52)) → Bool → Int → Int → Int → Int → Int → Int → Int → Int → Int → Int → Option (Int)
 | 0, _, _, _, _, _, _, _, _, _, _, _, _ => none
 | k + 1, x0, x1, x9, x19, x644, x645, x646, x647, x648, x649, x650, x651 => if x19 < 4 then (if 0 ≤ x19 then ((impl_Covers.f k x0 x1 (ix4 x19 x644 x646 x648 x650) (ix4 x19 x645 x647 x649 x651)).bind fun t524 => (if t524 = true then (if 0 ≤ (IntKind.u64.wrap (x19)) then (impl_MaskAt.l0 k x0 x1 (Go.bits .or .i64 x9 (shl .i64 1 (IntKind.u64.wrap (x19)))) (wrap64 (x19 + 1)) x644 x645 x646 x647 x648 x649 x650 x651) else (none)) else (impl_MaskAt.l0 k x0 x1 x9 (wrap64 (x19 + 1)) x644 x645 x646 x647 x648 x649 x650 x651))) else (none)) else (some x9)
def impl_MaskAt.f (k : Nat) (l0 : List (List (S52))) (a1 : Bool) (a2 : Int) (a3 : Int) : Option (Int) := (impl_isSquare.f a2 a3).bind fun t514 => (if t514 = true then ((impl_pointsOf.f a2 a3).bind fun bt515 => (impl_MaskAt.l0 k l0 a1 0 0 bt515.1 bt515.2.1 bt515.2.2.1 bt515.2.2.2.1 bt515.2.2.2.2.1 bt515.2.2.2.2.2.1 bt515.2.2.2.2.2.2.1 bt515.2.2.2.2.2.2.2)) else (some 0))
theorem impl_MaskAt.mono_l : ∀ k, (∀ y0 y1 y2 y3 y4 y5 y6 y7 y8 y9 y10 y11, LeO (impl_MaskAt.l0 k y0 y1 y2 y3 y4 y5 y6 y7 y8 y9 y10 y11) (impl_MaskAt.l0 (k + 1) y0 y1 y2 y3 y4 y5 y6 y7 y8 y9 y10 y11))
 | 0 => fun _ _ _ _ _ _ _ _ _ _ _ _ r h => by simp [impl_MaskAt.l0] at h
 | k + 1 => by
  have ih0 := impl_MaskAt.mono_l k
  ·intro y0 y1 y2 y3 y4 y5 y6 y7 y8 y9 y10 y11
   unfold impl_MaskAt.l0
   repeat' first
   | (with_reducible exact ih0 _ _ _ _ _ _ _ _ _ _ _ _)
   | (with_reducible exact impl_Covers.mono _ _ _ _ _)
   | (with_reducible exact LeO.refl _)
   | (with_reducible exact LeO.none _)
   | (with_reducible refine LeO.ite ?_ ?_)
   | (with_reducible refine LeO.bind ?_ (fun _ => ?_))
   | exact ih0 _ _ _ _ _ _ _ _ _ _ _ _
   | exact impl_Covers.mono _ _ _ _ _
   | exact LeO.none _
   | refine LeO.ite ?_ ?_
   | refine LeO.bind ?_ (fun _ => ?_)
theorem impl_MaskAt.mono : ∀ a0 a1 a2 a3 k, LeO (impl_MaskAt.f k a0 a1 a2 a3) (impl_MaskAt.f (k + 1) a0 a1 a2 a3) := by
 intro a0 a1 a2 a3 k
 have ih0 := impl_MaskAt.mono_l k
 unfold impl_MaskAt.f
 repeat' first
   | (with_reducible exact ih0 _ _ _ _ _ _ _ _ _ _ _ _)
   | (with_reducible exact impl_Covers.mono _ _ _ _ _)
   | (with_reducible exact LeO.refl _)
   | (with_reducible exact LeO.none _)
   | (with_reducible refine LeO.ite ?_ ?_)
   | (with_reducible refine LeO.bind ?_ (fun _ => ?_))
   | exact ih0 _ _ _ _ _ _ _ _ _ _ _ _
   | exact impl_Covers.mono _ _ _ _ _
   | exact LeO.none _
   | refine LeO.ite ?_ ?_
   | refine LeO.bind ?_ (fun _ => ?_)
set_option maxHeartbeats 8000000 in
set_option maxRecDepth 100000 in
theorem impl_MaskAt.calls (k : Nat) (A0 : Option Addr) (c0 : Nat) (l0 : List (List (S52))) (a1 : Bool) (a2 : Int) (a3 : Int) (r : Int) (w : World) (hr0 : Kd.C (Kd.slice 52 k52) w A0 l0.length l0) (hc0 : l0.length ≤ c0) (h : impl_MaskAt.f k l0 a1 a2 a3 = some r) :
  Calls Try.prog 99 #[.slice A0 l0.length c0, .bool a1, .int .i64 a2, .int .i64 a3] w fun e w' => e = .returned (.int .i64 r) ∧ Below w.heap.size w w' := by
 have hu52 := Try.underlying52
 have HR0 := Aside0.mk hr0
 have HC0 := Aside0.mk hc0
 clear hr0 hc0
 have HB := Aside0.mk (Below.refl w.heap.size w)
 have H : ((impl_isSquare.f a2 a3).bind fun t514 => (if t514 = true then ((impl_pointsOf.f a2 a3).bind fun bt515 => (impl_MaskAt.l0 k l0 a1 0 0 bt515.1 bt515.2.1 bt515.2.2.1 bt515.2.2.2.1 bt515.2.2.2.2.1 bt515.2.2.2.2.2.1 bt515.2.2.2.2.2.2.1 bt515.2.2.2.2.2.2.2)) else (some 0))) = some r := h
 clear h
 replace H := Option.bind_eq_some_iff.mp H
 obtain ⟨t514, A50, H⟩ := H
 try dsimp only at H
 have A5 := Aside0.mk A50
 clear A50
 by_cases c6 : t514 = true
 ·subst c6
  have H1 : ((impl_pointsOf.f a2 a3).bind fun bt515 => (impl_MaskAt.l0 k l0 a1 0 0 bt515.1 bt515.2.1 bt515.2.2.1 bt515.2.2.2.1 bt515.2.2.2.2.1 bt515.2.2.2.2.2.1 bt515.2.2.2.2.2.2.1 bt515.2.2.2.2.2.2.2)) = some r := by rw [if_pos rfl] at H; exact H
  clear H; have H := H1; clear H1
  replace H := Option.bind_eq_some_iff.mp H
  obtain ⟨⟨t515, t516, t517, t518, t519, t520, t521, t522⟩, A70, H⟩ := H
  try dsimp only at H
  have A7 := Aside0.mk A70
  clear A70
  have H' := Aside0.mk H
  clear H
  go_enter Try.func99, Try.ntmps99
  go_wp2_with (first | ((with_reducible refine gate_index (t := 158) rfl ?_); refine index_two rfl (t := 158) (e := 52) rfl Try.underlying158 Try.underlying52 rfl (show (Try.prog.info? 52).map (·.size) = some 2 by kernel_rfl) rfl rfl z15_8 z15_8 ?_) | ((with_reducible refine gate_callee (f := 139) rfl ?_); refine goesL_ (some 14) rfl rfl Try.func139 (by kernel_rfl) rfl #[.int .i64 a2, .int .i64 a3] rfl z15_4 ?_; (with_reducible refine (impl_isSquare.calls a2 a3 true _ A5.out).mono ?_); rintro e w' ⟨rfl, ⟨nd, rfl⟩⟩; refine ⟨_, rfl, ?_⟩) | ((with_reducible refine gate_callee (f := 140) rfl ?_); refine goesL_ (some 18) rfl rfl Try.func140 (by kernel_rfl) rfl #[.int .i64 a2, .int .i64 a3] rfl z15_4 ?_; (with_reducible refine (impl_pointsOf.calls a2 a3 t515 t516 t517 t518 t519 t520 t521 t522 _ A7.out).mono ?_); rintro e w8 ⟨rfl, hb⟩; refine ⟨_, rfl, ?_⟩; have n0_ := Aside0.mk (below_step z15_1 hb); clear HB; have HB := n0_; clear n0_; (try clear hb)))
  go_loopg [9, 19] k (fun kq v9 v19 w' => ∃ (x9_1 : Int) (x19_1 : Int), v9 = .int .i64 x9_1 ∧ v19 = .int .i64 x19_1 ∧ Aside0 (impl_MaskAt.l0 kq l0 a1 x9_1 x19_1 t515 t516 t517 t518 t519 t520 t521 t522 = some r) ∧ Aside0 (kq ≤ k) ∧ Aside0 (Below w.heap.size w w'))
  case atStart => exact ⟨(0), (0), (by first | rfl | (simp; done) | (simp [*]; done)), (by first | rfl | (simp; done) | (simp [*]; done)), H', ⟨Nat.le_refl _⟩, ⟨z15_1⟩⟩
  case round =>
   clear H'
   try clear c1
   try clear p2
   try clear c6
   obtain ⟨x9_1, x19_1, rfl, rfl, HA, HK1, HB⟩ := hrel
   cases gk with
   | zero => exact absurd HA.out (by simp [impl_MaskAt.l0])
   | succ k1 =>
    have H := HA.out; clear HA
    simp only [impl_MaskAt.l0] at H
    by_cases c9 : x19_1 < 4
    ·rw [if_pos c9] at H
     have c9b0 : decide (x19_1 < 4) = true := decide_eq_true c9
     clear c9
     by_cases c10 : 0 ≤ x19_1
     ·rw [if_pos c10] at H
      have c10b0 : decide (0 ≤ x19_1) = true := decide_eq_true c10
      clear c10
      replace H := Option.bind_eq_some_iff.mp H
      obtain ⟨t524, A110, H⟩ := H
      try dsimp only at H
      have A11 := Aside0.mk A110
      clear A110
      by_cases c12 : t524 = true
      ·subst c12
       have H1 : (if 0 ≤ (IntKind.u64.wrap (x19_1)) then (impl_MaskAt.l0 k1 l0 a1 (Go.bits .or .i64 x9_1 (shl .i64 1 (IntKind.u64.wrap (x19_1)))) (wrap64 (x19_1 + 1)) t515 t516 t517 t518 t519 t520 t521 t522) else (none)) = some r := by rw [if_pos rfl] at H; exact H
       clear H; have H := H1; clear H1
       obtain ⟨ji13, hji13⟩ : ∃ j_ : Int, (IntKind.u64.wrap (x19_1)) = j_ := ⟨_, rfl⟩
       replace H : (if 0 ≤ (ji13) then (impl_MaskAt.l0 k1 l0 a1 (Go.bits .or .i64 x9_1 (shl .i64 1 (ji13))) (wrap64 (x19_1 + 1)) t515 t516 t517 t518 t519 t520 t521 t522) else (none)) = some r := by first | (rw [hji13] at H; exact H) | (simp only [hji13] at H ⊢; exact H)
       (try rw [hji13] at A11)
       by_cases c14 : 0 ≤ (ji13)
       ·rw [if_pos c14] at H
        have c14b0 := eq_true c14
        have c14b1 : decide (0 ≤ (ji13)) = true := decide_eq_true c14
        clear c14
        obtain ⟨ji15, hji15⟩ : ∃ j_ : Int, (shl .i64 1 (ji13)) = j_ := ⟨_, rfl⟩
        replace H : (impl_MaskAt.l0 k1 l0 a1 (Go.bits .or .i64 x9_1 (ji15)) (wrap64 (x19_1 + 1)) t515 t516 t517 t518 t519 t520 t521 t522) = some r := by first | (rw [hji15] at H; exact H) | (simp only [hji15] at H ⊢; exact H)
        (try rw [hji15] at A11)
        have hji15_ : (IntKind.i64.wrap (1 * 2 ^ min (ji13).toNat 64)) = ji15 := hji15
        have hji15z : (ji13) ≤ 64 → (IntKind.i64.wrap (1 * 2 ^ (ji13).toNat)) = ji15 := shl_small hji15
        have hji15u : (IntKind.i64.wrap (2 ^ min (ji13).toNat 64)) = ji15 := by have h_ := hji15_; rw [Int.one_mul] at h_; exact h_
        have hji15v : (ji13) ≤ 64 → (IntKind.i64.wrap (2 ^ (ji13).toNat)) = ji15 := fun hle_ => by have h_ := hji15z hle_; rw [Int.one_mul] at h_; exact h_
        have hji15y : (wrap64 (1 * 2 ^ min (ji13).toNat 64)) = ji15 := (i64_w _).symm.trans hji15_
        have hji15x : (ji13) ≤ 64 → (wrap64 (1 * 2 ^ (ji13).toNat)) = ji15 := fun h_ => (i64_w _).symm.trans (hji15z h_)
        have H' := Aside0.mk H
        clear H
        go_wp2_with (first | ((with_reducible refine gate_index (t := 158) rfl ?_); refine index_two rfl (t := 158) (e := 52) rfl Try.underlying158 Try.underlying52 rfl (show (Try.prog.info? 52).map (·.size) = some 2 by kernel_rfl) rfl rfl z15_8 z15_8 ?_) | ((with_reducible refine gate_dst (N := 11) rfl ?_); refine boxz (cs := #[.int .i64 0, .int .i64 0]) (t := 52) rfl ?_; intro gb523 hg w16 hbox hb; have n0_ := Aside0.mk (below_step z15_1 hb); have n1_ := Aside0.mk (hbox); have n2_ := Aside0.mk (ge_go (a := w.heap.size) hg (below_size z15_1)); have n3_ := Aside0.mk (ge_go (a := w.heap.size) hg (below_size z15_1)); clear HB; have HB := n0_; have BK523 := n1_; have GW523 := n2_; have GE523 := n3_; clear n0_ n1_ n2_ n3_; clear hb hbox hg; obtain ⟨_, _, _, _⟩ := be_2 BK523.out) | ((with_reducible refine gate_callee (f := 141) rfl ?_); refine goesL_ (some 26) rfl rfl Try.func141 (by kernel_rfl) rfl #[.slice A0 l0.length c0, .bool a1, .agg #[.int .i64 (ix4 x19_1 t515 t517 t519 t521), .int .i64 (ix4 x19_1 t516 t518 t520 t522)]] rfl z15_4 ?_; (with_reducible refine (impl_Covers.calls k1 _ _ l0 a1 (ix4 x19_1 t515 t517 t519 t521) (ix4 x19_1 t516 t518 t520 t522) true _ ?side1 ?side2 A11.out).mono ?_); (case side1 => exact Kd.C_below HR0.out z15_18); (case side2 => exact HC0.out); rintro e w18 ⟨rfl, hb⟩; refine ⟨_, rfl, ?_⟩; have n0_ := Aside0.mk (blk_below (g := gb523) (o := .cells #[.int .i64 (ix4 x19_1 t515 t517 t519 t521), .int .i64 (ix4 x19_1 t516 t518 t520 t522)] 52 (0, 0)) z15_21 hb); have n1_ := Aside0.mk (below_step z15_18 hb); clear BK523; clear HB; have BK523 := n0_; have HB := n1_; clear n0_ n1_; (try clear hb)))
        go_roundg k1
        case measure => have := HK1.out; omega
        case rel => exact ⟨(Go.bits .or .i64 x9_1 (ji15)), (wrap64 (x19_1 + 1)), (by first | rfl | (simp; done) | (simp only [← hji15] <;> (first | rfl | simp)) | (simp [*]; done)), (by first | rfl | (simp; done) | (simp [*]; done)), H', ⟨by have := HK1.out; omega⟩, ⟨by repeat (first | (with_reducible first | exact HB.out | apply below_alloc | apply pw_below_drewN | apply below_drew1 | refine below_set ?_ GE523.out) | exact HB.out)⟩⟩
       ·rw [if_neg c14] at H
        exact absurd H (by simp)
      ·replace c12 := Bool.eq_false_iff.mpr c12
       subst c12
       have H1 : (impl_MaskAt.l0 k1 l0 a1 x9_1 (wrap64 (x19_1 + 1)) t515 t516 t517 t518 t519 t520 t521 t522) = some r := by rw [if_neg (show ¬ (false = true) by decide)] at H; exact H
       clear H; have H := H1; clear H1
       have H' := Aside0.mk H
       clear H
       go_wp2_with (first | ((with_reducible refine gate_index (t := 158) rfl ?_); refine index_two rfl (t := 158) (e := 52) rfl Try.underlying158 Try.underlying52 rfl (show (Try.prog.info? 52).map (·.size) = some 2 by kernel_rfl) rfl rfl z15_8 z15_8 ?_) | ((with_reducible refine gate_dst (N := 11) rfl ?_); refine boxz (cs := #[.int .i64 0, .int .i64 0]) (t := 52) rfl ?_; intro gb523 hg w19 hbox hb; have n0_ := Aside0.mk (below_step z15_1 hb); have n1_ := Aside0.mk (hbox); have n2_ := Aside0.mk (ge_go (a := w.heap.size) hg (below_size z15_1)); have n3_ := Aside0.mk (ge_go (a := w.heap.size) hg (below_size z15_1)); clear HB; have HB := n0_; have BK523 := n1_; have GW523 := n2_; have GE523 := n3_; clear n0_ n1_ n2_ n3_; clear hb hbox hg; obtain ⟨_, _, _, _⟩ := be_2 BK523.out) | ((with_reducible refine gate_callee (f := 141) rfl ?_); refine goesL_ (some 26) rfl rfl Try.func141 (by kernel_rfl) rfl #[.slice A0 l0.length c0, .bool a1, .agg #[.int .i64 (ix4 x19_1 t515 t517 t519 t521), .int .i64 (ix4 x19_1 t516 t518 t520 t522)]] rfl z15_4 ?_; (with_reducible refine (impl_Covers.calls k1 _ _ l0 a1 (ix4 x19_1 t515 t517 t519 t521) (ix4 x19_1 t516 t518 t520 t522) false _ ?side1 ?side2 A11.out).mono ?_); (case side1 => exact Kd.C_below HR0.out z15_18); (case side2 => exact HC0.out); rintro e w21 ⟨rfl, hb⟩; refine ⟨_, rfl, ?_⟩; have n0_ := Aside0.mk (blk_below (g := gb523) (o := .cells #[.int .i64 (ix4 x19_1 t515 t517 t519 t521), .int .i64 (ix4 x19_1 t516 t518 t520 t522)] 52 (0, 0)) z15_21 hb); have n1_ := Aside0.mk (below_step z15_18 hb); clear BK523; clear HB; have BK523 := n0_; have HB := n1_; clear n0_ n1_; (try clear hb)))
       go_roundg k1
       case measure => have := HK1.out; omega
       case rel => exact ⟨(x9_1), (wrap64 (x19_1 + 1)), (by first | rfl | (simp; done) | (simp [*]; done)), (by first | rfl | (simp; done) | (simp [*]; done)), H', ⟨by have := HK1.out; omega⟩, ⟨by repeat (first | (with_reducible first | exact HB.out | apply below_alloc | apply pw_below_drewN | apply below_drew1 | refine below_set ?_ GE523.out) | exact HB.out)⟩⟩
     ·rw [if_neg c10] at H
      exact absurd H (by simp)
    ·rw [if_neg c9] at H
     have c9b0 : decide (x19_1 < 4) = false := decide_eq_false c9
     clear c9
     obtain rfl := Option.some.inj H
     simp only [Option.some.injEq, Prod.mk.injEq] at H
     obtain ⟨rfl⟩ := H
     go_wp2_with (first | ((with_reducible refine gate_index (t := 158) rfl ?_); refine index_two rfl (t := 158) (e := 52) rfl Try.underlying158 Try.underlying52 rfl (show (Try.prog.info? 52).map (·.size) = some 2 by kernel_rfl) rfl rfl z15_8 z15_8 ?_))
     go_ret
     exact ⟨z15_16, z15_1⟩
 ·replace c6 := Bool.eq_false_iff.mpr c6
  subst c6
  have H1 : (some 0) = some r := by rw [if_neg (show ¬ (false = true) by decide)] at H; exact H
  clear H; have H := H1; clear H1
  obtain rfl := Option.some.inj H
  simp only [Option.some.injEq, Prod.mk.injEq] at H
  obtain ⟨rfl⟩ := H
  go_enter Try.func99, Try.ntmps99
  go_wp2_with (first | ((with_reducible refine gate_index (t := 158) rfl ?_); refine index_two rfl (t := 158) (e := 52) rfl Try.underlying158 Try.underlying52 rfl (show (Try.prog.info? 52).map (·.size) = some 2 by kernel_rfl) rfl rfl z15_8 z15_8 ?_) | ((with_reducible refine gate_callee (f := 139) rfl ?_); refine goesL_ (some 14) rfl rfl Try.func139 (by kernel_rfl) rfl #[.int .i64 a2, .int .i64 a3] rfl z15_4 ?_; (with_reducible refine (impl_isSquare.calls a2 a3 false _ A5.out).mono ?_); rintro e w' ⟨rfl, ⟨nd, rfl⟩⟩; refine ⟨_, rfl, ?_⟩))
  go_ret
  exact ⟨z15_16, z15_1⟩

/-! ### impl_MaskOf_1: function 98 -/
def impl_MaskOf_1.f (k : Nat) (a0 : Int) (a1 : Int) (l2 : List (List (S52))) (a3 : Bool) : Option (Int) := (impl_MaskAt.f k l2 a3 a0 a1).bind fun t525 => (some t525)
theorem impl_MaskOf_1.mono : ∀ a0 a1 a2 a3 k, LeO (impl_MaskOf_1.f k a0 a1 a2 a3) (impl_MaskOf_1.f (k + 1) a0 a1 a2 a3) := by
 intro a0 a1 a2 a3 k
 unfold impl_MaskOf_1.f
 repeat' first
   | (with_reducible exact impl_MaskAt.mono _ _ _ _ _)
   | (with_reducible exact LeO.refl _)
   | (with_reducible exact LeO.none _)
   | (with_reducible refine LeO.ite ?_ ?_)
   | (with_reducible refine LeO.bind ?_ (fun _ => ?_))
   | exact impl_MaskAt.mono _ _ _ _ _
   | exact LeO.none _
   | refine LeO.ite ?_ ?_
   | refine LeO.bind ?_ (fun _ => ?_)
set_option maxHeartbeats 8000000 in
set_option maxRecDepth 100000 in
theorem impl_MaskOf_1.calls (k : Nat) (a0 : Int) (a1 : Int) (g2 : Nat) (A2 : Option Addr) (c2 : Nat) (l2 : List (List (S52))) (g3 : Nat) (a3 : Bool) (r : Int) (w : World) (hb2 : w.heap[g2]? = some (.cells #[.slice A2 l2.length c2] 27 (0, 0))) (hr2 : Kd.C (Kd.slice 52 k52) w A2 l2.length l2) (hc2 : l2.length ≤ c2) (hb3 : w.heap[g3]? = some (.cells #[.bool a3] 4 (0, 0))) (h : impl_MaskOf_1.f k a0 a1 l2 a3 = some r) :
  Calls Try.prog 98 #[.int .i64 a0, .int .i64 a1, .pointer (some ⟨g2, 0, none⟩), .pointer (some ⟨g3, 0, none⟩)] w fun e w' => e = .returned (.int .i64 r) ∧ Below w.heap.size w w' := by
 have HR2 := Aside0.mk hr2
 have HC2 := Aside0.mk hc2
 clear hr2 hc2
 have BK2 := Aside0.mk hb2
 clear hb2
 have BK3 := Aside0.mk hb3
 clear hb3
 have HB := Aside0.mk (Below.refl w.heap.size w)
 have H : ((impl_MaskAt.f k l2 a3 a0 a1).bind fun t525 => (some t525)) = some r := h
 clear h
 replace H := Option.bind_eq_some_iff.mp H
 obtain ⟨t525, A50, H⟩ := H
 try dsimp only at H
 have A5 := Aside0.mk A50
 clear A50
 obtain rfl := Option.some.inj H
 simp only [Option.some.injEq, Prod.mk.injEq] at H
 obtain ⟨rfl⟩ := H
 have hcz6_0 : w.cell? ⟨g2, 0, none⟩ = some (.slice A2 l2.length c2) := (blk_cell BK2.out 0).trans rfl
 have hfz6_0 := blk_frozen BK2.out 0
 have hcz7_0 : w.cell? ⟨g3, 0, none⟩ = some (.bool a3) := (blk_cell BK3.out 0).trans rfl
 have hfz7_0 := blk_frozen BK3.out 0
 go_enter Try.func98, Try.ntmps98
 go_wp2_with (first | ((with_reducible refine gate_callee (f := 99) rfl ?_); refine goesL_ (some 11) rfl rfl Try.func99 (by kernel_rfl) rfl #[.slice A2 l2.length c2, .bool a3, .int .i64 a0, .int .i64 a1] rfl z15_4 ?_; (with_reducible refine (impl_MaskAt.calls k _ _ l2 a3 a0 a1 t525 _ ?side1 ?side2 A5.out).mono ?_); (case side1 => repeat (first | exact HR2.out | (with_reducible refine Kd.C_alloc ?_ _) | (with_reducible refine Kd.C_drewN ?_ _) | (with_reducible refine Kd.C_drew ?_))); (case side2 => exact HC2.out); rintro e w8 ⟨rfl, hb⟩; refine ⟨_, rfl, ?_⟩; have n0_ := Aside0.mk (blk_below (g := g2) (o := .cells #[.slice A2 l2.length c2] 27 (0, 0)) z15_6 hb); have n1_ := Aside0.mk (blk_below (g := g3) (o := .cells #[.bool a3] 4 (0, 0)) z15_7 hb); have n2_ := Aside0.mk (below_step z15_15 hb); clear BK2; clear BK3; clear HB; have BK2 := n0_; have BK3 := n1_; have HB := n2_; clear n0_ n1_ n2_; (try clear hb)))
 go_ret
 exact ⟨z15_16, z15_15⟩

/-! ### impl_maskOver_MaskOf_1: function 9900085 -/
mutual
def impl_maskOver_MaskOf_1.l0 : Nat → Int → List (List (S52)) → Bool → Int → Int → Int → Int → Int → Int → Int → Int → List Int → Option (Int × Int × Int × Int × List Int)
 | 0, _, _, _, _, _, _, _, _, _, _, _, _ => none
 | k + 1, x6, x3000, x4000, x527000, x527001, x527002, x527003, x529000, x529001, x529002, x529003, x529004 => if x6 < x527003 then (impl_maskOver_MaskOf_1.l1 k x6 x527000 x3000 x4000 x527000 x527001 x527002 x527003 x529000 x529001 x529002 x529003 x529004) else (some (x529000, x529001, x529002, x529003, x529004))
def impl_maskOver_MaskOf_1.l1 : Nat → Int → Int → List (List (S52)) → Bool → Int → Int → Int → Int → Int → Int → Int → Int → List Int → Option (Int × Int × Int × Int × List Int)
 | 0, _, _, _, _, _, _, _, _, _, _, _, _, _ => none
 | k + 1, x6, x7, x3000, x4000, x527000, x527001, x527002, x527003, x529000, x529001, x529002, x529003, x529004 => if x7 < x527002 then ((impl_MaskOf_1.f k x7 x6 x3000 x4000).bind fun t529 => (if x529004.length < 17592186044416 then (impl_maskOver_MaskOf_1.l1 k x6 (wrap64 (x7 + 1)) x3000 x4000 x527000 x527001 x527002 x527003 x529000 x529001 x529002 x529003 (x529004 ++ [t529])) else (none))) else (impl_maskOver_MaskOf_1.l0 k (wrap64 (x6 + 1)) x3000 x4000 x527000 x527001 x527002 x527003 x529000 x529001 x529002 x529003 x529004)
end
def impl_maskOver_MaskOf_1.f (k : Nat) (a0_0 : Int) (a0_1 : Int) (a0_2 : Int) (a0_3 : Int)  (l2 : List (List (S52))) (a3 : Bool) : Option (Int × Int × Int × Int × List Int) := impl_maskOver_MaskOf_1.l0 k a0_1 l2 a3 a0_0 a0_1 a0_2 a0_3 a0_0 a0_1 a0_2 a0_3 ([] : List Int)
theorem impl_maskOver_MaskOf_1.mono_l : ∀ k, (∀ y0 y1 y2 y3 y4 y5 y6 y7 y8 y9 y10 y11, LeO (impl_maskOver_MaskOf_1.l0 k y0 y1 y2 y3 y4 y5 y6 y7 y8 y9 y10 y11) (impl_maskOver_MaskOf_1.l0 (k + 1) y0 y1 y2 y3 y4 y5 y6 y7 y8 y9 y10 y11)) ∧ (∀ y0 y1 y2 y3 y4 y5 y6 y7 y8 y9 y10 y11 y12, LeO (impl_maskOver_MaskOf_1.l1 k y0 y1 y2 y3 y4 y5 y6 y7 y8 y9 y10 y11 y12) (impl_maskOver_MaskOf_1.l1 (k + 1) y0 y1 y2 y3 y4 y5 y6 y7 y8 y9 y10 y11 y12))
 | 0 => ⟨fun _ _ _ _ _ _ _ _ _ _ _ _ r h => by simp [impl_maskOver_MaskOf_1.l0] at h, fun _ _ _ _ _ _ _ _ _ _ _ _ _ r h => by simp [impl_maskOver_MaskOf_1.l1] at h⟩
 | k + 1 => by
  obtain ⟨ih0, ih1⟩ := impl_maskOver_MaskOf_1.mono_l k
  refine ⟨?_, ?_⟩
  ·intro y0 y1 y2 y3 y4 y5 y6 y7 y8 y9 y10 y11
   unfold impl_maskOver_MaskOf_1.l0
   repeat' first
   | (with_reducible exact ih0 _ _ _ _ _ _ _ _ _ _ _ _)
   | (with_reducible exact ih1 _ _ _ _ _ _ _ _ _ _ _ _ _)
   | (with_reducible exact impl_MaskOf_1.mono _ _ _ _ _)
   | (with_reducible exact LeO.refl _)
   | (with_reducible exact LeO.none _)
   | (with_reducible refine LeO.ite ?_ ?_)
   | (with_reducible refine LeO.bind ?_ (fun _ => ?_))
   | exact ih0 _ _ _ _ _ _ _ _ _ _ _ _
   | exact ih1 _ _ _ _ _ _ _ _ _ _ _ _ _
   | exact impl_MaskOf_1.mono _ _ _ _ _
   | exact LeO.none _
   | refine LeO.ite ?_ ?_
   | refine LeO.bind ?_ (fun _ => ?_)
  ·intro y0 y1 y2 y3 y4 y5 y6 y7 y8 y9 y10 y11 y12
   unfold impl_maskOver_MaskOf_1.l1
   repeat' first
   | (with_reducible exact ih0 _ _ _ _ _ _ _ _ _ _ _ _)
   | (with_reducible exact ih1 _ _ _ _ _ _ _ _ _ _ _ _ _)
   | (with_reducible exact impl_MaskOf_1.mono _ _ _ _ _)
   | (with_reducible exact LeO.refl _)
   | (with_reducible exact LeO.none _)
   | (with_reducible refine LeO.ite ?_ ?_)
   | (with_reducible refine LeO.bind ?_ (fun _ => ?_))
   | exact ih0 _ _ _ _ _ _ _ _ _ _ _ _
   | exact ih1 _ _ _ _ _ _ _ _ _ _ _ _ _
   | exact impl_MaskOf_1.mono _ _ _ _ _
   | exact LeO.none _
   | refine LeO.ite ?_ ?_
   | refine LeO.bind ?_ (fun _ => ?_)
theorem impl_maskOver_MaskOf_1.mono : ∀ a0 a1 a2 a3 a4 a5 k, LeO (impl_maskOver_MaskOf_1.f k a0 a1 a2 a3 a4 a5) (impl_maskOver_MaskOf_1.f (k + 1) a0 a1 a2 a3 a4 a5) := by
 intro a0 a1 a2 a3 a4 a5 k
 obtain ⟨ih0, ih1⟩ := impl_maskOver_MaskOf_1.mono_l k
 unfold impl_maskOver_MaskOf_1.f
 repeat' first
   | (with_reducible exact ih0 _ _ _ _ _ _ _ _ _ _ _ _)
   | (with_reducible exact ih1 _ _ _ _ _ _ _ _ _ _ _ _ _)
   | (with_reducible exact impl_MaskOf_1.mono _ _ _ _ _)
   | (with_reducible exact LeO.refl _)
   | (with_reducible exact LeO.none _)
   | (with_reducible refine LeO.ite ?_ ?_)
   | (with_reducible refine LeO.bind ?_ (fun _ => ?_))
   | exact ih0 _ _ _ _ _ _ _ _ _ _ _ _
   | exact ih1 _ _ _ _ _ _ _ _ _ _ _ _ _
   | exact impl_MaskOf_1.mono _ _ _ _ _
   | exact LeO.none _
   | refine LeO.ite ?_ ?_
   | refine LeO.bind ?_ (fun _ => ?_)
def impl_maskOver_MaskOf_1.T8 : Bool × List (List Nat × List Nat) := (true, [([], []), ([0], [0]), ([], []), ([], []), ([], []), ([2, 3, 4], [2, 3, 4]), ([5], [5]), ([1, 6, 5], [1, 6]), ([0, 1, 2, 3, 4, 5, 6, 7], []), ([8, 7, 7, 0, 1, 2, 3, 4, 5, 6, 7], [7, 8])])
def impl_maskOver_MaskOf_1.B8 : List Nat := [0, 1, 0, 0, 0, 28, 60, 127, 255, 511]
theorem impl_maskOver_MaskOf_1.tab8 : rtab .any (opsOf Try.f85 8) = impl_maskOver_MaskOf_1.T8 := by kernel_rfl
theorem impl_maskOver_MaskOf_1.bits8 : waitsOk impl_maskOver_MaskOf_1.T8.2 impl_maskOver_MaskOf_1.B8 = true := by kernel_rfl
set_option maxHeartbeats 8000000 in
set_option maxRecDepth 100000 in
theorem impl_maskOver_MaskOf_1.calls (k : Nat) (a0_0 : Int) (a0_1 : Int) (a0_2 : Int) (a0_3 : Int)  (g2 : Nat) (A2 : Option Addr) (c2 : Nat) (l2 : List (List (S52))) (g3 : Nat) (a3 : Bool) (r1 : Int) (r2 : Int) (r3 : Int) (r4 : Int) (r5 : List Int) (w : World) (hb2 : w.heap[g2]? = some (.cells #[.slice A2 l2.length c2] 27 (0, 0))) (hr2 : Kd.C (Kd.slice 52 k52) w A2 l2.length l2) (hc2 : l2.length ≤ c2) (hb3 : w.heap[g3]? = some (.cells #[.bool a3] 4 (0, 0))) (h : impl_maskOver_MaskOf_1.f k a0_0 a0_1 a0_2 a0_3 l2 a3 = some (r1, r2, r3, r4, r5)) :
  Calls Try.prog 85 #[.agg #[.int .i64 a0_0, .int .i64 a0_1, .int .i64 a0_2, .int .i64 a0_3], .func (.func 98) #[] #[.pointer (some ⟨g2, 0, none⟩), .pointer (some ⟨g3, 0, none⟩)]] w fun e w' => ∃ v4_ : Value, e = .returned (.agg #[.int .i64 r1, .int .i64 r2, .int .i64 r3, .int .i64 r4, v4_]) ∧ Kd.R (Kd.int .i64) 3 w' w.heap.size (fun _ => True) v4_ r5 ∧ Below w.heap.size w w' := by
 have hu63 := Try.underlying63
 have hu65 := Try.underlying65
 have HR2 := Aside0.mk hr2
 have HC2 := Aside0.mk hc2
 clear hr2 hc2
 have BK2 := Aside0.mk hb2
 clear hb2
 have BK3 := Aside0.mk hb3
 clear hb3
 have HB := Aside0.mk (Below.refl w.heap.size w)
 have H : (impl_maskOver_MaskOf_1.l0 k a0_1 l2 a3 a0_0 a0_1 a0_2 a0_3 a0_0 a0_1 a0_2 a0_3 ([] : List Int)) = some (r1, r2, r3, r4, r5) := h
 clear h
 have H' := Aside0.mk H
 clear H
 go_enter Try.func85, Try.ntmps85
 go_wp2_with (first | ((with_reducible refine gate_dst (N := 2) rfl ?_); refine boxz (cs := #[.int .i64 a0_0, .int .i64 a0_1, .int .i64 a0_2, .int .i64 a0_3]) (t := 63) rfl ?_; intro gb526 hg w5 hbox hb; have n0_ := Aside0.mk (blk_below (g := g2) (o := .cells #[.slice A2 l2.length c2] 27 (0, 0)) z15_6 hb); have n1_ := Aside0.mk (blk_below (g := g3) (o := .cells #[.bool a3] 4 (0, 0)) z15_7 hb); have n2_ := Aside0.mk (below_step z15_15 hb); have n3_ := Aside0.mk (hbox); have n4_ := Aside0.mk (ge_go (a := w.heap.size) hg (below_size z15_15)); have n5_ := Aside0.mk (ge_go (a := w.heap.size) hg (below_size z15_15)); have n6_ := Aside0.mk ((by rw [hg]; exact Nat.ne_of_lt (blk_lt (g := g2) (o := .cells #[.slice A2 l2.length c2] 27 (0, 0)) z15_6) : g2 ≠ gb526)); have n7_ := Aside0.mk ((by rw [hg]; exact Nat.ne_of_gt (blk_lt (g := g2) (o := .cells #[.slice A2 l2.length c2] 27 (0, 0)) z15_6) : gb526 ≠ g2)); have n8_ := Aside0.mk ((by rw [hg]; exact Nat.ne_of_lt (blk_lt (g := g3) (o := .cells #[.bool a3] 4 (0, 0)) z15_7) : g3 ≠ gb526)); have n9_ := Aside0.mk ((by rw [hg]; exact Nat.ne_of_gt (blk_lt (g := g3) (o := .cells #[.bool a3] 4 (0, 0)) z15_7) : gb526 ≠ g3)); clear BK2; clear BK3; clear HB; have BK2 := n0_; have BK3 := n1_; have HB := n2_; have BK526 := n3_; have GW526 := n4_; have GE526 := n5_; have NB2_526 := n6_; have NB526_2 := n7_; have NB3_526 := n8_; have NB526_3 := n9_; clear n0_ n1_ n2_ n3_ n4_ n5_ n6_ n7_ n8_ n9_; clear hb hbox hg) | ((with_reducible refine gate_dst (N := 4) rfl ?_); refine boxz (cs := #[.int .i64 0, .int .i64 0, .int .i64 0, .int .i64 0, .slice none 0 0]) (t := 65) rfl ?_; intro gb527 hg w6 hbox hb; have n0_ := Aside0.mk (blk_below (g := g2) (o := .cells #[.slice A2 l2.length c2] 27 (0, 0)) z15_6 hb); have n1_ := Aside0.mk (blk_below (g := g3) (o := .cells #[.bool a3] 4 (0, 0)) z15_7 hb); have n2_ := Aside0.mk (blk_belowB BK526 z15_13 hb); have n3_ := Aside0.mk (below_step z15_20 hb); have n4_ := Aside0.mk (hbox); have n5_ := Aside0.mk (ge_go (a := w.heap.size) hg (below_size z15_20)); have n6_ := Aside0.mk (ge_go (a := w.heap.size) hg (below_size z15_20)); have n7_ := Aside0.mk ((by rw [hg]; exact Nat.ne_of_lt (blk_lt (g := g2) (o := .cells #[.slice A2 l2.length c2] 27 (0, 0)) z15_6) : g2 ≠ gb527)); have n8_ := Aside0.mk ((by rw [hg]; exact Nat.ne_of_gt (blk_lt (g := g2) (o := .cells #[.slice A2 l2.length c2] 27 (0, 0)) z15_6) : gb527 ≠ g2)); have n9_ := Aside0.mk ((by rw [hg]; exact Nat.ne_of_lt (blk_lt (g := g3) (o := .cells #[.bool a3] 4 (0, 0)) z15_7) : g3 ≠ gb527)); have n10_ := Aside0.mk ((by rw [hg]; exact Nat.ne_of_gt (blk_lt (g := g3) (o := .cells #[.bool a3] 4 (0, 0)) z15_7) : gb527 ≠ g3)); have n11_ := Aside0.mk (nb_lt hg (blk_ltB BK526 z15_13)); have n12_ := Aside0.mk (nb_gt hg (blk_ltB BK526 z15_13)); clear BK2; clear BK3; clear BK526; clear HB; have BK2 := n0_; have BK3 := n1_; have BK526 := n2_; have HB := n3_; have BK527 := n4_; have GW527 := n5_; have GE527 := n6_; have NB2_527 := n7_; have NB527_2 := n8_; have NB3_527 := n9_; have NB527_3 := n10_; have NB526_527 := n11_; have NB527_526 := n12_; clear n0_ n1_ n2_ n3_ n4_ n5_ n6_ n7_ n8_ n9_ n10_ n11_ n12_; clear hb hbox hg; have hnb7 := NB526_2.out; have hnc7 := NB2_526.out; have hnb8 := NB526_3.out; have hnc8 := NB3_526.out; have hnb9 := NB526_527.out; have hnc9 := NB527_526.out; obtain ⟨_, _, _, _, _, _, _, _⟩ := be_4 BK526.out) | ((with_reducible refine gate_dst (N := 5) rfl ?_); refine boxz (cs := #[.int .i64 0, .int .i64 0, .int .i64 0, .int .i64 0, .slice none 0 0]) (t := 65) rfl ?_; intro gb528 hg w11 hbox hb; have n0_ := Aside0.mk (blk_below (g := g2) (o := .cells #[.slice A2 l2.length c2] 27 (0, 0)) z15_6 hb); have n1_ := Aside0.mk (blk_below (g := g3) (o := .cells #[.bool a3] 4 (0, 0)) z15_7 hb); have n2_ := Aside0.mk (blk_belowB BK526 z15_13 hb); have n3_ := Aside0.mk (blk_belowB BK527 z15_19 hb); have n4_ := Aside0.mk (below_step z15_17 hb); have n5_ := Aside0.mk (hbox); have n6_ := Aside0.mk (ge_go (a := w.heap.size) hg (below_size z15_17)); have n7_ := Aside0.mk (ge_go (a := w.heap.size) hg (below_size z15_17)); have n8_ := Aside0.mk ((by rw [hg]; exact Nat.ne_of_lt (blk_lt (g := g2) (o := .cells #[.slice A2 l2.length c2] 27 (0, 0)) z15_6) : g2 ≠ gb528)); have n9_ := Aside0.mk ((by rw [hg]; exact Nat.ne_of_gt (blk_lt (g := g2) (o := .cells #[.slice A2 l2.length c2] 27 (0, 0)) z15_6) : gb528 ≠ g2)); have n10_ := Aside0.mk ((by rw [hg]; exact Nat.ne_of_lt (blk_lt (g := g3) (o := .cells #[.bool a3] 4 (0, 0)) z15_7) : g3 ≠ gb528)); have n11_ := Aside0.mk ((by rw [hg]; exact Nat.ne_of_gt (blk_lt (g := g3) (o := .cells #[.bool a3] 4 (0, 0)) z15_7) : gb528 ≠ g3)); have n12_ := Aside0.mk (nb_lt hg (blk_ltB BK526 z15_13)); have n13_ := Aside0.mk (nb_gt hg (blk_ltB BK526 z15_13)); have n14_ := Aside0.mk (nb_lt hg (blk_ltB BK527 z15_19)); have n15_ := Aside0.mk (nb_gt hg (blk_ltB BK527 z15_19)); clear BK2; clear BK3; clear BK526; clear BK527; clear HB; have BK2 := n0_; have BK3 := n1_; have BK526 := n2_; have BK527 := n3_; have HB := n4_; have BK528 := n5_; have GW528 := n6_; have GE528 := n7_; have NB2_528 := n8_; have NB528_2 := n9_; have NB3_528 := n10_; have NB528_3 := n11_; have NB526_528 := n12_; have NB528_526 := n13_; have NB527_528 := n14_; have NB528_527 := n15_; clear n0_ n1_ n2_ n3_ n4_ n5_ n6_ n7_ n8_ n9_ n10_ n11_ n12_ n13_ n14_ n15_; clear hb hbox hg; have hnb12 := NB528_2.out; have hnc12 := NB2_528.out; have hnb13 := NB528_3.out; have hnc13 := NB3_528.out; have hnb14 := NB528_526.out; have hnc14 := NB526_528.out; have hnb15 := NB528_527.out; have hnc15 := NB527_528.out; obtain ⟨_, _, _, _, _, _, _, _, _, _⟩ := be_5 BK528.out; obtain ⟨_, _, _, _, _, _, _, _⟩ := be_4 BK526.out))
 go_loopg [6] k (fun kq v6 w' => ∃ (x6_1 : Int) (x529004_1 : List Int) (u529004 : Value), v6 = .int .i64 x6_1 ∧ Aside0 (impl_maskOver_MaskOf_1.l0 kq x6_1 l2 a3 a0_0 a0_1 a0_2 a0_3 a0_0 a0_1 a0_2 a0_3 x529004_1 = some (r1, r2, r3, r4, r5)) ∧ Aside0 (kq ≤ k) ∧ Aside0 (Kd.R (Kd.int .i64) 3 w' w.heap.size (fun _ => True) u529004 x529004_1) ∧ Aside0 (w'.heap[g2]? = some (.cells #[(.slice A2 l2.length c2)] 27 (0, 0))) ∧ Aside0 (w'.heap[g3]? = some (.cells #[.bool a3] 4 (0, 0))) ∧ Aside0 (w'.heap[gb526]? = some (.cells #[.int .i64 a0_0, .int .i64 a0_1, .int .i64 a0_2, .int .i64 a0_3] 63 (0, 0))) ∧ Aside0 (w'.heap[gb527]? = some (.cells #[.int .i64 0, .int .i64 0, .int .i64 0, .int .i64 0, (.slice none 0 0)] 65 (0, 0))) ∧ Aside0 (w'.heap[gb528]? = some (.cells #[.int .i64 a0_0, .int .i64 a0_1, .int .i64 a0_2, .int .i64 a0_3, u529004] 65 (0, 0))) ∧ Aside0 (Below w.heap.size w w'))
 case atStart => exact ⟨(a0_1), (([] : List Int)), (.slice none 0 0), (by first | rfl | (simp; done) | (simp [*]; done)), H', ⟨Nat.le_refl _⟩, ⟨by first | exact Kd.R_nil _ _ _ _ _ | exact Kd.N_nil _ _ _ _ _ | exact Kd.V_nil _ _ _ _ _ | exact Kd.Q_nil _ _ _ _ _ | exact Kd.S_nil _ _ _ _ _⟩, ⟨by (with_reducible repeat (first | refine blk_drewN ?_ _ | refine blk_drew ?_ | refine blk_alloc ?_ _)); refine blk_far ?_ NB2_528.out _; (with_reducible repeat (first | refine blk_drewN ?_ _ | refine blk_drew ?_ | refine blk_alloc ?_ _)); refine blk_far ?_ NB2_528.out _; (with_reducible repeat (first | refine blk_drewN ?_ _ | refine blk_drew ?_ | refine blk_alloc ?_ _)); refine blk_far ?_ NB2_528.out _; (with_reducible repeat (first | refine blk_drewN ?_ _ | refine blk_drew ?_ | refine blk_alloc ?_ _)); refine blk_far ?_ NB2_528.out _; (with_reducible repeat (first | refine blk_drewN ?_ _ | refine blk_drew ?_ | refine blk_alloc ?_ _)); refine blk_far ?_ NB2_528.out _; (with_reducible repeat (first | refine blk_drewN ?_ _ | refine blk_drew ?_ | refine blk_alloc ?_ _)); exact BK2.out⟩, ⟨by (with_reducible repeat (first | refine blk_drewN ?_ _ | refine blk_drew ?_ | refine blk_alloc ?_ _)); refine blk_far ?_ NB3_528.out _; (with_reducible repeat (first | refine blk_drewN ?_ _ | refine blk_drew ?_ | refine blk_alloc ?_ _)); refine blk_far ?_ NB3_528.out _; (with_reducible repeat (first | refine blk_drewN ?_ _ | refine blk_drew ?_ | refine blk_alloc ?_ _)); refine blk_far ?_ NB3_528.out _; (with_reducible repeat (first | refine blk_drewN ?_ _ | refine blk_drew ?_ | refine blk_alloc ?_ _)); refine blk_far ?_ NB3_528.out _; (with_reducible repeat (first | refine blk_drewN ?_ _ | refine blk_drew ?_ | refine blk_alloc ?_ _)); refine blk_far ?_ NB3_528.out _; (with_reducible repeat (first | refine blk_drewN ?_ _ | refine blk_drew ?_ | refine blk_alloc ?_ _)); exact BK3.out⟩, ⟨by (with_reducible repeat (first | refine blk_drewN ?_ _ | refine blk_drew ?_ | refine blk_alloc ?_ _)); refine blk_far ?_ NB526_528.out _; (with_reducible repeat (first | refine blk_drewN ?_ _ | refine blk_drew ?_ | refine blk_alloc ?_ _)); refine blk_far ?_ NB526_528.out _; (with_reducible repeat (first | refine blk_drewN ?_ _ | refine blk_drew ?_ | refine blk_alloc ?_ _)); refine blk_far ?_ NB526_528.out _; (with_reducible repeat (first | refine blk_drewN ?_ _ | refine blk_drew ?_ | refine blk_alloc ?_ _)); refine blk_far ?_ NB526_528.out _; (with_reducible repeat (first | refine blk_drewN ?_ _ | refine blk_drew ?_ | refine blk_alloc ?_ _)); refine blk_far ?_ NB526_528.out _; (with_reducible repeat (first | refine blk_drewN ?_ _ | refine blk_drew ?_ | refine blk_alloc ?_ _)); exact BK526.out⟩, ⟨by (with_reducible repeat (first | refine blk_drewN ?_ _ | refine blk_drew ?_ | refine blk_alloc ?_ _)); refine blk_far ?_ NB527_528.out _; (with_reducible repeat (first | refine blk_drewN ?_ _ | refine blk_drew ?_ | refine blk_alloc ?_ _)); refine blk_far ?_ NB527_528.out _; (with_reducible repeat (first | refine blk_drewN ?_ _ | refine blk_drew ?_ | refine blk_alloc ?_ _)); refine blk_far ?_ NB527_528.out _; (with_reducible repeat (first | refine blk_drewN ?_ _ | refine blk_drew ?_ | refine blk_alloc ?_ _)); refine blk_far ?_ NB527_528.out _; (with_reducible repeat (first | refine blk_drewN ?_ _ | refine blk_drew ?_ | refine blk_alloc ?_ _)); refine blk_far ?_ NB527_528.out _; (with_reducible repeat (first | refine blk_drewN ?_ _ | refine blk_drew ?_ | refine blk_alloc ?_ _)); exact BK527.out⟩, ⟨by (with_reducible repeat (first | refine blk_drewN ?_ _ | refine blk_drew ?_ | refine blk_alloc ?_ _)); refine blk_put (cs := #[.int .i64 a0_0, .int .i64 a0_1, .int .i64 a0_2, .int .i64 a0_3, .slice none 0 0]) ?_ 4 _ rfl; (with_reducible repeat (first | refine blk_drewN ?_ _ | refine blk_drew ?_ | refine blk_alloc ?_ _)); refine blk_put (cs := #[.int .i64 a0_0, .int .i64 a0_1, .int .i64 a0_2, .int .i64 0, .slice none 0 0]) ?_ 3 _ rfl; (with_reducible repeat (first | refine blk_drewN ?_ _ | refine blk_drew ?_ | refine blk_alloc ?_ _)); refine blk_put (cs := #[.int .i64 a0_0, .int .i64 a0_1, .int .i64 0, .int .i64 0, .slice none 0 0]) ?_ 2 _ rfl; (with_reducible repeat (first | refine blk_drewN ?_ _ | refine blk_drew ?_ | refine blk_alloc ?_ _)); refine blk_put (cs := #[.int .i64 a0_0, .int .i64 0, .int .i64 0, .int .i64 0, .slice none 0 0]) ?_ 1 _ rfl; (with_reducible repeat (first | refine blk_drewN ?_ _ | refine blk_drew ?_ | refine blk_alloc ?_ _)); refine blk_put (cs := #[.int .i64 0, .int .i64 0, .int .i64 0, .int .i64 0, .slice none 0 0]) ?_ 0 _ rfl; (with_reducible repeat (first | refine blk_drewN ?_ _ | refine blk_drew ?_ | refine blk_alloc ?_ _)); exact BK528.out⟩, ⟨by repeat (first | (with_reducible first | exact HB.out | apply below_alloc | apply pw_below_drewN | apply below_drew1 | refine below_set ?_ GE2.out | refine below_set ?_ GE3.out | refine below_set ?_ GE526.out | refine below_set ?_ GE527.out | refine below_set ?_ GE528.out) | exact HB.out)⟩⟩
 case round =>
  clear H'
  try clear c1
  try clear c2
  try clear p2
  try clear c7
  try clear c8
  try clear c9
  try clear c12
  try clear c13
  try clear c14
  try clear c15
  obtain ⟨x6_1, x529004_1, u529004, rfl, HA, HK1, HO_529004, BK2, BK3, BK526, BK527, BK528, HB⟩ := hrel
  cases gk with
  | zero => exact absurd HA.out (by simp [impl_maskOver_MaskOf_1.l0])
  | succ k1 =>
   have H := HA.out; clear HA
   simp only [impl_maskOver_MaskOf_1.l0] at H
   by_cases c18 : x6_1 < a0_3
   ·rw [if_pos c18] at H
    have c18b0 : decide (x6_1 < a0_3) = true := decide_eq_true c18
    clear c18
    have H' := Aside0.mk H
    clear H; have hnb19 := NB526_2.out; have hnc19 := NB2_526.out; have hnb20 := NB526_3.out; have hnc20 := NB3_526.out; have hnb21 := NB526_527.out; have hnc21 := NB527_526.out; have hnb22 := NB526_528.out; have hnc22 := NB528_526.out
    obtain ⟨_, _, _, _, _, _, _, _⟩ := be_4 BK526.out
    go_wp2
    go_loopg [7] k1 (fun kq v7 w' => ∃ (x7_2 : Int) (x529004_2 : List Int) (u529004 : Value), v7 = .int .i64 x7_2 ∧ Aside0 (impl_maskOver_MaskOf_1.l1 kq x6_1 x7_2 l2 a3 a0_0 a0_1 a0_2 a0_3 a0_0 a0_1 a0_2 a0_3 x529004_2 = some (r1, r2, r3, r4, r5)) ∧ Aside0 (kq ≤ k1) ∧ Aside0 (Kd.R (Kd.int .i64) 3 w' w.heap.size (fun _ => True) u529004 x529004_2) ∧ Aside0 (w'.heap[g2]? = some (.cells #[(.slice A2 l2.length c2)] 27 (0, 0))) ∧ Aside0 (w'.heap[g3]? = some (.cells #[.bool a3] 4 (0, 0))) ∧ Aside0 (w'.heap[gb526]? = some (.cells #[.int .i64 a0_0, .int .i64 a0_1, .int .i64 a0_2, .int .i64 a0_3] 63 (0, 0))) ∧ Aside0 (w'.heap[gb527]? = some (.cells #[.int .i64 0, .int .i64 0, .int .i64 0, .int .i64 0, (.slice none 0 0)] 65 (0, 0))) ∧ Aside0 (w'.heap[gb528]? = some (.cells #[.int .i64 a0_0, .int .i64 a0_1, .int .i64 a0_2, .int .i64 a0_3, u529004] 65 (0, 0))) ∧ Aside0 (Below w.heap.size w w'))
    case atStart => exact ⟨(a0_0), (x529004_1), (u529004), (by first | rfl | (simp; done) | (simp [*]; done)), H', ⟨Nat.le_refl _⟩, ⟨by (with_reducible repeat (first | apply Kd.R_alloc | apply Kd.R_drewN | apply Kd.R_drew)); exact HO_529004.out⟩, ⟨by (with_reducible repeat (first | refine blk_drewN ?_ _ | refine blk_drew ?_ | refine blk_alloc ?_ _)); exact BK2.out⟩, ⟨by (with_reducible repeat (first | refine blk_drewN ?_ _ | refine blk_drew ?_ | refine blk_alloc ?_ _)); exact BK3.out⟩, ⟨by (with_reducible repeat (first | refine blk_drewN ?_ _ | refine blk_drew ?_ | refine blk_alloc ?_ _)); exact BK526.out⟩, ⟨by (with_reducible repeat (first | refine blk_drewN ?_ _ | refine blk_drew ?_ | refine blk_alloc ?_ _)); exact BK527.out⟩, ⟨by (with_reducible repeat (first | refine blk_drewN ?_ _ | refine blk_drew ?_ | refine blk_alloc ?_ _)); exact BK528.out⟩, ⟨by repeat (first | (with_reducible first | exact HB.out | apply below_alloc | apply pw_below_drewN | apply below_drew1 | refine below_set ?_ GE2.out | refine below_set ?_ GE3.out | refine below_set ?_ GE526.out | refine below_set ?_ GE527.out | refine below_set ?_ GE528.out) | exact HB.out)⟩⟩
    case round =>
     clear H'
     try clear c1
     try clear c2
     try clear p2
     try clear c7
     try clear c8
     try clear c9
     try clear c12
     try clear c13
     try clear c14
     try clear c15
     try clear c18
     try clear c18b0
     try clear c19
     try clear c20
     try clear c21
     try clear c22
     try clear p2
     obtain ⟨x7_2, x529004_2, u529004, rfl, HA, HK2, HO_529004, BK2, BK3, BK526, BK527, BK528, HB⟩ := hrel
     cases gk with
     | zero => exact absurd HA.out (by simp [impl_maskOver_MaskOf_1.l1])
     | succ k2 =>
      have H := HA.out; clear HA
      simp only [impl_maskOver_MaskOf_1.l1] at H
      by_cases c24 : x7_2 < a0_2
      ·rw [if_pos c24] at H
       have c24b0 : decide (x7_2 < a0_2) = true := decide_eq_true c24
       clear c24
       replace H := Option.bind_eq_some_iff.mp H
       obtain ⟨t529, A250, H⟩ := H
       try dsimp only at H
       have A25 := Aside0.mk A250
       clear A250
       by_cases c26 : x529004_2.length < 17592186044416
       ·rw [if_pos c26] at H
        have LMc26 := Aside0.mk c26
        clear c26
        obtain ⟨y530, hy530⟩ : ∃ y_ : List Int, y_ = (x529004_2 ++ [t529]) := ⟨_, rfl⟩
        replace H : (impl_maskOver_MaskOf_1.l1 k2 x6_1 (wrap64 (x7_2 + 1)) l2 a3 a0_0 a0_1 a0_2 a0_3 a0_0 a0_1 a0_2 a0_3 y530) = some (r1, r2, r3, r4, r5) := by first | (rw [hy530]; with_reducible exact H) | (have H2_ := (Option.bind_some _ _).symm.trans H; rw [hy530]; with_reducible exact H2_) | (have H2_ := (Option.bind_some _ _).symm.trans H; with_reducible exact H2_) | with_reducible exact H | (rw [hy530]; exact H) | exact H
        have Ny530 := Aside0.mk hy530
        clear hy530
        have H' := Aside0.mk H
        clear H; have hnb27 := NB526_2.out; have hnc27 := NB2_526.out; have hnb28 := NB526_3.out; have hnc28 := NB3_526.out; have hnb29 := NB526_527.out; have hnc29 := NB527_526.out; have hnb30 := NB526_528.out; have hnc30 := NB528_526.out
        obtain ⟨_, _, _, _, _, _, _, _⟩ := be_4 BK526.out
        try go_wp2
        have n0_ := Aside0.mk (Kd.R_drew HO_529004.out)
        have n1_ := Aside0.mk (blk_drew BK2.out)
        have n2_ := Aside0.mk (blk_drew BK3.out)
        have n3_ := Aside0.mk (blk_drew BK526.out)
        have n4_ := Aside0.mk (blk_drew BK527.out)
        have n5_ := Aside0.mk (blk_drew BK528.out)
        have n6_ := Aside0.mk (below_drew1 HB.out)
        clear HO_529004; clear BK2; clear BK3; clear BK526; clear BK527; clear BK528; clear HB; have HO_529004 := n0_; have BK2 := n1_; have BK3 := n2_; have BK526 := n3_; have BK527 := n4_; have BK528 := n5_; have HB := n6_; clear n0_ n1_ n2_ n3_ n4_ n5_ n6_
        refine start_ (n := 10) (S := fun w' => w'.cell? ⟨gb528, 0, none⟩ = some (.int .i64 a0_0) ∧ w'.cell? ⟨gb528, 1, none⟩ = some (.int .i64 a0_1) ∧ w'.cell? ⟨gb528, 2, none⟩ = some (.int .i64 a0_2) ∧ w'.cell? ⟨gb528, 3, none⟩ = some (.int .i64 a0_3) ∧ w'.cell? ⟨gb528, 4, none⟩ = some (u529004)) (ds := [9]) #[false, false, false, false, false, false, false, false, false, false] (by kernel_rfl) rfl rfl ⟨(blk_cell BK528.out 0).trans rfl, (blk_cell BK528.out 1).trans rfl, (blk_cell BK528.out 2).trans rfl, (blk_cell BK528.out 3).trans rfl, (blk_cell BK528.out 4).trans rfl⟩ (fun hHeld => ?_); refine with_tabW impl_maskOver_MaskOf_1.tab8 impl_maskOver_MaskOf_1.bits8 (fun HT_ HW_ => ?_)
        generalize wr.drew = w32 at HO_529004 BK2 BK3 BK526 BK527 BK528 HB hHeld ⊢
        refine pure_ (i := 0) (N := some 26) (v := ?_) (a' := ?_) #[true, false, false, false, false, false, false, false, false, false] rfl rfl (any_of HT_.out (by kernel_rfl)) (fun _ _ _ h => h) (Or.inl ⟨by rfl, ?_⟩) ?_ ?_; rotate_left
        ·intro w'
         go_simp; with_reducible rfl
        rotate_left
        ·exact x15_put
        refine pure_ (i := 2) (N := some 28) (v := ?_) (a' := ?_) #[true, false, true, false, false, false, false, false, false, false] rfl rfl (any_of HT_.out (by kernel_rfl)) (fun _ _ _ h => h) (Or.inl ⟨by rfl, ?_⟩) ?_ ?_; rotate_left
        ·intro w'
         go_simp; with_reducible rfl
        rotate_left
        ·exact x15_put
        refine pure_ (i := 3) (N := some 29) (v := ?_) (a' := ?_) #[true, false, true, true, false, false, false, false, false, false] rfl rfl (any_of HT_.out (by kernel_rfl)) (fun _ _ _ h => h) (Or.inl ⟨by rfl, ?_⟩) ?_ ?_; rotate_left
        ·intro w'
         go_simp; with_reducible rfl
        rotate_left
        ·exact x15_put
        refine pure_ (i := 4) (N := some 30) (v := ?_) (a' := ?_) #[true, false, true, true, true, false, false, false, false, false] rfl rfl (any_of HT_.out (by kernel_rfl)) (fun _ _ _ h => h) (Or.inl ⟨by rfl, ?_⟩) ?_ ?_; rotate_left
        ·intro w'
         go_simp; with_reducible rfl
        rotate_left
        ·exact x15_put
        refine take_ (i := 1) (N := some 27) (v := ?_) (a' := ?_) #[true, true, true, true, true, false, false, false, false, false] rfl rfl (take_ofW HT_.out HW_.out (by kernel_rfl)) (fun _ _ _ h => h) (Or.inl ⟨by rfl, ?_⟩) hHeld ?_ ?_
        rotate_left
        ·rintro w' ⟨s0, s1, s2, s3, s4⟩
         go_simp; with_reducible rfl
        rotate_left
        ·exact x15_put
        refine one_ (i := 5) (N := some 31) #[true, true, true, true, true, true, false, false, false, false] rfl rfl (one_of HT_.out (by kernel_rfl)) (by decide) (fun K hK => ?_)
        refine goesV_ Try.func98 (by kernel_rfl) rfl #[.int .i64 x7_2, .int .i64 x6_1, .pointer (some ⟨g2, 0, none⟩), .pointer (some ⟨g3, 0, none⟩)] (by rfl) rfl rfl (by rfl) z15_4 ?_
        with_reducible refine (impl_MaskOf_1.calls k2 x7_2 x6_1 g2 A2 c2 l2 g3 a3 t529 _ ?side1 ?side2 ?side3 ?side4 A25.out).mono ?_
        (case side1 => (with_reducible repeat (first | refine blk_drewN ?_ _ | refine blk_drew ?_ | refine blk_alloc ?_ _)); exact BK2.out)
        (case side2 => repeat (first | exact (Kd.C_below HR2.out HB.out) | (with_reducible refine Kd.C_alloc ?_ _) | (with_reducible refine Kd.C_drewN ?_ _) | (with_reducible refine Kd.C_drew ?_)))
        (case side3 => exact HC2.out)
        (case side4 => (with_reducible repeat (first | refine blk_drewN ?_ _ | refine blk_drew ?_ | refine blk_alloc ?_ _)); exact BK3.out)
        rintro e w33 ⟨rfl, hb⟩
        refine ⟨_, rfl, ?_⟩
        have n0_ := Aside0.mk (Kd.R_below (by (with_reducible repeat (first | apply Kd.R_alloc | apply Kd.R_drewN | apply Kd.R_drew)); exact HO_529004.out) hb)
        have n1_ := Aside0.mk (blk_below (g := g2) (o := .cells #[.slice A2 l2.length c2] 27 (0, 0)) z15_6 hb)
        have n2_ := Aside0.mk (blk_below (g := g3) (o := .cells #[.bool a3] 4 (0, 0)) z15_7 hb)
        have n3_ := Aside0.mk (blk_belowB BK526 z15_13 hb)
        have n4_ := Aside0.mk (blk_belowB BK527 z15_19 hb)
        have n5_ := Aside0.mk (blk_belowB BK528 z15_25 hb)
        have n6_ := Aside0.mk (below_step z15_12 hb)
        clear HO_529004; clear BK2; clear BK3; clear BK526; clear BK527; clear BK528; clear HB; have HO_529004 := n0_; have BK2 := n1_; have BK3 := n2_; have BK526 := n3_; have BK527 := n4_; have BK528 := n5_; have HB := n6_; clear n0_ n1_ n2_ n3_ n4_ n5_ n6_; (try clear hb); (try clear hb2); (try clear hk); (try clear hi)
        refine hK.out _ _ ⟨(blk_cell BK528.out 0).trans rfl, (blk_cell BK528.out 1).trans rfl, (blk_cell BK528.out 2).trans rfl, (blk_cell BK528.out 3).trans rfl, (blk_cell BK528.out 4).trans rfl⟩ (fun hHeld => ?_)
        clear hK K
        refine norm_ (a' := ?_) ?_ ?_
        rotate_left
        ·show Act.put _ (some 31) _ = _
         simp only [Act.put, List.setIfInBounds_toArray, List.set_cons_zero, List.set_cons_succ, i64_w, i32_w]
         rfl
        refine one_ (i := 6) (N := some 32) #[true, true, true, true, true, true, true, false, false, false] rfl rfl (one_of HT_.out (by kernel_rfl)) (by decide) (fun K hK => ?_)
        refine value_ (w1 := ?_) (v := ?_) (by rfl) rfl ?_ ?_
        rotate_left 2
        ·go_simp
         constructor
         ·rfl
         ·rfl
        refine hK.out _ _ ⟨(blk_cell (blk_alloc BK528.out _) 0).trans rfl, (blk_cell (blk_alloc BK528.out _) 1).trans rfl, (blk_cell (blk_alloc BK528.out _) 2).trans rfl, (blk_cell (blk_alloc BK528.out _) 3).trans rfl, (blk_cell (blk_alloc BK528.out _) 4).trans rfl⟩ (fun hHeld => ?_)
        clear hK K
        refine norm_ (a' := ?_) ?_ ?_
        rotate_left
        ·show Act.put _ (some 32) _ = _
         simp only [Act.put, List.setIfInBounds_toArray, List.set_cons_zero, List.set_cons_succ, i64_w, i32_w]
         rfl
        refine one_ (i := 7) (N := some 33) #[true, true, true, true, true, true, true, true, false, false] rfl rfl (one_of HT_.out (by kernel_rfl)) (by decide) (fun K hK => ?_)
        refine Kd.R_append_step (Kd.int .i64) (w0 := w) w.heap.size (by rfl) (.tmp 27) (.tmp 32) 22 3 (.int .i64 0) 8 rfl Try.underlying22 info3 rfl (by decide) (by omega) u529004 x529004_2 t529 [.int .i64 t529] (fun _ => True) (fun _ => False) rfl rfl ?aP (fun _ hk => hk.elim) ?aF ?aO ?aB ?aS ?aL ?_
        (case aP => exact rfl)
        (case aB => exact z15_12)
        (case aF => exact (fun _ _ => trivial))
        (case aO => exact (by (with_reducible repeat (first | apply Kd.R_alloc | apply Kd.R_drewN | apply Kd.R_drew)); exact HO_529004.out))
        (case aS => exact (below_size z15_12))
        (case aL => have := LMc26.out; omega)
        intro v531 w34 ho hb hg hat
        rw [← Ny530.out] at ho
        have n0_ := Aside0.mk (blk_grown (g := g2) (o := .cells #[.slice A2 l2.length c2] 27 (0, 0)) z15_6 hg (Kd.R_ne HO_529004.out BK2.out (by decide)))
        have n1_ := Aside0.mk (blk_grown (g := g3) (o := .cells #[.bool a3] 4 (0, 0)) z15_7 hg (Kd.R_ne HO_529004.out BK3.out (by decide)))
        have n2_ := Aside0.mk (blk_grown (g := gb526) (o := .cells #[.int .i64 a0_0, .int .i64 a0_1, .int .i64 a0_2, .int .i64 a0_3] 63 (0, 0)) z15_13 hg (Kd.R_ne HO_529004.out BK526.out (by decide)))
        have n3_ := Aside0.mk (blk_grown (g := gb527) (o := .cells #[.int .i64 0, .int .i64 0, .int .i64 0, .int .i64 0, .slice none 0 0] 65 (0, 0)) z15_19 hg (Kd.R_ne HO_529004.out BK527.out (by decide)))
        have n4_ := Aside0.mk (blk_grown (g := gb528) (o := .cells #[.int .i64 a0_0, .int .i64 a0_1, .int .i64 a0_2, .int .i64 a0_3, u529004] 65 (0, 0)) z15_25 hg (Kd.R_ne HO_529004.out BK528.out (by decide)))
        have n5_ := Aside0.mk (hb)
        have n6_ := Aside0.mk (ho)
        clear BK2; clear BK3; clear BK526; clear BK527; clear BK528; clear HB; clear HO_529004; have BK2 := n0_; have BK3 := n1_; have BK526 := n2_; have BK527 := n3_; have BK528 := n4_; have HB := n5_; have HO532 := n6_; clear n0_ n1_ n2_ n3_ n4_ n5_ n6_; clear ho hb hg hat
        obtain ⟨Ao35, co35, eo35⟩ := Kd.R_slice HO532.out
        (first | subst eo35 | (injection eo35 with f1_ f2_ f3_; have f4_ := f1_.symm; have f5_ := f3_.symm; clear f1_ f2_ f3_; subst f4_; subst f5_))
        refine hK.out _ _ ⟨(blk_cell BK528.out 0).trans rfl, (blk_cell BK528.out 1).trans rfl, (blk_cell BK528.out 2).trans rfl, (blk_cell BK528.out 3).trans rfl, (blk_cell BK528.out 4).trans rfl⟩ (fun hHeld => ?_)
        clear hK K
        refine norm_ (a' := ?_) ?_ ?_
        rotate_left
        ·show Act.put _ (some 33) _ = _
         simp only [Act.put, List.setIfInBounds_toArray, List.set_cons_zero, List.set_cons_succ, i64_w, i32_w]
         rfl
        refine pure_ (i := 8) (N := some 34) (v := ?_) (a' := ?_) #[true, true, true, true, true, true, true, true, true, false] rfl rfl (any_of HT_.out (by kernel_rfl)) (fun _ _ _ h => h) (Or.inl ⟨by rfl, ?_⟩) ?_ ?_; rotate_left
        ·intro w'
         go_simp; with_reducible rfl
        rotate_left
        ·exact x15_put
        refine last_ (i := 9) (N := none) #[true, true, true, true, true, true, true, true, true, true] rfl rfl (one_of HT_.out (by kernel_rfl)) (by decide) (fun K hK => ?_)
        have hs36 : w34.cell? ⟨gb528, 4, none⟩ = some (u529004) := (blk_cell BK528.out 4).trans rfl
        have hfs36 := blk_frozen BK528.out 4
        have hns36_0 := NB2_528.out; have hns36_1 := NB3_528.out; have hns36_2 := NB526_528.out; have hns36_3 := NB527_528.out; have hms36_0 := NB528_2.out; have hms36_1 := NB528_3.out; have hms36_2 := NB528_526.out; have hms36_3 := NB528_527.out
        refine skip_ (w1 := ?_) (by rfl) rfl ?_ ?_
        rotate_left
        ·go_simp
         rfl
        refine hK.out _ _ ?_
        clear hK K
        refine done_ (done_of HT_.out (by kernel_rfl)) ?_
        try go_wp2
        go_roundg k2
        case measure => have := HK1.out; have := HK2.out; omega
        case rel => exact ⟨(wrap64 (x7_2 + 1)), (y530), (.slice Ao35 y530.length co35), (by first | rfl | (simp; done) | (simp [*]; done)), H', ⟨by have := HK1.out; have := HK2.out; omega⟩, ⟨by (with_reducible repeat (first | apply Kd.R_alloc | apply Kd.R_drewN | apply Kd.R_drew)); exact Kd.R_mono (Kd.R_far (p := ⟨gb528, 4, none⟩) (Kd.R_types HO532.out BK528.out (by decide)) (fun _ hk => hk.2) (.slice Ao35 y530.length co35)) (fun _ hk => trivial)⟩, ⟨by (with_reducible repeat (first | refine blk_drewN ?_ _ | refine blk_drew ?_ | refine blk_alloc ?_ _)); refine blk_far ?_ NB2_528.out _; (with_reducible repeat (first | refine blk_drewN ?_ _ | refine blk_drew ?_ | refine blk_alloc ?_ _)); exact BK2.out⟩, ⟨by (with_reducible repeat (first | refine blk_drewN ?_ _ | refine blk_drew ?_ | refine blk_alloc ?_ _)); refine blk_far ?_ NB3_528.out _; (with_reducible repeat (first | refine blk_drewN ?_ _ | refine blk_drew ?_ | refine blk_alloc ?_ _)); exact BK3.out⟩, ⟨by (with_reducible repeat (first | refine blk_drewN ?_ _ | refine blk_drew ?_ | refine blk_alloc ?_ _)); refine blk_far ?_ NB526_528.out _; (with_reducible repeat (first | refine blk_drewN ?_ _ | refine blk_drew ?_ | refine blk_alloc ?_ _)); exact BK526.out⟩, ⟨by (with_reducible repeat (first | refine blk_drewN ?_ _ | refine blk_drew ?_ | refine blk_alloc ?_ _)); refine blk_far ?_ NB527_528.out _; (with_reducible repeat (first | refine blk_drewN ?_ _ | refine blk_drew ?_ | refine blk_alloc ?_ _)); exact BK527.out⟩, ⟨by (with_reducible repeat (first | refine blk_drewN ?_ _ | refine blk_drew ?_ | refine blk_alloc ?_ _)); refine blk_put (cs := #[.int .i64 a0_0, .int .i64 a0_1, .int .i64 a0_2, .int .i64 a0_3, u529004]) ?_ 4 _ rfl; (with_reducible repeat (first | refine blk_drewN ?_ _ | refine blk_drew ?_ | refine blk_alloc ?_ _)); exact BK528.out⟩, ⟨by repeat (first | (with_reducible first | exact HB.out | apply below_alloc | apply pw_below_drewN | apply below_drew1 | refine below_set ?_ GE2.out | refine below_set ?_ GE3.out | refine below_set ?_ GE526.out | refine below_set ?_ GE527.out | refine below_set ?_ GE528.out) | exact HB.out)⟩⟩
       ·rw [if_neg c26] at H
        exact absurd H (by simp)
      ·rw [if_neg c24] at H
       have c24b0 : decide (x7_2 < a0_2) = false := decide_eq_false c24
       clear c24
       have H' := Aside0.mk H
       clear H; have hnb37 := NB526_2.out; have hnc37 := NB2_526.out; have hnb38 := NB526_3.out; have hnc38 := NB3_526.out; have hnb39 := NB526_527.out; have hnc39 := NB527_526.out; have hnb40 := NB526_528.out; have hnc40 := NB528_526.out
       obtain ⟨_, _, _, _, _, _, _, _⟩ := be_4 BK526.out
       go_wp2
       go_roundg k2
       case measure => have := HK1.out; have := HK2.out; omega
       case rel => exact ⟨(wrap64 (x6_1 + 1)), (x529004_2), (u529004), (by first | rfl | (simp; done) | (simp [*]; done)), H', ⟨by have := HK1.out; have := HK2.out; omega⟩, ⟨by (with_reducible repeat (first | apply Kd.R_alloc | apply Kd.R_drewN | apply Kd.R_drew)); exact HO_529004.out⟩, ⟨by (with_reducible repeat (first | refine blk_drewN ?_ _ | refine blk_drew ?_ | refine blk_alloc ?_ _)); exact BK2.out⟩, ⟨by (with_reducible repeat (first | refine blk_drewN ?_ _ | refine blk_drew ?_ | refine blk_alloc ?_ _)); exact BK3.out⟩, ⟨by (with_reducible repeat (first | refine blk_drewN ?_ _ | refine blk_drew ?_ | refine blk_alloc ?_ _)); exact BK526.out⟩, ⟨by (with_reducible repeat (first | refine blk_drewN ?_ _ | refine blk_drew ?_ | refine blk_alloc ?_ _)); exact BK527.out⟩, ⟨by (with_reducible repeat (first | refine blk_drewN ?_ _ | refine blk_drew ?_ | refine blk_alloc ?_ _)); exact BK528.out⟩, ⟨by repeat (first | (with_reducible first | exact HB.out | apply below_alloc | apply pw_below_drewN | apply below_drew1 | refine below_set ?_ GE2.out | refine below_set ?_ GE3.out | refine below_set ?_ GE526.out | refine below_set ?_ GE527.out | refine below_set ?_ GE528.out) | exact HB.out)⟩⟩
   ·rw [if_neg c18] at H
    have c18b0 : decide (x6_1 < a0_3) = false := decide_eq_false c18
    clear c18
    simp only [Option.some.injEq, Prod.mk.injEq] at H
    obtain ⟨rfl, rfl, rfl, rfl, rfl⟩ := H
    have hnb42 := NB526_2.out; have hnc42 := NB2_526.out; have hnb43 := NB526_3.out; have hnc43 := NB3_526.out; have hnb44 := NB526_527.out; have hnc44 := NB527_526.out; have hnb45 := NB526_528.out; have hnc45 := NB528_526.out
    obtain ⟨_, _, _, _, _, _, _, _⟩ := be_4 BK526.out
    have hnb47 := NB528_2.out; have hnc47 := NB2_528.out; have hnb48 := NB528_3.out; have hnc48 := NB3_528.out; have hnb49 := NB528_527.out; have hnc49 := NB527_528.out
    obtain ⟨_, _, _, _, _, _, _, _, _, _⟩ := be_5 BK528.out
    have hnb51 := NB527_2.out; have hnc51 := NB2_527.out; have hnb52 := NB527_3.out; have hnc52 := NB3_527.out
    obtain ⟨_, _, _, _, _, _, _, _, _, _⟩ := be_5 BK527.out
    obtain ⟨Ao54, co54, eo54⟩ := Kd.R_slice HO_529004.out
    subst eo54
    go_wp2
    refine bodyPost_ret (results_cell_row rfl _ _ gb527 65 #[.int .i64 a0_0, .int .i64 a0_1, .int .i64 a0_2, .int .i64 a0_3, .slice Ao54 x529004_1.length co54] (0, 0) _ rfl (by apply blk_fin; (focus ((with_reducible repeat (first | apply blk_putQ | refine blk_drewN ?_ _ | refine blk_drew ?_ | refine blk_alloc ?_ _)); exact BK527.out)); first | (simp only [List.setIfInBounds_toArray, List.set_cons_zero, List.set_cons_succ]; done) | rfl) Try.underlying65 rfl (by kernel_rfl)) rfl ?_
    exact ⟨_, z15_16, (by (with_reducible repeat (first | apply Kd.R_alloc | apply Kd.R_drewN | apply Kd.R_drew)); exact Kd.R_mono (Kd.R_far (p := ⟨gb527, 4, none⟩) (Kd.R_far (p := ⟨gb527, 3, none⟩) (Kd.R_far (p := ⟨gb527, 2, none⟩) (Kd.R_far (p := ⟨gb527, 1, none⟩) (Kd.R_far (p := ⟨gb527, 0, none⟩) (Kd.R_types HO_529004.out BK527.out (by decide)) (fun _ hk => hk.2) (.int .i64 a0_0)) (fun _ hk => hk.2) (.int .i64 a0_1)) (fun _ hk => hk.2) (.int .i64 a0_2)) (fun _ hk => hk.2) (.int .i64 a0_3)) (fun _ hk => hk.2) (.slice Ao54 x529004_1.length co54)) (fun _ hk => trivial)), z15_12⟩

/-! ### impl_MaskOf: function 32 -/
def impl_MaskOf.f (k : Nat) (l0 : List (List (S52))) (a1 : Bool) (a2_0 : Int) (a2_1 : Int) (a2_2 : Int) (a2_3 : Int) : Option (Int × Int × Int × Int × List Int) := (impl_isMaskBox.f a2_0 a2_1 a2_2 a2_3).bind fun t537 => (if t537 = true then ((impl_maskOver_MaskOf_1.f k a2_0 a2_1 a2_2 a2_3 l0 a1).bind fun bt538 => (some (bt538.1, bt538.2.1, bt538.2.2.1, bt538.2.2.2.1, bt538.2.2.2.2))) else (some (0, 0, 0, 0, ([] : List Int))))
theorem impl_MaskOf.mono : ∀ a0 a1 a2 a3 a4 a5 k, LeO (impl_MaskOf.f k a0 a1 a2 a3 a4 a5) (impl_MaskOf.f (k + 1) a0 a1 a2 a3 a4 a5) := by
 intro a0 a1 a2 a3 a4 a5 k
 unfold impl_MaskOf.f
 repeat' first
   | (with_reducible exact impl_maskOver_MaskOf_1.mono _ _ _ _ _ _ _)
   | (with_reducible exact LeO.refl _)
   | (with_reducible exact LeO.none _)
   | (with_reducible refine LeO.ite ?_ ?_)
   | (with_reducible refine LeO.bind ?_ (fun _ => ?_))
   | exact impl_maskOver_MaskOf_1.mono _ _ _ _ _ _ _
   | exact LeO.none _
   | refine LeO.ite ?_ ?_
   | refine LeO.bind ?_ (fun _ => ?_)
set_option maxHeartbeats 8000000 in
set_option maxRecDepth 100000 in
theorem impl_MaskOf.calls (k : Nat) (A0 : Option Addr) (c0 : Nat) (l0 : List (List (S52))) (a1 : Bool) (a2_0 : Int) (a2_1 : Int) (a2_2 : Int) (a2_3 : Int) (r1 : Int) (r2 : Int) (r3 : Int) (r4 : Int) (r5 : List Int) (w : World) (hr0 : Kd.C (Kd.slice 52 k52) w A0 l0.length l0) (hc0 : l0.length ≤ c0) (h : impl_MaskOf.f k l0 a1 a2_0 a2_1 a2_2 a2_3 = some (r1, r2, r3, r4, r5)) :
  Calls Try.prog 32 #[.slice A0 l0.length c0, .bool a1, .agg #[.int .i64 a2_0, .int .i64 a2_1, .int .i64 a2_2, .int .i64 a2_3]] w fun e w' => ∃ v4_ : Value, e = .returned (.agg #[.int .i64 r1, .int .i64 r2, .int .i64 r3, .int .i64 r4, v4_]) ∧ Kd.R (Kd.int .i64) 3 w' w.heap.size (fun _ => True) v4_ r5 ∧ Below w.heap.size w w' := by
 have hu63 := Try.underlying63
 have hu65 := Try.underlying65
 have hmf : ∀ (fn : Fn) (first cap : Array Value) (w : World), (Instr.makeFunc fn first cap).run Try.prog w = .ok (.func fn first cap) w := fun _ _ _ _ => rfl
 have HR0 := Aside0.mk hr0
 have HC0 := Aside0.mk hc0
 clear hr0 hc0
 have HB := Aside0.mk (Below.refl w.heap.size w)
 have H : ((impl_isMaskBox.f a2_0 a2_1 a2_2 a2_3).bind fun t537 => (if t537 = true then ((impl_maskOver_MaskOf_1.f k a2_0 a2_1 a2_2 a2_3 l0 a1).bind fun bt538 => (some (bt538.1, bt538.2.1, bt538.2.2.1, bt538.2.2.2.1, bt538.2.2.2.2))) else (some (0, 0, 0, 0, ([] : List Int))))) = some (r1, r2, r3, r4, r5) := h
 clear h
 replace H := Option.bind_eq_some_iff.mp H
 obtain ⟨t537, A40, H⟩ := H
 try dsimp only at H
 have A4 := Aside0.mk A40
 clear A40
 by_cases c5 : t537 = true
 ·subst c5
  have H1 : ((impl_maskOver_MaskOf_1.f k a2_0 a2_1 a2_2 a2_3 l0 a1).bind fun bt538 => (some (bt538.1, bt538.2.1, bt538.2.2.1, bt538.2.2.2.1, bt538.2.2.2.2))) = some (r1, r2, r3, r4, r5) := by rw [if_pos rfl] at H; exact H
  clear H; have H := H1; clear H1
  replace H := Option.bind_eq_some_iff.mp H
  obtain ⟨⟨t538, t539, t540, t541, t542⟩, A60, H⟩ := H
  try dsimp only at H
  have A6 := Aside0.mk A60
  clear A60
  simp only [Option.some.injEq, Prod.mk.injEq] at H
  obtain ⟨rfl, rfl, rfl, rfl, rfl⟩ := H
  go_enter Try.func32, Try.ntmps32
  go_wp2_with (first | ((with_reducible refine gate_dst (N := 3) rfl ?_); refine boxz (cs := #[.slice A0 l0.length c0]) (t := 27) rfl ?_; intro gb533 hg w7 hbox hb; have n0_ := Aside0.mk (below_step z15_1 hb); have n1_ := Aside0.mk (hbox); have n2_ := Aside0.mk (ge_go (a := w.heap.size) hg (below_size z15_1)); have n3_ := Aside0.mk (ge_go (a := w.heap.size) hg (below_size z15_1)); clear HB; have HB := n0_; have BK533 := n1_; have GW533 := n2_; have GE533 := n3_; clear n0_ n1_ n2_ n3_; clear hb hbox hg) | ((with_reducible refine gate_dst (N := 4) rfl ?_); refine boxz (cs := #[.bool a1]) (t := 4) rfl ?_; intro gb534 hg w8 hbox hb; have n0_ := Aside0.mk (blk_belowB BK533 z15_2 hb); have n1_ := Aside0.mk (below_step z15_14 hb); have n2_ := Aside0.mk (hbox); have n3_ := Aside0.mk (ge_go (a := w.heap.size) hg (below_size z15_14)); have n4_ := Aside0.mk (ge_go (a := w.heap.size) hg (below_size z15_14)); have n5_ := Aside0.mk (nb_lt hg (blk_ltB BK533 z15_2)); have n6_ := Aside0.mk (nb_gt hg (blk_ltB BK533 z15_2)); clear BK533; clear HB; have BK533 := n0_; have HB := n1_; have BK534 := n2_; have GW534 := n3_; have GE534 := n4_; have NB533_534 := n5_; have NB534_533 := n6_; clear n0_ n1_ n2_ n3_ n4_ n5_ n6_; clear hb hbox hg) | ((with_reducible refine gate_dst (N := 5) rfl ?_); refine boxz (cs := #[.int .i64 a2_0, .int .i64 a2_1, .int .i64 a2_2, .int .i64 a2_3]) (t := 63) rfl ?_; intro gb535 hg w9 hbox hb; have n0_ := Aside0.mk (blk_belowB BK533 z15_2 hb); have n1_ := Aside0.mk (blk_belowB BK534 z15_3 hb); have n2_ := Aside0.mk (below_step z15_10 hb); have n3_ := Aside0.mk (hbox); have n4_ := Aside0.mk (ge_go (a := w.heap.size) hg (below_size z15_10)); have n5_ := Aside0.mk (ge_go (a := w.heap.size) hg (below_size z15_10)); have n6_ := Aside0.mk (nb_lt hg (blk_ltB BK533 z15_2)); have n7_ := Aside0.mk (nb_gt hg (blk_ltB BK533 z15_2)); have n8_ := Aside0.mk (nb_lt hg (blk_ltB BK534 z15_3)); have n9_ := Aside0.mk (nb_gt hg (blk_ltB BK534 z15_3)); clear BK533; clear BK534; clear HB; have BK533 := n0_; have BK534 := n1_; have HB := n2_; have BK535 := n3_; have GW535 := n4_; have GE535 := n5_; have NB533_535 := n6_; have NB535_533 := n7_; have NB534_535 := n8_; have NB535_534 := n9_; clear n0_ n1_ n2_ n3_ n4_ n5_ n6_ n7_ n8_ n9_; clear hb hbox hg) | ((with_reducible refine gate_dst (N := 6) rfl ?_); refine boxz (cs := #[.int .i64 0, .int .i64 0, .int .i64 0, .int .i64 0, .slice none 0 0]) (t := 65) rfl ?_; intro gb536 hg w10 hbox hb; have n0_ := Aside0.mk (blk_belowB BK533 z15_2 hb); have n1_ := Aside0.mk (blk_belowB BK534 z15_3 hb); have n2_ := Aside0.mk (blk_belowB BK535 z15_11 hb); have n3_ := Aside0.mk (below_step z15_9 hb); have n4_ := Aside0.mk (hbox); have n5_ := Aside0.mk (ge_go (a := w.heap.size) hg (below_size z15_9)); have n6_ := Aside0.mk (ge_go (a := w.heap.size) hg (below_size z15_9)); have n7_ := Aside0.mk (nb_lt hg (blk_ltB BK533 z15_2)); have n8_ := Aside0.mk (nb_gt hg (blk_ltB BK533 z15_2)); have n9_ := Aside0.mk (nb_lt hg (blk_ltB BK534 z15_3)); have n10_ := Aside0.mk (nb_gt hg (blk_ltB BK534 z15_3)); have n11_ := Aside0.mk (nb_lt hg (blk_ltB BK535 z15_11)); have n12_ := Aside0.mk (nb_gt hg (blk_ltB BK535 z15_11)); clear BK533; clear BK534; clear BK535; clear HB; have BK533 := n0_; have BK534 := n1_; have BK535 := n2_; have HB := n3_; have BK536 := n4_; have GW536 := n5_; have GE536 := n6_; have NB533_536 := n7_; have NB536_533 := n8_; have NB534_536 := n9_; have NB536_534 := n10_; have NB535_536 := n11_; have NB536_535 := n12_; clear n0_ n1_ n2_ n3_ n4_ n5_ n6_ n7_ n8_ n9_ n10_ n11_ n12_; clear hb hbox hg; have hnb11 := NB535_533.out; have hnc11 := NB533_535.out; have hnb12 := NB535_534.out; have hnc12 := NB534_535.out; have hnb13 := NB535_536.out; have hnc13 := NB536_535.out; obtain ⟨_, _, _, _, _, _, _, _⟩ := be_4 BK535.out) | ((with_reducible refine gate_callee (f := 88) rfl ?_); refine goesL_ (some 8) rfl rfl Try.func88 (by kernel_rfl) rfl #[.agg #[.int .i64 a2_0, .int .i64 a2_1, .int .i64 a2_2, .int .i64 a2_3]] rfl z15_4 ?_; (with_reducible refine (impl_isMaskBox.calls a2_0 a2_1 a2_2 a2_3 true _ A4.out).mono ?_); rintro e w15 ⟨rfl, hb⟩; refine ⟨_, rfl, ?_⟩; have n0_ := Aside0.mk (blk_belowB BK533 z15_2 hb); have n1_ := Aside0.mk (blk_belowB BK534 z15_3 hb); have n2_ := Aside0.mk (blk_belowB BK535 z15_11 hb); have n3_ := Aside0.mk (blk_belowB BK536 z15_23 hb); have n4_ := Aside0.mk (below_step z15_5 hb); clear BK533; clear BK534; clear BK535; clear BK536; clear HB; have BK533 := n0_; have BK534 := n1_; have BK535 := n2_; have BK536 := n3_; have HB := n4_; clear n0_ n1_ n2_ n3_ n4_; (try clear hb); obtain ⟨_, _, _, _, _, _, _, _⟩ := be_4 BK535.out) | ((with_reducible refine gate_callee (f := 85) rfl ?_); refine goesL_ (some 13) rfl rfl Try.func85 (by kernel_rfl) rfl #[.agg #[.int .i64 a2_0, .int .i64 a2_1, .int .i64 a2_2, .int .i64 a2_3], .func (.func 98) #[] #[.pointer (some ⟨gb533, 0, none⟩), .pointer (some ⟨gb534, 0, none⟩)]] rfl z15_4 ?_; (with_reducible refine (impl_maskOver_MaskOf_1.calls k a2_0 a2_1 a2_2 a2_3  gb533 A0 c0 l0 gb534 a1 t538 t539 t540 t541 t542 _ ?side1 ?side2 ?side3 ?side4 A6.out).mono ?_); (case side1 => (with_reducible repeat (first | refine blk_drewN ?_ _ | refine blk_drew ?_ | refine blk_alloc ?_ _)); exact BK533.out); (case side2 => repeat (first | exact (Kd.C_below HR0.out HB.out) | (with_reducible refine Kd.C_alloc ?_ _) | (with_reducible refine Kd.C_drewN ?_ _) | (with_reducible refine Kd.C_drew ?_))); (case side3 => exact HC0.out); (case side4 => (with_reducible repeat (first | refine blk_drewN ?_ _ | refine blk_drew ?_ | refine blk_alloc ?_ _)); exact BK534.out); rintro e w17 ⟨v543, rfl, ho0, hb⟩; refine ⟨_, rfl, ?_⟩; have n0_ := Aside0.mk (Kd.R_lower ho0 (below_size z15_5)); have n1_ := Aside0.mk (blk_belowB BK533 z15_2 hb); have n2_ := Aside0.mk (blk_belowB BK534 z15_3 hb); have n3_ := Aside0.mk (blk_belowB BK535 z15_11 hb); have n4_ := Aside0.mk (blk_belowB BK536 z15_23 hb); have n5_ := Aside0.mk (below_step z15_5 hb); clear BK533; clear BK534; clear BK535; clear BK536; clear HB; have HO544 := n0_; have BK533 := n1_; have BK534 := n2_; have BK535 := n3_; have BK536 := n4_; have HB := n5_; clear n0_ n1_ n2_ n3_ n4_ n5_; (try clear hb); (try clear ho0); have hnb18 := NB536_533.out; have hnc18 := NB533_536.out; have hnb19 := NB536_534.out; have hnc19 := NB534_536.out; obtain ⟨_, _, _, _, _, _, _, _, _, _⟩ := be_5 BK536.out; obtain ⟨Ao21, co21, eo21⟩ := Kd.R_slice HO544.out; subst eo21))
  refine bodyPost_ret (results_cell_row rfl _ _ gb536 65 #[.int .i64 t538, .int .i64 t539, .int .i64 t540, .int .i64 t541, .slice Ao21 t542.length co21] (0, 0) _ rfl z15_22 Try.underlying65 rfl (by kernel_rfl)) rfl ?_
  exact ⟨_, z15_16, (by (with_reducible repeat (first | apply Kd.R_alloc | apply Kd.R_drewN | apply Kd.R_drew)); exact Kd.R_mono (Kd.R_far (p := ⟨gb536, 4, none⟩) (Kd.R_far (p := ⟨gb536, 3, none⟩) (Kd.R_far (p := ⟨gb536, 2, none⟩) (Kd.R_far (p := ⟨gb536, 1, none⟩) (Kd.R_far (p := ⟨gb536, 0, none⟩) (Kd.R_types HO544.out BK536.out (by decide)) (fun _ hk => hk.2) (.int .i64 t538)) (fun _ hk => hk.2) (.int .i64 t539)) (fun _ hk => hk.2) (.int .i64 t540)) (fun _ hk => hk.2) (.int .i64 t541)) (fun _ hk => hk.2) (.slice Ao21 t542.length co21)) (fun _ hk => trivial)), z15_5⟩
 ·replace c5 := Bool.eq_false_iff.mpr c5
  subst c5
  have H1 : (some (0, 0, 0, 0, ([] : List Int))) = some (r1, r2, r3, r4, r5) := by rw [if_neg (show ¬ (false = true) by decide)] at H; exact H
  clear H; have H := H1; clear H1
  simp only [Option.some.injEq, Prod.mk.injEq] at H
  obtain ⟨rfl, rfl, rfl, rfl, rfl⟩ := H
  go_enter Try.func32, Try.ntmps32
  go_wp2_with (first | ((with_reducible refine gate_dst (N := 3) rfl ?_); refine boxz (cs := #[.slice A0 l0.length c0]) (t := 27) rfl ?_; intro gb533 hg w22 hbox hb; have n0_ := Aside0.mk (below_step z15_1 hb); have n1_ := Aside0.mk (hbox); have n2_ := Aside0.mk (ge_go (a := w.heap.size) hg (below_size z15_1)); have n3_ := Aside0.mk (ge_go (a := w.heap.size) hg (below_size z15_1)); clear HB; have HB := n0_; have BK533 := n1_; have GW533 := n2_; have GE533 := n3_; clear n0_ n1_ n2_ n3_; clear hb hbox hg) | ((with_reducible refine gate_dst (N := 4) rfl ?_); refine boxz (cs := #[.bool a1]) (t := 4) rfl ?_; intro gb534 hg w23 hbox hb; have n0_ := Aside0.mk (blk_belowB BK533 z15_2 hb); have n1_ := Aside0.mk (below_step z15_14 hb); have n2_ := Aside0.mk (hbox); have n3_ := Aside0.mk (ge_go (a := w.heap.size) hg (below_size z15_14)); have n4_ := Aside0.mk (ge_go (a := w.heap.size) hg (below_size z15_14)); have n5_ := Aside0.mk (nb_lt hg (blk_ltB BK533 z15_2)); have n6_ := Aside0.mk (nb_gt hg (blk_ltB BK533 z15_2)); clear BK533; clear HB; have BK533 := n0_; have HB := n1_; have BK534 := n2_; have GW534 := n3_; have GE534 := n4_; have NB533_534 := n5_; have NB534_533 := n6_; clear n0_ n1_ n2_ n3_ n4_ n5_ n6_; clear hb hbox hg) | ((with_reducible refine gate_dst (N := 5) rfl ?_); refine boxz (cs := #[.int .i64 a2_0, .int .i64 a2_1, .int .i64 a2_2, .int .i64 a2_3]) (t := 63) rfl ?_; intro gb535 hg w24 hbox hb; have n0_ := Aside0.mk (blk_belowB BK533 z15_2 hb); have n1_ := Aside0.mk (blk_belowB BK534 z15_3 hb); have n2_ := Aside0.mk (below_step z15_10 hb); have n3_ := Aside0.mk (hbox); have n4_ := Aside0.mk (ge_go (a := w.heap.size) hg (below_size z15_10)); have n5_ := Aside0.mk (ge_go (a := w.heap.size) hg (below_size z15_10)); have n6_ := Aside0.mk (nb_lt hg (blk_ltB BK533 z15_2)); have n7_ := Aside0.mk (nb_gt hg (blk_ltB BK533 z15_2)); have n8_ := Aside0.mk (nb_lt hg (blk_ltB BK534 z15_3)); have n9_ := Aside0.mk (nb_gt hg (blk_ltB BK534 z15_3)); clear BK533; clear BK534; clear HB; have BK533 := n0_; have BK534 := n1_; have HB := n2_; have BK535 := n3_; have GW535 := n4_; have GE535 := n5_; have NB533_535 := n6_; have NB535_533 := n7_; have NB534_535 := n8_; have NB535_534 := n9_; clear n0_ n1_ n2_ n3_ n4_ n5_ n6_ n7_ n8_ n9_; clear hb hbox hg) | ((with_reducible refine gate_dst (N := 6) rfl ?_); refine boxz (cs := #[.int .i64 0, .int .i64 0, .int .i64 0, .int .i64 0, .slice none 0 0]) (t := 65) rfl ?_; intro gb536 hg w25 hbox hb; have n0_ := Aside0.mk (blk_belowB BK533 z15_2 hb); have n1_ := Aside0.mk (blk_belowB BK534 z15_3 hb); have n2_ := Aside0.mk (blk_belowB BK535 z15_11 hb); have n3_ := Aside0.mk (below_step z15_9 hb); have n4_ := Aside0.mk (hbox); have n5_ := Aside0.mk (ge_go (a := w.heap.size) hg (below_size z15_9)); have n6_ := Aside0.mk (ge_go (a := w.heap.size) hg (below_size z15_9)); have n7_ := Aside0.mk (nb_lt hg (blk_ltB BK533 z15_2)); have n8_ := Aside0.mk (nb_gt hg (blk_ltB BK533 z15_2)); have n9_ := Aside0.mk (nb_lt hg (blk_ltB BK534 z15_3)); have n10_ := Aside0.mk (nb_gt hg (blk_ltB BK534 z15_3)); have n11_ := Aside0.mk (nb_lt hg (blk_ltB BK535 z15_11)); have n12_ := Aside0.mk (nb_gt hg (blk_ltB BK535 z15_11)); clear BK533; clear BK534; clear BK535; clear HB; have BK533 := n0_; have BK534 := n1_; have BK535 := n2_; have HB := n3_; have BK536 := n4_; have GW536 := n5_; have GE536 := n6_; have NB533_536 := n7_; have NB536_533 := n8_; have NB534_536 := n9_; have NB536_534 := n10_; have NB535_536 := n11_; have NB536_535 := n12_; clear n0_ n1_ n2_ n3_ n4_ n5_ n6_ n7_ n8_ n9_ n10_ n11_ n12_; clear hb hbox hg; have hnb26 := NB535_533.out; have hnc26 := NB533_535.out; have hnb27 := NB535_534.out; have hnc27 := NB534_535.out; have hnb28 := NB535_536.out; have hnc28 := NB536_535.out; obtain ⟨_, _, _, _, _, _, _, _⟩ := be_4 BK535.out) | ((with_reducible refine gate_callee (f := 88) rfl ?_); refine goesL_ (some 8) rfl rfl Try.func88 (by kernel_rfl) rfl #[.agg #[.int .i64 a2_0, .int .i64 a2_1, .int .i64 a2_2, .int .i64 a2_3]] rfl z15_4 ?_; (with_reducible refine (impl_isMaskBox.calls a2_0 a2_1 a2_2 a2_3 false _ A4.out).mono ?_); rintro e w30 ⟨rfl, hb⟩; refine ⟨_, rfl, ?_⟩; have n0_ := Aside0.mk (blk_belowB BK533 z15_2 hb); have n1_ := Aside0.mk (blk_belowB BK534 z15_3 hb); have n2_ := Aside0.mk (blk_belowB BK535 z15_11 hb); have n3_ := Aside0.mk (blk_belowB BK536 z15_23 hb); have n4_ := Aside0.mk (below_step z15_5 hb); clear BK533; clear BK534; clear BK535; clear BK536; clear HB; have BK533 := n0_; have BK534 := n1_; have BK535 := n2_; have BK536 := n3_; have HB := n4_; clear n0_ n1_ n2_ n3_ n4_; (try clear hb); have hnb31 := NB536_533.out; have hnc31 := NB533_536.out; have hnb32 := NB536_534.out; have hnc32 := NB534_536.out; obtain ⟨_, _, _, _, _, _, _, _, _, _⟩ := be_5 BK536.out))
  refine bodyPost_ret (results_cell_row rfl _ _ gb536 65 #[.int .i64 0, .int .i64 0, .int .i64 0, .int .i64 0, .slice none 0 0] (0, 0) _ rfl z15_22 Try.underlying65 rfl (by kernel_rfl)) rfl ?_
  exact ⟨_, z15_16, (by first | exact Kd.R_nil _ _ _ _ _ | exact Kd.N_nil _ _ _ _ _ | exact Kd.V_nil _ _ _ _ _ | exact Kd.Q_nil _ _ _ _ _ | exact Kd.S_nil _ _ _ _ _), z15_5⟩

/-! ### spec_l10Near: function 151 -/
def spec_l10Near.f (a0_0 : Int) (a0_1 : Int) : Option (Bool) := (spec_l01In.f a0_0 (-33554432) 33554432).bind fun t546 => (if t546 = true then ((spec_l01In.f a0_1 (-33554432) 33554432).bind fun t547 => (some t547)) else (some false))
set_option maxHeartbeats 8000000 in
set_option maxRecDepth 100000 in
theorem spec_l10Near.calls (a0_0 : Int) (a0_1 : Int) (r : Bool) (w : World) (h : spec_l10Near.f a0_0 a0_1 = some r) :
  Calls Try.prog 151 #[.agg #[.int .i64 a0_0, .int .i64 a0_1]] w fun e w' => e = .returned (.bool r) ∧ Below w.heap.size w w' := by
 have hu52 := Try.underlying52
 have HB := Aside0.mk (Below.refl w.heap.size w)
 have H : ((spec_l01In.f a0_0 (-33554432) 33554432).bind fun t546 => (if t546 = true then ((spec_l01In.f a0_1 (-33554432) 33554432).bind fun t547 => (some t547)) else (some false))) = some r := h
 clear h
 replace H := Option.bind_eq_some_iff.mp H
 obtain ⟨t546, A20, H⟩ := H
 try dsimp only at H
 have A2 := Aside0.mk A20
 clear A20
 by_cases c3 : t546 = true
 ·subst c3
  have H1 : ((spec_l01In.f a0_1 (-33554432) 33554432).bind fun t547 => (some t547)) = some r := by rw [if_pos rfl] at H; exact H
  clear H; have H := H1; clear H1
  replace H := Option.bind_eq_some_iff.mp H
  obtain ⟨t547, A40, H⟩ := H
  try dsimp only at H
  have A4 := Aside0.mk A40
  clear A40
  obtain rfl := Option.some.inj H
  simp only [Option.some.injEq, Prod.mk.injEq] at H
  obtain ⟨rfl⟩ := H
  go_enter Try.func151, Try.ntmps151
  go_wp2_with (first | ((with_reducible refine gate_dst (N := 1) rfl ?_); refine boxz (cs := #[.int .i64 a0_0, .int .i64 a0_1]) (t := 52) rfl ?_; intro gb545 hg w5 hbox hb; have n0_ := Aside0.mk (below_step z15_1 hb); have n1_ := Aside0.mk (hbox); have n2_ := Aside0.mk (ge_go (a := w.heap.size) hg (below_size z15_1)); have n3_ := Aside0.mk (ge_go (a := w.heap.size) hg (below_size z15_1)); clear HB; have HB := n0_; have BK545 := n1_; have GW545 := n2_; have GE545 := n3_; clear n0_ n1_ n2_ n3_; clear hb hbox hg; obtain ⟨_, _, _, _⟩ := be_2 BK545.out) | ((with_reducible refine gate_callee (f := 64) rfl ?_); refine goesL_ (some 5) rfl rfl Try.func64 (by kernel_rfl) rfl #[.int .i64 a0_0, .int .i64 (-33554432), .int .i64 33554432] rfl z15_4 ?_; (with_reducible refine (spec_l01In.calls a0_0 (-33554432) 33554432 true _ A2.out).mono ?_); rintro e w' ⟨rfl, ⟨nd, rfl⟩⟩; refine ⟨_, rfl, ?_⟩) | (go_at_call 64; (with_reducible refine (spec_l01In.calls a0_1 (-33554432) 33554432 t547 _ A4.out).mono ?_); rintro e w' ⟨rfl, ⟨nd, rfl⟩⟩))
  go_ret
  exact ⟨z15_16, z15_24⟩
 ·replace c3 := Bool.eq_false_iff.mpr c3
  subst c3
  have H1 : (some false) = some r := by rw [if_neg (show ¬ (false = true) by decide)] at H; exact H
  clear H; have H := H1; clear H1
  obtain rfl := Option.some.inj H
  simp only [Option.some.injEq, Prod.mk.injEq] at H
  obtain ⟨rfl⟩ := H
  go_enter Try.func151, Try.ntmps151
  go_wp2_with (first | ((with_reducible refine gate_dst (N := 1) rfl ?_); refine boxz (cs := #[.int .i64 a0_0, .int .i64 a0_1]) (t := 52) rfl ?_; intro gb545 hg w7 hbox hb; have n0_ := Aside0.mk (below_step z15_1 hb); have n1_ := Aside0.mk (hbox); have n2_ := Aside0.mk (ge_go (a := w.heap.size) hg (below_size z15_1)); have n3_ := Aside0.mk (ge_go (a := w.heap.size) hg (below_size z15_1)); clear HB; have HB := n0_; have BK545 := n1_; have GW545 := n2_; have GE545 := n3_; clear n0_ n1_ n2_ n3_; clear hb hbox hg; obtain ⟨_, _, _, _⟩ := be_2 BK545.out) | ((with_reducible refine gate_callee (f := 64) rfl ?_); refine goesL_ (some 5) rfl rfl Try.func64 (by kernel_rfl) rfl #[.int .i64 a0_0, .int .i64 (-33554432), .int .i64 33554432] rfl z15_4 ?_; (with_reducible refine (spec_l01In.calls a0_0 (-33554432) 33554432 false _ A2.out).mono ?_); rintro e w' ⟨rfl, ⟨nd, rfl⟩⟩; refine ⟨_, rfl, ?_⟩))
  go_ret
  exact ⟨z15_16, z15_24⟩

end Go.Proofs.Ytghbenapnhcllaa.MFnMaskOf
