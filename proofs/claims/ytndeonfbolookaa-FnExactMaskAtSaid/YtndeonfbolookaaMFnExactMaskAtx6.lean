/- Functions of the program as Lean functions, and the proof that a call comes to just these: machine text of this session's own program (myprint.py). -/
import Derived.Test.YtndeonfbolookaaMFnExactMaskAtx0
import Derived.Test.YtndeonfbolookaaMFnExactMaskAtx1
import Derived.Test.YtndeonfbolookaaMFnExactMaskAtx2
import Derived.Test.YtndeonfbolookaaMFnExactMaskAtx4
import Derived.Test.YtndeonfbolookaaMFnExactMaskAtx5
namespace Go.Proofs.Ytndeonfbolookaa.MFnExactMaskAt
open Go.RowKit Go.Proofs.YtndeonfbolookaaW.PrintWords Go.Proofs.YtndeonfbolookaaW.PrintLast Go.Proofs.YtndeonfbolookaaW.PrintMore
attribute [local go_sem] max2_int min2_int max_two min_two max_three min_three max_four min_four   -- for this text's walks alone
set_option linter.unusedVariables false
set_option linter.unusedSimpArgs false

theorem z6_0 {P : Prop} (h : P := by repeat (first | (with_reducible first | exact HB.out | apply below_alloc | apply pw_below_drewN | apply below_drew1) | exact HB.out)) : P := h
theorem z6_1 {P : Prop} (h : P := by (try simp only [List.map_toArray, List.map_cons, List.map_nil]); first | done | rfl | (simp only [List.length_drop, List.length_take]; rfl)) : P := h
theorem z6_2 {P : Prop} (h : P := by first | exact of_decide_eq_true (by with_reducible assumption) | exact of_decide_eq_true (by assumption) | omega | (simp; done)) : P := h
theorem z6_3 {P : Prop} (h : P := by (with_reducible repeat (first | apply Kd.S_alloc | apply Kd.S_drewN | apply Kd.S_drew)); exact HO183.out) : P := h
theorem z6_4 {P : Prop} (h : P := by repeat (first | (with_reducible first | exact HB.out | apply below_alloc | apply pw_below_drewN | apply below_drew1 | refine below_set ?_ GE178.out) | exact HB.out)) : P := h
theorem z6_5 {P : Prop} (h : P := by (with_reducible repeat (first | apply Kd.S_alloc | apply Kd.S_drewN | apply Kd.S_drew)); exact HO187.out) : P := h
theorem z6_6 {P : Prop} (h : P := by repeat (first | exact HR0.out | (with_reducible refine Kd.C_alloc ?_ _) | (with_reducible refine Kd.C_drewN ?_ _) | (with_reducible refine Kd.C_drew ?_))) : P := h
theorem z6_7 {P : Prop} (h : P := by first | rfl | (simp [errW_none, errW_some] <;> rfl) | (simp [*, errW_none, errW_some] <;> rfl)) : P := h
theorem z6_8 {P : Prop} (h : P := by apply blk_fin; (focus ((with_reducible repeat (first | apply blk_putQ | refine blk_drewN ?_ _ | refine blk_drew ?_ | refine blk_alloc ?_ _)); exact BK178.out)); first | (simp only [List.setIfInBounds_toArray, List.set_cons_zero, List.set_cons_succ]; done) | rfl) : P := h
theorem z6_9 {P : Prop} (h : P := by repeat (first | exact (Kd.C_below HR0.out HB.out) | (with_reducible refine Kd.C_alloc ?_ _) | (with_reducible refine Kd.C_drewN ?_ _) | (with_reducible refine Kd.C_drew ?_))) : P := h
theorem z6_10 {P : Prop} (h : P := by repeat (first | exact (Kd.S_reads' HO187.out).2.2 | (with_reducible refine Kd.C_alloc ?_ _) | (with_reducible refine Kd.C_drewN ?_ _) | (with_reducible refine Kd.C_drew ?_))) : P := h
/-! ### impl_MaskAt: function 46 -/
def impl_MaskAt.l0 : Nat → List (List (S42)) → Bool → Int → Int → Int → Int → Int → Int → Int → Int → Int → Int → Option (Int)
 | 0, _, _, _, _, _, _, _, _, _, _, _, _ => none
 | k + 1, x0, x1, x9, x19, x644, x645, x646, x647, x648, x649, x650, x651 => if x19 < 4 then (if 0 ≤ x19 then ((impl_Covers.f k x0 x1 (ix4 x19 x644 x646 x648 x650) (ix4 x19 x645 x647 x649 x651)).bind fun t179 => (if t179 = true then (if 0 ≤ (IntKind.u64.wrap (x19)) then (impl_MaskAt.l0 k x0 x1 (Go.bits .or .i64 x9 (shl .i64 1 (IntKind.u64.wrap (x19)))) (wrap64 (x19 + 1)) x644 x645 x646 x647 x648 x649 x650 x651) else (none)) else (impl_MaskAt.l0 k x0 x1 x9 (wrap64 (x19 + 1)) x644 x645 x646 x647 x648 x649 x650 x651))) else (none)) else (some x9)
def impl_MaskAt.f (k : Nat) (l0 : List (List (S42))) (a1 : Bool) (a2 : Int) (a3 : Int) : Option (Int) := (impl_isSquare.f a2 a3).bind fun t169 => (if t169 = true then ((impl_pointsOf.f a2 a3).bind fun bt170 => (impl_MaskAt.l0 k l0 a1 0 0 bt170.1 bt170.2.1 bt170.2.2.1 bt170.2.2.2.1 bt170.2.2.2.2.1 bt170.2.2.2.2.2.1 bt170.2.2.2.2.2.2.1 bt170.2.2.2.2.2.2.2)) else (some 0))
theorem impl_MaskAt.mono_l : ∀ k, (∀ y0 y1 y2 y3 y4 y5 y6 y7 y8 y9 y10 y11, LeO (impl_MaskAt.l0 k y0 y1 y2 y3 y4 y5 y6 y7 y8 y9 y10 y11) (impl_MaskAt.l0 (k + 1) y0 y1 y2 y3 y4 y5 y6 y7 y8 y9 y10 y11))
 | 0 => fun _ _ _ _ _ _ _ _ _ _ _ _ r h => by simp [impl_MaskAt.l0] at h
 | k + 1 => by
  have ih0 := impl_MaskAt.mono_l k
  ·intro y0 y1 y2 y3 y4 y5 y6 y7 y8 y9 y10 y11
   unfold impl_MaskAt.l0
   repeat' first
   | (with_reducible exact ih0 _ _ _ _ _ _ _ _ _ _ _ _)
   | (with_reducible exact impl_Covers.mono _ _ _ _ _)
   | (with_reducible exact LeO.refl _)
   | (with_reducible exact LeO.none _)
   | (with_reducible refine LeO.ite ?_ ?_)
   | (with_reducible refine LeO.bind ?_ (fun _ => ?_))
   | exact ih0 _ _ _ _ _ _ _ _ _ _ _ _
   | exact impl_Covers.mono _ _ _ _ _
   | exact LeO.none _
   | refine LeO.ite ?_ ?_
   | refine LeO.bind ?_ (fun _ => ?_)
theorem impl_MaskAt.mono : ∀ a0 a1 a2 a3 k, LeO (impl_MaskAt.f k a0 a1 a2 a3) (impl_MaskAt.f (k + 1) a0 a1 a2 a3) := by
 intro a0 a1 a2 a3 k
 have ih0 := impl_MaskAt.mono_l k
 unfold impl_MaskAt.f
 repeat' first
   | (with_reducible exact ih0 _ _ _ _ _ _ _ _ _ _ _ _)
   | (with_reducible exact impl_Covers.mono _ _ _ _ _)
   | (with_reducible exact LeO.refl _)
   | (with_reducible exact LeO.none _)
   | (with_reducible refine LeO.ite ?_ ?_)
   | (with_reducible refine LeO.bind ?_ (fun _ => ?_))
   | exact ih0 _ _ _ _ _ _ _ _ _ _ _ _
   | exact impl_Covers.mono _ _ _ _ _
   | exact LeO.none _
   | refine LeO.ite ?_ ?_
   | refine LeO.bind ?_ (fun _ => ?_)
set_option maxHeartbeats 8000000 in
set_option maxRecDepth 100000 in
theorem impl_MaskAt.calls (k : Nat) (A0 : Option Addr) (c0 : Nat) (l0 : List (List (S42))) (a1 : Bool) (a2 : Int) (a3 : Int) (r : Int) (w : World) (hr0 : Kd.C (Kd.slice 42 k42) w A0 l0.length l0) (hc0 : l0.length ≤ c0) (h : impl_MaskAt.f k l0 a1 a2 a3 = some r) :
  Calls Try.prog 46 #[.slice A0 l0.length c0, .bool a1, .int .i64 a2, .int .i64 a3] w fun e w' => e = .returned (.int .i64 r) ∧ Below w.heap.size w w' := by
 have hu42 := Try.underlying42
 have HR0 := Aside0.mk hr0
 have HC0 := Aside0.mk hc0
 clear hr0 hc0
 have HB := Aside0.mk (Below.refl w.heap.size w)
 have H : ((impl_isSquare.f a2 a3).bind fun t169 => (if t169 = true then ((impl_pointsOf.f a2 a3).bind fun bt170 => (impl_MaskAt.l0 k l0 a1 0 0 bt170.1 bt170.2.1 bt170.2.2.1 bt170.2.2.2.1 bt170.2.2.2.2.1 bt170.2.2.2.2.2.1 bt170.2.2.2.2.2.2.1 bt170.2.2.2.2.2.2.2)) else (some 0))) = some r := h
 clear h
 replace H := Option.bind_eq_some_iff.mp H
 obtain ⟨t169, A50, H⟩ := H
 try dsimp only at H
 have A5 := Aside0.mk A50
 clear A50
 by_cases c6 : t169 = true
 ·subst c6
  have H1 : ((impl_pointsOf.f a2 a3).bind fun bt170 => (impl_MaskAt.l0 k l0 a1 0 0 bt170.1 bt170.2.1 bt170.2.2.1 bt170.2.2.2.1 bt170.2.2.2.2.1 bt170.2.2.2.2.2.1 bt170.2.2.2.2.2.2.1 bt170.2.2.2.2.2.2.2)) = some r := by rw [if_pos rfl] at H; exact H
  clear H; have H := H1; clear H1
  replace H := Option.bind_eq_some_iff.mp H
  obtain ⟨⟨t170, t171, t172, t173, t174, t175, t176, t177⟩, A70, H⟩ := H
  try dsimp only at H
  have A7 := Aside0.mk A70
  clear A70
  have H' := Aside0.mk H
  clear H
  go_enter Try.func46, Try.ntmps46
  go_wp2_with (first | ((with_reducible refine gate_index (t := 123) rfl ?_); refine index_two rfl (t := 123) (e := 42) rfl Try.underlying123 Try.underlying42 rfl (show (Try.prog.info? 42).map (·.size) = some 2 by kernel_rfl) rfl rfl z6_2 z6_2 ?_) | ((with_reducible refine gate_callee (f := 107) rfl ?_); refine goesL_ (some 14) rfl rfl Try.func107 (by kernel_rfl) rfl #[.int .i64 a2, .int .i64 a3] rfl z6_1 ?_; (with_reducible refine (impl_isSquare.calls a2 a3 true _ A5.out).mono ?_); rintro e w' ⟨rfl, ⟨nd, rfl⟩⟩; refine ⟨_, rfl, ?_⟩) | ((with_reducible refine gate_callee (f := 108) rfl ?_); refine goesL_ (some 18) rfl rfl Try.func108 (by kernel_rfl) rfl #[.int .i64 a2, .int .i64 a3] rfl z6_1 ?_; (with_reducible refine (impl_pointsOf.calls a2 a3 t170 t171 t172 t173 t174 t175 t176 t177 _ A7.out).mono ?_); rintro e w8 ⟨rfl, hb⟩; refine ⟨_, rfl, ?_⟩; have n0_ := Aside0.mk (below_step z6_0 hb); clear HB; have HB := n0_; clear n0_; (try clear hb)))
  go_loopg [9, 19] k (fun kq v9 v19 w' => ∃ (x9_1 : Int) (x19_1 : Int), v9 = .int .i64 x9_1 ∧ v19 = .int .i64 x19_1 ∧ Aside0 (impl_MaskAt.l0 kq l0 a1 x9_1 x19_1 t170 t171 t172 t173 t174 t175 t176 t177 = some r) ∧ Aside0 (kq ≤ k) ∧ Aside0 (Below w.heap.size w w'))
  case atStart => exact ⟨(0), (0), (by first | rfl | (simp; done) | (simp [*]; done)), (by first | rfl | (simp; done) | (simp [*]; done)), H', ⟨Nat.le_refl _⟩, ⟨z6_0⟩⟩
  case round =>
   clear H'
   try clear c1
   try clear p2
   try clear c4
   try clear c6
   obtain ⟨x9_1, x19_1, rfl, rfl, HA, HK1, HB⟩ := hrel
   cases gk with
   | zero => exact absurd HA.out (by simp [impl_MaskAt.l0])
   | succ k1 =>
    have H := HA.out; clear HA
    simp only [impl_MaskAt.l0] at H
    by_cases c9 : x19_1 < 4
    ·rw [if_pos c9] at H
     have c9b0 : decide (x19_1 < 4) = true := decide_eq_true c9
     clear c9
     by_cases c10 : 0 ≤ x19_1
     ·rw [if_pos c10] at H
      have c10b0 : decide (0 ≤ x19_1) = true := decide_eq_true c10
      clear c10
      replace H := Option.bind_eq_some_iff.mp H
      obtain ⟨t179, A110, H⟩ := H
      try dsimp only at H
      have A11 := Aside0.mk A110
      clear A110
      by_cases c12 : t179 = true
      ·subst c12
       have H1 : (if 0 ≤ (IntKind.u64.wrap (x19_1)) then (impl_MaskAt.l0 k1 l0 a1 (Go.bits .or .i64 x9_1 (shl .i64 1 (IntKind.u64.wrap (x19_1)))) (wrap64 (x19_1 + 1)) t170 t171 t172 t173 t174 t175 t176 t177) else (none)) = some r := by rw [if_pos rfl] at H; exact H
       clear H; have H := H1; clear H1
       obtain ⟨ji13, hji13⟩ : ∃ j_ : Int, (IntKind.u64.wrap (x19_1)) = j_ := ⟨_, rfl⟩
       replace H : (if 0 ≤ (ji13) then (impl_MaskAt.l0 k1 l0 a1 (Go.bits .or .i64 x9_1 (shl .i64 1 (ji13))) (wrap64 (x19_1 + 1)) t170 t171 t172 t173 t174 t175 t176 t177) else (none)) = some r := by first | (rw [hji13] at H; exact H) | (simp only [hji13] at H ⊢; exact H)
       (try rw [hji13] at A11)
       by_cases c14 : 0 ≤ (ji13)
       ·rw [if_pos c14] at H
        have c14b0 := eq_true c14
        have c14b1 : decide (0 ≤ (ji13)) = true := decide_eq_true c14
        clear c14
        obtain ⟨ji15, hji15⟩ : ∃ j_ : Int, (shl .i64 1 (ji13)) = j_ := ⟨_, rfl⟩
        replace H : (impl_MaskAt.l0 k1 l0 a1 (Go.bits .or .i64 x9_1 (ji15)) (wrap64 (x19_1 + 1)) t170 t171 t172 t173 t174 t175 t176 t177) = some r := by first | (rw [hji15] at H; exact H) | (simp only [hji15] at H ⊢; exact H)
        (try rw [hji15] at A11)
        have hji15_ : (IntKind.i64.wrap (1 * 2 ^ min (ji13).toNat 64)) = ji15 := hji15
        have hji15z : (ji13) ≤ 64 → (IntKind.i64.wrap (1 * 2 ^ (ji13).toNat)) = ji15 := shl_small hji15
        have hji15u : (IntKind.i64.wrap (2 ^ min (ji13).toNat 64)) = ji15 := by have h_ := hji15_; rw [Int.one_mul] at h_; exact h_
        have hji15v : (ji13) ≤ 64 → (IntKind.i64.wrap (2 ^ (ji13).toNat)) = ji15 := fun hle_ => by have h_ := hji15z hle_; rw [Int.one_mul] at h_; exact h_
        have hji15y : (wrap64 (1 * 2 ^ min (ji13).toNat 64)) = ji15 := (i64_w _).symm.trans hji15_
        have hji15x : (ji13) ≤ 64 → (wrap64 (1 * 2 ^ (ji13).toNat)) = ji15 := fun h_ => (i64_w _).symm.trans (hji15z h_)
        have H' := Aside0.mk H
        clear H
        go_wp2_with (first | ((with_reducible refine gate_index (t := 123) rfl ?_); refine index_two rfl (t := 123) (e := 42) rfl Try.underlying123 Try.underlying42 rfl (show (Try.prog.info? 42).map (·.size) = some 2 by kernel_rfl) rfl rfl z6_2 z6_2 ?_) | ((with_reducible refine gate_dst (N := 11) rfl ?_); refine boxz (cs := #[.int .i64 0, .int .i64 0]) (t := 42) rfl ?_; intro gb178 hg w16 hbox hb; have n0_ := Aside0.mk (below_step z6_0 hb); have n1_ := Aside0.mk (hbox); have n2_ := Aside0.mk ((by rw [hg]; exact (below_size z6_0) : w.heap.size ≤ gb178)); have n3_ := Aside0.mk ((by rw [hg]; exact (below_size z6_0) : w.heap.size ≤ gb178)); clear HB; have HB := n0_; have BK178 := n1_; have GW178 := n2_; have GE178 := n3_; clear n0_ n1_ n2_ n3_; clear hb hbox hg; have hcz17_0 : w16.cell? ⟨gb178, 0, none⟩ = some (.int .i64 0) := (blk_cell BK178.out 0).trans rfl; have hcz17_1 : w16.cell? ⟨gb178, 1, none⟩ = some (.int .i64 0) := (blk_cell BK178.out 1).trans rfl; have hfz17_0 := blk_frozen BK178.out 0; have hfz17_1 := blk_frozen BK178.out 1) | ((with_reducible refine gate_callee (f := 28) rfl ?_); refine goesL_ (some 26) rfl rfl Try.func28 (by kernel_rfl) rfl #[.slice A0 l0.length c0, .bool a1, .agg #[.int .i64 (ix4 x19_1 t170 t172 t174 t176), .int .i64 (ix4 x19_1 t171 t173 t175 t177)]] rfl z6_1 ?_; (with_reducible refine (impl_Covers.calls k1 _ _ l0 a1 (ix4 x19_1 t170 t172 t174 t176) (ix4 x19_1 t171 t173 t175 t177) true _ ?side1 ?side2 A11.out).mono ?_); (case side1 => exact Kd.C_below HR0.out z6_4); (case side2 => exact HC0.out); rintro e w18 ⟨rfl, hb⟩; refine ⟨_, rfl, ?_⟩; have n0_ := Aside0.mk (blk_below (g := gb178) (o := .cells #[.int .i64 (ix4 x19_1 t170 t172 t174 t176), .int .i64 (ix4 x19_1 t171 t173 t175 t177)] 42 (0, 0)) z6_8 hb); have n1_ := Aside0.mk (below_step z6_4 hb); clear BK178; clear HB; have BK178 := n0_; have HB := n1_; clear n0_ n1_; (try clear hb)))
        go_roundg k1
        case measure => have := HK1.out; omega
        case rel => exact ⟨(Go.bits .or .i64 x9_1 (ji15)), (wrap64 (x19_1 + 1)), (by first | rfl | (simp; done) | (simp only [← hji15] <;> (first | rfl | simp)) | (simp [*]; done)), (by first | rfl | (simp; done) | (simp [*]; done)), H', ⟨by have := HK1.out; omega⟩, ⟨by repeat (first | (with_reducible first | exact HB.out | apply below_alloc | apply pw_below_drewN | apply below_drew1 | refine below_set ?_ GE178.out) | exact HB.out)⟩⟩
       ·rw [if_neg c14] at H
        exact absurd H (by simp)
      ·replace c12 := Bool.eq_false_iff.mpr c12
       subst c12
       have H1 : (impl_MaskAt.l0 k1 l0 a1 x9_1 (wrap64 (x19_1 + 1)) t170 t171 t172 t173 t174 t175 t176 t177) = some r := by rw [if_neg (show ¬ (false = true) by decide)] at H; exact H
       clear H; have H := H1; clear H1
       have H' := Aside0.mk H
       clear H
       go_wp2_with (first | ((with_reducible refine gate_index (t := 123) rfl ?_); refine index_two rfl (t := 123) (e := 42) rfl Try.underlying123 Try.underlying42 rfl (show (Try.prog.info? 42).map (·.size) = some 2 by kernel_rfl) rfl rfl z6_2 z6_2 ?_) | ((with_reducible refine gate_dst (N := 11) rfl ?_); refine boxz (cs := #[.int .i64 0, .int .i64 0]) (t := 42) rfl ?_; intro gb178 hg w19 hbox hb; have n0_ := Aside0.mk (below_step z6_0 hb); have n1_ := Aside0.mk (hbox); have n2_ := Aside0.mk ((by rw [hg]; exact (below_size z6_0) : w.heap.size ≤ gb178)); have n3_ := Aside0.mk ((by rw [hg]; exact (below_size z6_0) : w.heap.size ≤ gb178)); clear HB; have HB := n0_; have BK178 := n1_; have GW178 := n2_; have GE178 := n3_; clear n0_ n1_ n2_ n3_; clear hb hbox hg; have hcz20_0 : w19.cell? ⟨gb178, 0, none⟩ = some (.int .i64 0) := (blk_cell BK178.out 0).trans rfl; have hcz20_1 : w19.cell? ⟨gb178, 1, none⟩ = some (.int .i64 0) := (blk_cell BK178.out 1).trans rfl; have hfz20_0 := blk_frozen BK178.out 0; have hfz20_1 := blk_frozen BK178.out 1) | ((with_reducible refine gate_callee (f := 28) rfl ?_); refine goesL_ (some 26) rfl rfl Try.func28 (by kernel_rfl) rfl #[.slice A0 l0.length c0, .bool a1, .agg #[.int .i64 (ix4 x19_1 t170 t172 t174 t176), .int .i64 (ix4 x19_1 t171 t173 t175 t177)]] rfl z6_1 ?_; (with_reducible refine (impl_Covers.calls k1 _ _ l0 a1 (ix4 x19_1 t170 t172 t174 t176) (ix4 x19_1 t171 t173 t175 t177) false _ ?side1 ?side2 A11.out).mono ?_); (case side1 => exact Kd.C_below HR0.out z6_4); (case side2 => exact HC0.out); rintro e w21 ⟨rfl, hb⟩; refine ⟨_, rfl, ?_⟩; have n0_ := Aside0.mk (blk_below (g := gb178) (o := .cells #[.int .i64 (ix4 x19_1 t170 t172 t174 t176), .int .i64 (ix4 x19_1 t171 t173 t175 t177)] 42 (0, 0)) z6_8 hb); have n1_ := Aside0.mk (below_step z6_4 hb); clear BK178; clear HB; have BK178 := n0_; have HB := n1_; clear n0_ n1_; (try clear hb)))
       go_roundg k1
       case measure => have := HK1.out; omega
       case rel => exact ⟨(x9_1), (wrap64 (x19_1 + 1)), (by first | rfl | (simp; done) | (simp [*]; done)), (by first | rfl | (simp; done) | (simp [*]; done)), H', ⟨by have := HK1.out; omega⟩, ⟨by repeat (first | (with_reducible first | exact HB.out | apply below_alloc | apply pw_below_drewN | apply below_drew1 | refine below_set ?_ GE178.out) | exact HB.out)⟩⟩
     ·rw [if_neg c10] at H
      exact absurd H (by simp)
    ·rw [if_neg c9] at H
     have c9b0 : decide (x19_1 < 4) = false := decide_eq_false c9
     clear c9
     obtain rfl := Option.some.inj H
     simp only [Option.some.injEq, Prod.mk.injEq] at H
     obtain ⟨rfl⟩ := H
     go_wp2_with (first | ((with_reducible refine gate_index (t := 123) rfl ?_); refine index_two rfl (t := 123) (e := 42) rfl Try.underlying123 Try.underlying42 rfl (show (Try.prog.info? 42).map (·.size) = some 2 by kernel_rfl) rfl rfl z6_2 z6_2 ?_))
     go_ret
     exact ⟨z6_7, z6_0⟩
 ·replace c6 := Bool.eq_false_iff.mpr c6
  subst c6
  have H1 : (some 0) = some r := by rw [if_neg (show ¬ (false = true) by decide)] at H; exact H
  clear H; have H := H1; clear H1
  obtain rfl := Option.some.inj H
  simp only [Option.some.injEq, Prod.mk.injEq] at H
  obtain ⟨rfl⟩ := H
  go_enter Try.func46, Try.ntmps46
  go_wp2_with (first | ((with_reducible refine gate_index (t := 123) rfl ?_); refine index_two rfl (t := 123) (e := 42) rfl Try.underlying123 Try.underlying42 rfl (show (Try.prog.info? 42).map (·.size) = some 2 by kernel_rfl) rfl rfl z6_2 z6_2 ?_) | ((with_reducible refine gate_callee (f := 107) rfl ?_); refine goesL_ (some 14) rfl rfl Try.func107 (by kernel_rfl) rfl #[.int .i64 a2, .int .i64 a3] rfl z6_1 ?_; (with_reducible refine (impl_isSquare.calls a2 a3 false _ A5.out).mono ?_); rintro e w' ⟨rfl, ⟨nd, rfl⟩⟩; refine ⟨_, rfl, ?_⟩))
  go_ret
  exact ⟨z6_7, z6_0⟩

/-! ### laws_FnExactMaskAt: function 9 -/
def laws_FnExactMaskAt.f (k : Nat) (l0 : List (List (S38))) (a1 : Bool) (a2 : Int) (a3 : Int) : Option (Bool) := (laws_szPointSS.f k l0 1048576).bind fun t180 => (if t180 < 0 then (some true) else ((laws_toPointSS.f k l0).bind fun t181 => ((spec_MaskAt.f k t181 a1 a2 a3).bind fun t184 => ((laws_toPointSS.f k l0).bind fun t185 => ((impl_MaskAt.f k t185 a1 a2 a3).bind fun t188 => (if t188 = t184 then ((laws_toPointSS.f k l0).bind fun t189 => ((laws_eqPointSS.f k t185 t189).bind fun t192 => (if t192 = true then (some true) else (some false)))) else (some false)))))))
theorem laws_FnExactMaskAt.mono : ∀ a0 a1 a2 a3 k, LeO (laws_FnExactMaskAt.f k a0 a1 a2 a3) (laws_FnExactMaskAt.f (k + 1) a0 a1 a2 a3) := by
 intro a0 a1 a2 a3 k
 unfold laws_FnExactMaskAt.f
 repeat' first
   | (with_reducible exact impl_MaskAt.mono _ _ _ _ _)
   | (with_reducible exact laws_eqPointSS.mono _ _ _)
   | (with_reducible exact laws_szPointSS.mono _ _ _)
   | (with_reducible exact laws_toPointSS.mono _ _)
   | (with_reducible exact spec_MaskAt.mono _ _ _ _ _)
   | (with_reducible exact LeO.refl _)
   | (with_reducible exact LeO.none _)
   | (with_reducible refine LeO.ite ?_ ?_)
   | (with_reducible refine LeO.bind ?_ (fun _ => ?_))
   | exact impl_MaskAt.mono _ _ _ _ _
   | exact laws_eqPointSS.mono _ _ _
   | exact laws_szPointSS.mono _ _ _
   | exact laws_toPointSS.mono _ _
   | exact spec_MaskAt.mono _ _ _ _ _
   | exact LeO.none _
   | refine LeO.ite ?_ ?_
   | refine LeO.bind ?_ (fun _ => ?_)
set_option maxHeartbeats 8000000 in
set_option maxRecDepth 100000 in
theorem laws_FnExactMaskAt.calls (k : Nat) (A0 : Option Addr) (c0 : Nat) (l0 : List (List (S38))) (a1 : Bool) (a2 : Int) (a3 : Int) (r : Bool) (w : World) (hr0 : Kd.C (Kd.slice 38 k38) w A0 l0.length l0) (hc0 : l0.length ≤ c0) (hT : r = true) (h : laws_FnExactMaskAt.f k l0 a1 a2 a3 = some r) :
  Calls Try.prog 9 #[.slice A0 l0.length c0, .bool a1, .int .i64 a2, .int .i64 a3] w fun e w' => e = .returned (.bool r) ∧ Below w.heap.size w w' := by
 have HR0 := Aside0.mk hr0
 have HC0 := Aside0.mk hc0
 clear hr0 hc0
 have HB := Aside0.mk (Below.refl w.heap.size w)
 have H : ((laws_szPointSS.f k l0 1048576).bind fun t180 => (if t180 < 0 then (some true) else ((laws_toPointSS.f k l0).bind fun t181 => ((spec_MaskAt.f k t181 a1 a2 a3).bind fun t184 => ((laws_toPointSS.f k l0).bind fun t185 => ((impl_MaskAt.f k t185 a1 a2 a3).bind fun t188 => (if t188 = t184 then ((laws_toPointSS.f k l0).bind fun t189 => ((laws_eqPointSS.f k t185 t189).bind fun t192 => (if t192 = true then (some true) else (some false)))) else (some false)))))))) = some r := h
 clear h
 replace H := Option.bind_eq_some_iff.mp H
 obtain ⟨t180, A50, H⟩ := H
 try dsimp only at H
 have A5 := Aside0.mk A50
 clear A50
 by_cases c6 : t180 < 0
 ·rw [if_pos c6] at H
  have c6b0 : decide (t180 < 0) = true := decide_eq_true c6
  clear c6
  obtain rfl := Option.some.inj H
  simp only [Option.some.injEq, Prod.mk.injEq] at H
  obtain ⟨rfl⟩ := H
  go_enter Try.func9, Try.ntmps9
  go_wp2_with (first | ((with_reducible refine gate_callee (f := 24) rfl ?_); refine goesL_ (some 15) rfl rfl Try.func24 (by kernel_rfl) rfl #[.slice A0 l0.length c0, .int .i64 1048576] rfl z6_1 ?_; (with_reducible refine (laws_szPointSS.calls k _ _ l0 1048576 t180 _ ?side1 ?side2 A5.out).mono ?_); (case side1 => exact z6_6); (case side2 => exact HC0.out); rintro e w' ⟨rfl, ⟨nd, rfl⟩⟩; refine ⟨_, rfl, ?_⟩))
  go_ret
  exact ⟨z6_7, z6_0⟩
 ·rw [if_neg c6] at H
  have c6b0 : decide (t180 < 0) = false := decide_eq_false c6
  clear c6
  replace H := Option.bind_eq_some_iff.mp H
  obtain ⟨t181, A70, H⟩ := H
  try dsimp only at H
  have A7 := Aside0.mk A70
  clear A70
  replace H := Option.bind_eq_some_iff.mp H
  obtain ⟨t184, A80, H⟩ := H
  try dsimp only at H
  have A8 := Aside0.mk A80
  clear A80
  replace H := Option.bind_eq_some_iff.mp H
  obtain ⟨t185, A90, H⟩ := H
  try dsimp only at H
  have A9 := Aside0.mk A90
  clear A90
  replace H := Option.bind_eq_some_iff.mp H
  obtain ⟨t188, A100, H⟩ := H
  try dsimp only at H
  have A10 := Aside0.mk A100
  clear A100
  by_cases c11 : t188 = t184
  ·rw [if_pos c11] at H
   have c11b0 : (t188 == t184) = true := beq_iff_eq.mpr c11
   have c11b1 : (t188 != t184) = false := bne_eq_false_iff_eq.mpr c11
   clear c11
   replace H := Option.bind_eq_some_iff.mp H
   obtain ⟨t189, A120, H⟩ := H
   try dsimp only at H
   have A12 := Aside0.mk A120
   clear A120
   replace H := Option.bind_eq_some_iff.mp H
   obtain ⟨t192, A130, H⟩ := H
   try dsimp only at H
   have A13 := Aside0.mk A130
   clear A130
   by_cases c14 : t192 = true
   ·subst c14
    have H1 : (some true) = some r := by rw [if_pos rfl] at H; exact H
    clear H; have H := H1; clear H1
    obtain rfl := Option.some.inj H
    simp only [Option.some.injEq, Prod.mk.injEq] at H
    obtain ⟨rfl⟩ := H
    go_enter Try.func9, Try.ntmps9
    go_wp2_with (first | ((with_reducible refine gate_callee (f := 24) rfl ?_); refine goesL_ (some 15) rfl rfl Try.func24 (by kernel_rfl) rfl #[.slice A0 l0.length c0, .int .i64 1048576] rfl z6_1 ?_; (with_reducible refine (laws_szPointSS.calls k _ _ l0 1048576 t180 _ ?side1 ?side2 A5.out).mono ?_); (case side1 => exact z6_6); (case side2 => exact HC0.out); rintro e w' ⟨rfl, ⟨nd, rfl⟩⟩; refine ⟨_, rfl, ?_⟩) | ((with_reducible refine gate_callee (f := 26) rfl ?_); refine goesL_ (some 19) rfl rfl Try.func26 (by kernel_rfl) rfl #[.slice A0 l0.length c0] rfl z6_1 ?_; (with_reducible refine (laws_toPointSS.calls k _ _ l0 t181 _ ?side1 ?side2 A7.out).mono ?_); (case side1 => exact z6_6); (case side2 => exact HC0.out); rintro e w15 ⟨v182, rfl, ho0, hb⟩; refine ⟨_, rfl, ?_⟩; have n0_ := Aside0.mk (Kd.S_lower ho0 (below_size z6_0)); have n1_ := Aside0.mk (below_step z6_0 hb); clear HB; have HO183 := n0_; have HB := n1_; clear n0_ n1_; (try clear hb); (try clear ho0); obtain ⟨Ao16, co16, eo16⟩ := Kd.S_slice HO183.out; subst eo16) | ((with_reducible refine gate_callee (f := 45) rfl ?_); refine goesL_ (some 23) rfl rfl Try.func45 (by kernel_rfl) rfl #[.slice Ao16 t181.length co16, .bool a1, .int .i64 a2, .int .i64 a3] rfl z6_1 ?_; (with_reducible refine (spec_MaskAt.calls k _ _ t181 a1 a2 a3 t184 _ ?side1 ?side2 A8.out).mono ?_); (case side1 => repeat (first | exact (Kd.S_reads' HO183.out).2.2 | (with_reducible refine Kd.C_alloc ?_ _) | (with_reducible refine Kd.C_drewN ?_ _) | (with_reducible refine Kd.C_drew ?_))); (case side2 => exact (Kd.S_reads' HO183.out).2.1); rintro e w17 ⟨rfl, hb⟩; refine ⟨_, rfl, ?_⟩; have n0_ := Aside0.mk (Kd.S_below z6_3 hb); have n1_ := Aside0.mk (below_step z6_0 hb); clear HO183; clear HB; have HO183 := n0_; have HB := n1_; clear n0_ n1_; (try clear hb)) | ((with_reducible refine gate_callee (f := 26) rfl ?_); refine goesL_ (some 25) rfl rfl Try.func26 (by kernel_rfl) rfl #[.slice A0 l0.length c0] rfl z6_1 ?_; (with_reducible refine (laws_toPointSS.calls k _ _ l0 t185 _ ?side1 ?side2 A9.out).mono ?_); (case side1 => exact z6_9); (case side2 => exact HC0.out); rintro e w18 ⟨v186, rfl, ho0, hb⟩; refine ⟨_, rfl, ?_⟩; have n0_ := Aside0.mk (Kd.S_elder' z6_3 (Kd.S_base ho0) hb); have n1_ := Aside0.mk (Kd.S_lower (Kd.S_new' ho0 (Kd.S_lt z6_3)) (below_size z6_0)); have n2_ := Aside0.mk (below_step z6_0 hb); clear HO183; clear HB; have HO183 := n0_; have HO187 := n1_; have HB := n2_; clear n0_ n1_ n2_; (try clear hb); (try clear ho0); obtain ⟨Ao19, co19, eo19⟩ := Kd.S_slice HO187.out; subst eo19) | ((with_reducible refine gate_callee (f := 46) rfl ?_); refine goesL_ (some 30) rfl rfl Try.func46 (by kernel_rfl) rfl #[.slice Ao19 t185.length co19, .bool a1, .int .i64 a2, .int .i64 a3] rfl z6_1 ?_; (with_reducible refine (impl_MaskAt.calls k _ _ t185 a1 a2 a3 t188 _ ?side1 ?side2 A10.out).mono ?_); (case side1 => exact z6_10); (case side2 => exact (Kd.S_reads' HO187.out).2.1); rintro e w20 ⟨rfl, hb⟩; refine ⟨_, rfl, ?_⟩; have n0_ := Aside0.mk (Kd.S_below z6_3 hb); have n1_ := Aside0.mk (Kd.S_below z6_5 hb); have n2_ := Aside0.mk (below_step z6_0 hb); clear HO183; clear HO187; clear HB; have HO183 := n0_; have HO187 := n1_; have HB := n2_; clear n0_ n1_ n2_; (try clear hb)) | ((with_reducible refine gate_callee (f := 26) rfl ?_); refine goesL_ (some 36) rfl rfl Try.func26 (by kernel_rfl) rfl #[.slice A0 l0.length c0] rfl z6_1 ?_; (with_reducible refine (laws_toPointSS.calls k _ _ l0 t189 _ ?side1 ?side2 A12.out).mono ?_); (case side1 => exact z6_9); (case side2 => exact HC0.out); rintro e w21 ⟨v190, rfl, ho0, hb⟩; refine ⟨_, rfl, ?_⟩; have n0_ := Aside0.mk (Kd.S_elder' z6_3 (Kd.S_base ho0) hb); have n1_ := Aside0.mk (Kd.S_elder' z6_5 (Kd.S_base ho0) hb); have n2_ := Aside0.mk (Kd.S_lower (Kd.S_new' (Kd.S_new' ho0 (Kd.S_lt z6_3)) (Kd.S_lt z6_5)) (below_size z6_0)); have n3_ := Aside0.mk (below_step z6_0 hb); clear HO183; clear HO187; clear HB; have HO183 := n0_; have HO187 := n1_; have HO191 := n2_; have HB := n3_; clear n0_ n1_ n2_ n3_; (try clear hb); (try clear ho0); obtain ⟨Ao22, co22, eo22⟩ := Kd.S_slice HO191.out; subst eo22) | ((with_reducible refine gate_callee (f := 29) rfl ?_); refine goesL_ (some 37) rfl rfl Try.func29 (by kernel_rfl) rfl #[.slice Ao19 t185.length co19, .slice Ao22 t189.length co22] rfl z6_1 ?_; (with_reducible refine (laws_eqPointSS.calls k _ _ t185 _ _ t189 true _ ?side1 ?side2 ?side3 ?side4 A13.out).mono ?_); (case side1 => exact z6_10); (case side2 => exact (Kd.S_reads' HO187.out).2.1); (case side3 => repeat (first | exact (Kd.S_reads' HO191.out).2.2 | (with_reducible refine Kd.C_alloc ?_ _) | (with_reducible refine Kd.C_drewN ?_ _) | (with_reducible refine Kd.C_drew ?_))); (case side4 => exact (Kd.S_reads' HO191.out).2.1); rintro e w23 ⟨rfl, hb⟩; refine ⟨_, rfl, ?_⟩; have n0_ := Aside0.mk (Kd.S_below z6_3 hb); have n1_ := Aside0.mk (Kd.S_below z6_5 hb); have n2_ := Aside0.mk (Kd.S_below (by (with_reducible repeat (first | apply Kd.S_alloc | apply Kd.S_drewN | apply Kd.S_drew)); exact HO191.out) hb); have n3_ := Aside0.mk (below_step z6_0 hb); clear HO183; clear HO187; clear HO191; clear HB; have HO183 := n0_; have HO187 := n1_; have HO191 := n2_; have HB := n3_; clear n0_ n1_ n2_ n3_; (try clear hb)))
    go_ret
    exact ⟨z6_7, z6_0⟩
   ·replace c14 := Bool.eq_false_iff.mpr c14
    subst c14
    have H1 : (some false) = some r := by rw [if_neg (show ¬ (false = true) by decide)] at H; exact H
    clear H; have H := H1; clear H1
    obtain rfl := Option.some.inj H
    exact absurd hT Bool.false_ne_true
  ·rw [if_neg c11] at H
   have c11b0 : (t188 == t184) = false := beq_eq_false_iff_ne.mpr c11
   have c11b1 : (t188 != t184) = true := bne_iff_ne.mpr c11
   obtain rfl := Option.some.inj H
   exact absurd hT Bool.false_ne_true

end Go.Proofs.Ytndeonfbolookaa.MFnExactMaskAt
