/- Functions of the program as Lean functions, and the proof that a call comes to just these: machine text of this session's own program (myprint.py). -/
import Derived.Test.YtdpnimngndemiaaMFnFlatsx0
import Derived.Test.YtdpnimngndemiaaMFnFlatsx7
namespace Go.Proofs.Ytdpnimngndemiaa.MFnFlats
open Go.RowKit Go.Proofs.YtdpnimngndemiaaW.PrintWords Go.Proofs.YtdpnimngndemiaaW.PrintLast Go.Proofs.YtdpnimngndemiaaW.PrintMore
attribute [local go_sem] max2_int min2_int max_two min_two max_three min_three max_four min_four   -- for this text's walks alone
set_option linter.unusedVariables false
set_option linter.unusedSimpArgs false

theorem x8_put {P : Prop} (h : P := by simp only [Act.put, List.setIfInBounds_toArray, List.set_cons_zero, List.set_cons_succ, i64_w, i32_w]; rfl) : P := h
theorem z8_1 {P : Prop} (h : P := by repeat (first | (with_reducible first | exact HB.out | apply below_alloc | apply pw_below_drewN | apply below_drew1 | refine below_set ?_ GE256.out) | exact HB.out)) : P := h
theorem z8_2 {P : Prop} (h : P := by first | (rw [hy_]; with_reducible exact H) | (have H2_ := (Option.bind_some _ _).symm.trans H; rw [hy_]; with_reducible exact H2_) | (have H2_ := (Option.bind_some _ _).symm.trans H; with_reducible exact H2_) | with_reducible exact H | (rw [hy_]; exact H) | exact H) : P := h
theorem z8_3 {P : Prop} (h : P := by first | rfl | (simp [errW_none, errW_some] <;> rfl) | (simp [*, errW_none, errW_some] <;> rfl)) : P := h
theorem z8_4 {P : Prop} (h : P := by (with_reducible repeat (first | apply Kd.R_alloc | apply Kd.R_drewN | apply Kd.R_drew)); exact Kd.R_mono HO_7.out (fun _ hk => trivial)) : P := h
theorem z8_5 {P : Prop} (h : P := by repeat (first | (with_reducible first | exact HB.out | apply below_alloc | apply pw_below_drewN | apply below_drew1) | exact HB.out)) : P := h
theorem z8_6 {P : Prop} (h : P := by first | exact Kd.R_nil _ _ _ _ _ | exact Kd.N_nil _ _ _ _ _ | exact Kd.V_nil _ _ _ _ _ | exact Kd.Q_nil _ _ _ _ _ | exact Kd.S_nil _ _ _ _ _) : P := h
theorem z8_7 {P : Prop} (h : P := by (try simp only [List.map_toArray, List.map_cons, List.map_nil]); first | done | rfl | (simp only [List.length_drop, List.length_take]; rfl)) : P := h
/-! ### impl_flatten: function 29 -/
mutual
def impl_flatten.j0 : Nat → List (S46) → List (S46) → Int → Bool → Int → Int → Option ((List (S46)))
 | 0, _, _, _, _, _, _ => none
 | k + 1, x2, x7, x10, x11, x257000, x257001 => if x11 = true then (if 0 < (x2.length : Int) then (if x7.length < 8796093022208 then (some (x7 ++ [(⟨(rd_T46 x2 0).f0, (rd_T46 x2 0).f1⟩ : S46)])) else (none)) else (none)) else (if x10 = 3 then (impl_flatten.l0 k x2 x7 1 x257000 x257001) else (if x10 = 4 then (impl_flatten.l1 k x2 x7 1 x257000 x257001) else (some x7)))
def impl_flatten.l0 : Nat → List (S46) → List (S46) → Int → Int → Int → Option ((List (S46)))
 | 0, _, _, _, _, _ => none
 | k + 1, x2, x7, x8, x257000, x257001 => if x8 ≤ 4 then (if 0 < (x2.length : Int) then (if 1 < (x2.length : Int) then ((impl_QuadAt.f k x257000 x257001 ((rd_T46 x2 0).f0) ((rd_T46 x2 0).f1) ((rd_T46 x2 1).f0) ((rd_T46 x2 1).f1) x8).bind fun bt263 => (if x7.length < 8796093022208 then (impl_flatten.l0 k x2 (x7 ++ [(⟨bt263.1, bt263.2⟩ : S46)]) (wrap64 (x8 + 1)) x257000 x257001) else (none))) else (none)) else (none)) else (some x7)
def impl_flatten.l1 : Nat → List (S46) → List (S46) → Int → Int → Int → Option ((List (S46)))
 | 0, _, _, _, _, _ => none
 | k + 1, x2, x7, x9, x257000, x257001 => if x9 ≤ 8 then (if 0 < (x2.length : Int) then (if 1 < (x2.length : Int) then (if 2 < (x2.length : Int) then ((impl_CubicAt.f k x257000 x257001 ((rd_T46 x2 0).f0) ((rd_T46 x2 0).f1) ((rd_T46 x2 1).f0) ((rd_T46 x2 1).f1) ((rd_T46 x2 2).f0) ((rd_T46 x2 2).f1) x9).bind fun bt271 => (if x7.length < 8796093022208 then (impl_flatten.l1 k x2 (x7 ++ [(⟨bt271.1, bt271.2⟩ : S46)]) (wrap64 (x9 + 1)) x257000 x257001) else (none))) else (none)) else (none)) else (none)) else (some x7)
end
def impl_flatten.f (k : Nat) (a0 : Int) (a1_0 : Int) (a1_1 : Int) (l2 : List (S46)) : Option ((List (S46))) := if a0 = 1 then (impl_flatten.j0 k l2 ([] : List (S46)) a0 (a0 == 1) a1_0 a1_1) else (impl_flatten.j0 k l2 ([] : List (S46)) a0 (a0 == 2) a1_0 a1_1)
theorem impl_flatten.mono_l : ∀ k, (∀ y0 y1 y2 y3 y4 y5, LeO (impl_flatten.j0 k y0 y1 y2 y3 y4 y5) (impl_flatten.j0 (k + 1) y0 y1 y2 y3 y4 y5)) ∧ (∀ y0 y1 y2 y3 y4, LeO (impl_flatten.l0 k y0 y1 y2 y3 y4) (impl_flatten.l0 (k + 1) y0 y1 y2 y3 y4)) ∧ (∀ y0 y1 y2 y3 y4, LeO (impl_flatten.l1 k y0 y1 y2 y3 y4) (impl_flatten.l1 (k + 1) y0 y1 y2 y3 y4))
 | 0 => ⟨fun _ _ _ _ _ _ r h => by simp [impl_flatten.j0] at h, fun _ _ _ _ _ r h => by simp [impl_flatten.l0] at h, fun _ _ _ _ _ r h => by simp [impl_flatten.l1] at h⟩
 | k + 1 => by
  obtain ⟨ih0, ih1, ih2⟩ := impl_flatten.mono_l k
  refine ⟨?_, ?_, ?_⟩
  ·intro y0 y1 y2 y3 y4 y5
   unfold impl_flatten.j0
   repeat' first
   | (with_reducible exact ih0 _ _ _ _ _ _)
   | (with_reducible exact ih1 _ _ _ _ _)
   | (with_reducible exact ih2 _ _ _ _ _)
   | (with_reducible exact impl_CubicAt.mono _ _ _ _ _ _ _ _ _ _)
   | (with_reducible exact impl_QuadAt.mono _ _ _ _ _ _ _ _)
   | (with_reducible exact LeO.refl _)
   | (with_reducible exact LeO.none _)
   | (with_reducible refine LeO.ite ?_ ?_)
   | (with_reducible refine LeO.bind ?_ (fun _ => ?_))
  ·intro y0 y1 y2 y3 y4
   unfold impl_flatten.l0
   repeat' first
   | (with_reducible exact ih0 _ _ _ _ _ _)
   | (with_reducible exact ih1 _ _ _ _ _)
   | (with_reducible exact ih2 _ _ _ _ _)
   | (with_reducible exact impl_CubicAt.mono _ _ _ _ _ _ _ _ _ _)
   | (with_reducible exact impl_QuadAt.mono _ _ _ _ _ _ _ _)
   | (with_reducible exact LeO.refl _)
   | (with_reducible exact LeO.none _)
   | (with_reducible refine LeO.ite ?_ ?_)
   | (with_reducible refine LeO.bind ?_ (fun _ => ?_))
  ·intro y0 y1 y2 y3 y4
   unfold impl_flatten.l1
   repeat' first
   | (with_reducible exact ih0 _ _ _ _ _ _)
   | (with_reducible exact ih1 _ _ _ _ _)
   | (with_reducible exact ih2 _ _ _ _ _)
   | (with_reducible exact impl_CubicAt.mono _ _ _ _ _ _ _ _ _ _)
   | (with_reducible exact impl_QuadAt.mono _ _ _ _ _ _ _ _)
   | (with_reducible exact LeO.refl _)
   | (with_reducible exact LeO.none _)
   | (with_reducible refine LeO.ite ?_ ?_)
   | (with_reducible refine LeO.bind ?_ (fun _ => ?_))
theorem impl_flatten.mono : ∀ a0 a1 a2 a3 k, LeO (impl_flatten.f k a0 a1 a2 a3) (impl_flatten.f (k + 1) a0 a1 a2 a3) := by
 intro a0 a1 a2 a3 k
 obtain ⟨ih0, ih1, ih2⟩ := impl_flatten.mono_l k
 unfold impl_flatten.f
 repeat' first
   | (with_reducible exact ih0 _ _ _ _ _ _)
   | (with_reducible exact ih1 _ _ _ _ _)
   | (with_reducible exact ih2 _ _ _ _ _)
   | (with_reducible exact impl_CubicAt.mono _ _ _ _ _ _ _ _ _ _)
   | (with_reducible exact impl_QuadAt.mono _ _ _ _ _ _ _ _)
   | (with_reducible exact LeO.refl _)
   | (with_reducible exact LeO.none _)
   | (with_reducible refine LeO.ite ?_ ?_)
   | (with_reducible refine LeO.bind ?_ (fun _ => ?_))
def impl_flatten.T10 : Bool × List (List Nat × List Nat) := (true, [([], []), ([], []), ([], []), ([2], [2]), ([3], [3]), ([], []), ([5], [5]), ([6], [6]), ([], []), ([1, 4, 7, 8], [1, 4, 7, 8]), ([9], [9]), ([0, 10, 9], [0, 10]), ([11, 11, 0, 1, 2, 3, 4, 5, 6, 7, 8, 9, 10, 11], [0, 11])])
def impl_flatten.B10 : List Nat := [0, 0, 0, 4, 12, 0, 32, 96, 0, 510, 1022, 2047, 4095]
theorem impl_flatten.tab10 : rtab .any (opsOf Try.f29 10) = impl_flatten.T10 := by kernel_rfl
theorem impl_flatten.bits10 : waitsOk impl_flatten.T10.2 impl_flatten.B10 = true := by kernel_rfl
def impl_flatten.T15 : Bool × List (List Nat × List Nat) := (true, [([], []), ([], []), ([], []), ([2], [2]), ([3], [3]), ([], []), ([5], [5]), ([6], [6]), ([], []), ([8], [8]), ([9], [9]), ([], []), ([1, 4, 7, 10, 11], [1, 4, 7, 10, 11]), ([12], [12]), ([0, 13, 12], [0, 13]), ([14, 14, 0, 1, 2, 3, 4, 5, 6, 7, 8, 9, 10, 11, 12, 13, 14], [0, 14])])
def impl_flatten.B15 : List Nat := [0, 0, 0, 4, 12, 0, 32, 96, 0, 256, 768, 0, 4094, 8190, 16383, 32767]
theorem impl_flatten.tab15 : rtab .any (opsOf Try.f29 15) = impl_flatten.T15 := by kernel_rfl
theorem impl_flatten.bits15 : waitsOk impl_flatten.T15.2 impl_flatten.B15 = true := by kernel_rfl
set_option maxHeartbeats 8000000 in
set_option maxRecDepth 100000 in
theorem impl_flatten.calls (k : Nat) (a0 : Int) (a1_0 : Int) (a1_1 : Int) (A2 : Option Addr) (c2 : Nat) (l2 : List (S46)) (r : List (S46)) (w : World) (hr2 : Kd.C k46 w A2 l2.length l2) (hc2 : l2.length ≤ c2) (h : impl_flatten.f k a0 a1_0 a1_1 l2 = some r) :
  Calls Try.prog 29 #[.int .i64 a0, .agg #[.int .i64 a1_0, .int .i64 a1_1], .slice A2 l2.length c2] w fun e w' => ∃ v0_ : Value, e = .returned (v0_) ∧ Kd.R k46 46 w' w.heap.size (fun _ => True) v0_ r ∧ Below w.heap.size w w' := by
 have hu46 := Try.underlying46
 have HR2 := mk0 hr2
 have HC2 := mk0 hc2
 clear hr2 hc2
 have HB := mk0 (Below.refl w.heap.size w)
 have H : (if a0 = 1 then (impl_flatten.j0 k l2 ([] : List (S46)) a0 (a0 == 1) a1_0 a1_1) else (impl_flatten.j0 k l2 ([] : List (S46)) a0 (a0 == 2) a1_0 a1_1)) = some r := h
 clear h
 have HC4 := mk0 H
 clear H
 go_enter Try.func29, Try.ntmps29
 go_upto_if 11 with (first | ((with_reducible refine gate_dst (N := 4) rfl ?_); refine boxz (cs := #[.int .i64 a1_0, .int .i64 a1_1]) (t := 46) rfl ?_; intro gb256 hg w5 hbox hb; have n0_ := mk0 (below_step z8_5 hb); have n1_ := mk0 (hbox); have GW256 := mk0 (ge_go (a := w.heap.size) hg (below_size z8_5)); have GE256 := GW256; clear HB; have HB := n0_; have BK256 := n1_; clear n0_ n1_ ; clear hb hbox hg))
 (try simp only [Act.put, List.setIfInBounds_toArray, List.set_cons_zero, List.set_cons_succ])
 go_cut [11] (fun v11 wc => ∃ (kq : Nat) (x11_3 : Bool), v11 = .bool x11_3 ∧ Aside0 (impl_flatten.j0 kq l2 ([] : List (S46)) a0 x11_3 a1_0 a1_1 = some r) ∧ Aside0 (kq ≤ k) ∧ Aside0 (Kd.R k46 46 wc w.heap.size (fun k_ => k_ ≠ gb256) (.slice none 0 0) ([] : List (S46))) ∧ Aside0 (wc.heap[gb256]? = some (.cells #[.int .i64 a1_0, .int .i64 a1_1] 46 (0, 0))) ∧ Aside0 (Below w.heap.size w wc))
 case first =>
  have H := HC4.out; clear HC4
  by_cases c6 : a0 = 1
  rotate_left
  ·rw [if_neg c6] at H
   have c6b0 : (a0 == 1) = false := beq_eq_false_iff_ne.mpr c6
   have c6b1 : (a0 != 1) = true := bne_iff_ne.mpr c6
   (first | rw [c6b0] | (simp only [i64_w, i32_w]; rw [c6b0]) | skip)
   have H' := mk0 H
   clear H
   go_wp2
   go_meet
   case rel => exact ⟨_, ((a0 == 2)), rs0, H', ⟨(by first | omega | exact Nat.le_refl _)⟩, ⟨z8_6⟩, ⟨pkb BK256⟩, ⟨z8_1⟩⟩
  rw [if_pos c6] at H
  have c6b0 : (a0 == 1) = true := beq_iff_eq.mpr c6
  have c6b1 : (a0 != 1) = false := bne_eq_false_iff_eq.mpr c6
  clear c6
  (first | rw [c6b0] | (simp only [i64_w, i32_w]; rw [c6b0]) | skip)
  have H' := mk0 H
  clear H
  go_wp2
  go_meet
  case rel => exact ⟨_, ((a0 == 1)), rs0, H', ⟨(by first | omega | exact Nat.le_refl _)⟩, ⟨z8_6⟩, ⟨pkb BK256⟩, ⟨z8_1⟩⟩
 case rest =>
  clear HC4; try clear c2
  try clear p2
  try clear c6
  try clear c6b0
  try clear c6b1
  obtain ⟨kq, x11_3, rfl, HA, HJ3, HO_7, BK256, HB⟩ := hcut
  cases kq with
  | zero => exact absurd HA.out (by simp [impl_flatten.j0])
  | succ kj3 =>
   have H := HA.out; clear HA
   simp only [impl_flatten.j0] at H
   by_cases c7 : x11_3 = true
   ·subst c7
    rw [if_pos rfl] at H
    by_cases c8 : 0 < (l2.length : Int)
    rotate_left
    ·rw [if_neg c8] at H
     exact absurd H (by simp)
    rw [if_pos c8] at H
    have c8b0 := decide_eq_true c8
    have c8b1 : decide (0 < l2.length) = true := decide_eq_true (by omega)
    clear c8
    by_cases c9 : ([] : List (S46)).length < 8796093022208
    rotate_left
    ·rw [if_neg c9] at H
     exact absurd H (by simp)
    rw [if_pos c9] at H
    have LMc9 := mk0 c9
    clear c9
    obtain ⟨y258, hy_⟩ : ∃ y_ : List (S46), y_ = (([] : List (S46)) ++ [(⟨(rd_T46 l2 0).f0, (rd_T46 l2 0).f1⟩ : S46)]) := ⟨_, rfl⟩
    replace H : (some y258) = some r := z8_2
    have Ny258 := mk0 hy_
    clear hy_
    obtain rfl := Option.some.inj H
    simp only [Option.some.injEq, Prod.mk.injEq] at H
    obtain ⟨rfl⟩ := H
    have p257 : 0 ≤ (0 : Int) := (by omega)
    have q257 : 0 < (l2.length : Int) := of_decide_eq_true (by first | (with_reducible assumption) | assumption)
    obtain ⟨ad257, e257, hx257_0, hx257_1⟩ := at_T46 HR2.out 0 p257 q257
    cases e257
    have qi257 : (0 < l2.length) = True := eq_true (by omega)
    (try rw [show ((0 : Int)).toNat = 0 from rfl] at hx257_0)
    (try rw [show 0 * 2 = 0 from rfl] at hx257_0)
    (try rw [Addr.add_zero'] at hx257_0)
    (try rw [show ((0 : Int)).toNat = 0 from rfl] at hx257_1)
    (try rw [show 0 * 2 = 0 from rfl] at hx257_1)
    (try rw [Addr.add_zero'] at hx257_1)
    replace hx257_0 := cell_go HB hx257_0
    replace hx257_1 := cell_go HB hx257_1
    replace p257 := eq_true p257
    replace q257 := eq_true q257
    go_wp2_with (first | ((with_reducible refine gate_builtin (b := .append) (xs := #[.tmp 14, .tmp 18]) rfl ?_); at_builtin; refine Kd.R_append k46 (w0 := w) w.heap.size rfl (.tmp 14) (.tmp 18) 29 46 (.agg #[(.int .i64 0), (.int .i64 0)]) 16 rfl Try.underlying29 info46 rfl (by decide) (by omega) (.slice none 0 0) ([] : List (S46)) (⟨(rd_T46 l2 0).f0, (rd_T46 l2 0).f1⟩ : S46) [.int .i64 ((rd_T46 l2 0).f0), .int .i64 ((rd_T46 l2 0).f1)] (fun k_ => k_ ≠ gb256) (fun _ => False) rfl rfl ?aP (fun _ hk => hk.elim) ?aF ?aO ?aB ?aS ?aL ?_; (case aP => exact k46_mkM _ _ _ (⟨(rd_T46 l2 0).f0, (rd_T46 l2 0).f1⟩ : S46)); (case aB => exact z8_1); (case aF => exact (fun k_ hk => Kd.freshB (g := gb256) (o := .cells #[.int .i64 a1_0, .int .i64 a1_1] 46 (0, 0)) (pkb BK256) k_ hk)); (case aO => exact (pkR HO_7)); (case aS => exact (below_size z8_1)); (case aL => have := LMc9.out; omega); intro v259 w10 ho hb hg hat; rw [← Ny258.out] at ho; have n0_ := mk0 (blk_grown (g := gb256) (o := .cells #[.int .i64 a1_0, .int .i64 a1_1] 46 (0, 0)) (pkb BK256) hg (Kd.R_away HO_7.out (fun _ hk => hk))); have n1_ := mk0 (hb); have n2_ := mk0 (ho); clear BK256 HB HO_7; have BK256 := n0_; have HB := n1_; have HO260 := n2_; clear n0_ n1_ n2_ ho hb hg hat))
    go_ret
    exact ⟨_, z8_3, (by (with_reducible repeat (first | apply Kd.R_alloc | apply Kd.R_drewN | apply Kd.R_drew)); exact Kd.R_mono HO260.out (fun _ hk => trivial)), z8_1⟩
   replace c7 := Bool.eq_false_iff.mpr c7
   subst c7
   rw [if_neg (show ¬ (false = true) by decide)] at H
   by_cases c11 : a0 = 3
   ·rw [if_pos c11] at H
    have c11b0 : (a0 == 3) = true := beq_iff_eq.mpr c11
    have c11b1 : (a0 != 3) = false := bne_eq_false_iff_eq.mpr c11
    clear c11
    have H' := mk0 H
    clear H
    go_wp2
    go_loopg [7, 8] kj3 (fun kq v7 v8 w' => ∃ (x7_2 : List (S46)) (x8_2 : Int), v8 = .int .i64 x8_2 ∧ Aside0 (impl_flatten.l0 kq l2 x7_2 x8_2 a1_0 a1_1 = some r) ∧ Aside0 (kq ≤ kj3) ∧ Aside0 (Kd.R k46 46 w' w.heap.size (fun k_ => k_ ≠ gb256) v7 x7_2) ∧ Aside0 (w'.heap[gb256]? = some (.cells #[.int .i64 a1_0, .int .i64 a1_1] 46 (0, 0))) ∧ Aside0 (Below w.heap.size w w'))
    case atStart => exact ⟨(([] : List (S46))), (1), rs0, H', ⟨Nat.le_refl _⟩, ⟨pkR HO_7⟩, ⟨pkb BK256⟩, ⟨z8_1⟩⟩
    case round =>
     clear H'
     try clear c1
     try clear c2
     try clear p2
     try clear q2
     try clear hx2
     try clear qi2
     try clear c6
     try clear c6b0
     try clear c6b1
     try clear c7
     try clear c8
     try clear c8b0
     try clear c8b1
     try clear c9
     try clear c11
     try clear c11b0
     try clear c11b1
     try clear hx257_0
     try clear hx257_1
     try clear p2
     try clear p257
     try clear q257
     obtain ⟨x7_2, x8_2, rfl, HA, HK2, HO_7, BK256, HB⟩ := hrel
     cases gk with
     | zero => exact absurd HA.out (by simp [impl_flatten.l0])
     | succ k2 =>
      have H := HA.out; clear HA
      simp only [impl_flatten.l0] at H
      by_cases c12 : x8_2 ≤ 4
      rotate_left
      ·rw [if_neg c12] at H
       have c12b0 := decide_eq_false c12
       clear c12
       obtain rfl := Option.some.inj H
       simp only [Option.some.injEq, Prod.mk.injEq] at H
       obtain ⟨rfl⟩ := H
       go_wp2
       go_ret
       exact ⟨_, z8_3, z8_4, z8_1⟩
      rw [if_pos c12] at H
      have c12b0 := decide_eq_true c12
      clear c12
      by_cases c13 : 0 < (l2.length : Int)
      rotate_left
      ·rw [if_neg c13] at H
       exact absurd H (by simp)
      rw [if_pos c13] at H
      have c13b0 := decide_eq_true c13
      have c13b1 : decide (0 < l2.length) = true := decide_eq_true (by omega)
      clear c13
      by_cases c14 : 1 < (l2.length : Int)
      rotate_left
      ·rw [if_neg c14] at H
       exact absurd H (by simp)
      rw [if_pos c14] at H
      have c14b0 := decide_eq_true c14
      have c14b1 : decide (1 < l2.length) = true := decide_eq_true (by omega)
      clear c14
      replace H := Option.bind_eq_some_iff.mp H
      obtain ⟨⟨t263, t264⟩, A150, H⟩ := H
      try dsimp only at H
      have A15 := mk0 A150
      clear A150
      by_cases c16 : x7_2.length < 8796093022208
      rotate_left
      ·rw [if_neg c16] at H
       exact absurd H (by simp)
      rw [if_pos c16] at H
      have LMc16 := mk0 c16
      clear c16
      obtain ⟨y265, hy_⟩ : ∃ y_ : List (S46), y_ = (x7_2 ++ [(⟨t263, t264⟩ : S46)]) := ⟨_, rfl⟩
      replace H : (impl_flatten.l0 k2 l2 y265 (wrap64 (x8_2 + 1)) a1_0 a1_1) = some r := z8_2
      have Ny265 := mk0 hy_
      clear hy_
      have H' := mk0 H
      clear H
      try go_wp2
      have n0_ := mk0 (Kd.R_drew HO_7.out)
      have n1_ := mk0 (blk_drew BK256.out)
      have n2_ := mk0 (below_drew1 HB.out)
      clear HO_7 BK256 HB; have HO_7 := n0_; have BK256 := n1_; have HB := n2_; clear n0_ n1_ n2_
      have p261 : 0 ≤ (0 : Int) := (by omega)
      have q261 : 0 < (l2.length : Int) := of_decide_eq_true (by first | (with_reducible assumption) | assumption)
      obtain ⟨ad261, e261, hx261_0, hx261_1⟩ := at_T46 HR2.out 0 p261 q261
      have hw261_1 := hx261_1
      (try rw [show ((0 : Int)).toNat = 0 from rfl] at hw261_1)
      (try rw [show 0 * 2 = 0 from rfl] at hw261_1)
      (try rw [Addr.add_zero'] at hw261_1)
      have hw261_0 := hx261_0
      (try rw [show ((0 : Int)).toNat = 0 from rfl] at hw261_0)
      (try rw [show 0 * 2 = 0 from rfl] at hw261_0)
      (try rw [Addr.add_zero'] at hw261_0)
      cases e261
      have qi261 : (0 < l2.length) = True := eq_true (by omega)
      (try rw [show ((0 : Int)).toNat = 0 from rfl] at hx261_0)
      (try rw [show 0 * 2 = 0 from rfl] at hx261_0)
      (try rw [Addr.add_zero'] at hx261_0)
      (try rw [show ((0 : Int)).toNat = 0 from rfl] at hx261_1)
      (try rw [show 0 * 2 = 0 from rfl] at hx261_1)
      (try rw [Addr.add_zero'] at hx261_1)
      replace hx261_0 := cell_go HB hx261_0
      replace hx261_1 := cell_go HB hx261_1
      replace p261 := eq_true p261
      replace q261 := eq_true q261
      have p262 : 0 ≤ (1 : Int) := (by omega)
      have q262 : 1 < (l2.length : Int) := of_decide_eq_true (by first | (with_reducible assumption) | assumption)
      obtain ⟨ad262, e262, hx262_0, hx262_1⟩ := at_T46 HR2.out 1 p262 q262
      have hw262_1 := hx262_1
      (try rw [show ((1 : Int)).toNat = 1 from rfl] at hw262_1)
      (try rw [show 1 * 2 = 2 from rfl] at hw262_1)
      (try simp only [Nat.reduceMul, Nat.reduceEqDiff, Go.Addr.add, ↓reduceIte] at hw262_1)
      have hw262_0 := hx262_0
      (try rw [show ((1 : Int)).toNat = 1 from rfl] at hw262_0)
      (try rw [show 1 * 2 = 2 from rfl] at hw262_0)
      (try simp only [Nat.reduceMul, Nat.reduceEqDiff, Go.Addr.add, ↓reduceIte] at hw262_0)
      obtain rfl : ad261 = ad262 := (by injection e262)
      (try simp only [show (1 : Int).toNat = 1 from rfl, Nat.reduceMul, Nat.reduceEqDiff, Go.Addr.add, ↓reduceIte] at hx262_0)
      (try simp only [show (1 : Int).toNat = 1 from rfl, Nat.reduceMul, Nat.reduceEqDiff, Go.Addr.add, ↓reduceIte] at hx262_1)
      have qi262 : (1 < l2.length) = True := eq_true (by omega)
      (try rw [show ((1 : Int)).toNat = 1 from rfl] at hx262_0)
      (try rw [show 1 * 2 = 2 from rfl] at hx262_0)
      (try rw [show ((1 : Int)).toNat = 1 from rfl] at hx262_1)
      (try rw [show 1 * 2 = 2 from rfl] at hx262_1)
      replace hx262_0 := cell_go HB hx262_0
      replace hx262_1 := cell_go HB hx262_1
      replace p262 := eq_true p262
      replace q262 := eq_true q262
      refine start_ (n := 13) (S := fun w' => w'.cell? ⟨gb256, 0, none⟩ = some (.int .i64 a1_0) ∧ w'.cell? ⟨gb256, 1, none⟩ = some (.int .i64 a1_1) ∧ w'.cell? ad261 = some (.int .i64 ((rd_T46 l2 0).f0)) ∧ w'.cell? ⟨ad261.block, ad261.off + 1, none⟩ = some (.int .i64 ((rd_T46 l2 0).f1)) ∧ w'.cell? ⟨ad261.block, ad261.off + 2, none⟩ = some (.int .i64 ((rd_T46 l2 1).f0)) ∧ w'.cell? ⟨ad261.block, ad261.off + 2 + 1, none⟩ = some (.int .i64 ((rd_T46 l2 1).f1))) (ds := []) #[false, false, false, false, false, false, false, false, false, false, false, false, false] (by kernel_rfl) rfl rfl ⟨(blk_cell BK256.out 0).trans rfl, (blk_cell BK256.out 1).trans rfl, ((HB.out.cell (World.block_lt_of_cell? w _ hw261_0)).trans hw261_0), ((HB.out.cell (World.block_lt_of_cell? w _ hw261_1)).trans hw261_1), ((HB.out.cell (World.block_lt_of_cell? w _ hw262_0)).trans hw262_0), ((HB.out.cell (World.block_lt_of_cell? w _ hw262_1)).trans hw262_1)⟩ (fun hHeld => ?_); refine with_tabW impl_flatten.tab10 impl_flatten.bits10 (fun HT_ HW_ => ?_)
      generalize wr.drew = w17 at HO_7 BK256 HB hx261_0 hx261_1 hx262_0 hx262_1 hHeld ⊢
      refine pzv (i := 0) (N := 26) (v := ?_) (a' := ?_) (bA 13 1) HT_ ?_ ?_ ?_
      rotate_left
      ·intro w'
       go_simp; with_reducible rfl
      rotate_left
      ·exact x8_put
      refine pzv (i := 2) (N := 28) (v := ?_) (a' := ?_) (bA 13 5) HT_ ?_ ?_ ?_
      rotate_left
      ·intro w'
       go_simp; with_reducible rfl
      rotate_left
      ·exact x8_put
      refine pzv (i := 3) (N := 29) (v := ?_) (a' := ?_) (bA 13 13) HT_ ?_ ?_ ?_
      rotate_left
      ·intro w'
       go_simp; with_reducible rfl
      rotate_left
      ·exact x8_put
      refine pzv (i := 5) (N := 31) (v := ?_) (a' := ?_) (bA 13 45) HT_ ?_ ?_ ?_
      rotate_left
      ·intro w'
       go_simp; with_reducible rfl
      rotate_left
      ·exact x8_put
      refine pzv (i := 6) (N := 32) (v := ?_) (a' := ?_) (bA 13 109) HT_ ?_ ?_ ?_
      rotate_left
      ·intro w'
       go_simp; with_reducible rfl
      rotate_left
      ·exact x8_put
      refine pzv (i := 8) (N := 34) (v := ?_) (a' := ?_) (bA 13 365) HT_ ?_ ?_ ?_
      rotate_left
      ·intro w'
       go_simp; with_reducible rfl
      rotate_left
      ·exact x8_put
      refine take_ (i := 1) (N := some 27) (v := ?_) (a' := ?_) (bA 13 367) rfl rfl (take_ofW HT_.out HW_.out (by kernel_rfl)) (fun _ _ _ h => h) (Or.inl ⟨by rfl, ?_⟩) hHeld ?_ ?_
      rotate_left
      ·rintro w' ⟨s0, s1, s2, s3, s4, s5⟩
       go_simp; with_reducible rfl
      rotate_left
      ·exact x8_put
      refine take_ (i := 4) (N := some 30) (v := ?_) (a' := ?_) (bA 13 383) rfl rfl (take_ofW HT_.out HW_.out (by kernel_rfl)) (fun _ _ _ h => h) (Or.inl ⟨by rfl, ?_⟩) hHeld ?_ ?_
      rotate_left
      ·rintro w' ⟨s0, s1, s2, s3, s4, s5⟩
       go_simp; with_reducible rfl
      rotate_left
      ·exact x8_put
      refine take_ (i := 7) (N := some 33) (v := ?_) (a' := ?_) (bA 13 511) rfl rfl (take_ofW HT_.out HW_.out (by kernel_rfl)) (fun _ _ _ h => h) (Or.inl ⟨by rfl, ?_⟩) hHeld ?_ ?_
      rotate_left
      ·rintro w' ⟨s0, s1, s2, s3, s4, s5⟩
       go_simp; with_reducible rfl
      rotate_left
      ·exact x8_put
      refine one_ (i := 9) (N := some 35) (bA 13 1023) rfl rfl (one_of HT_.out (by kernel_rfl)) (by decide) (fun K hK => ?_)
      refine goes_ Try.func45 (by kernel_rfl) rfl #[.agg #[.int .i64 a1_0, .int .i64 a1_1], .agg #[.int .i64 ((rd_T46 l2 0).f0), .int .i64 ((rd_T46 l2 0).f1)], .agg #[.int .i64 ((rd_T46 l2 1).f0), .int .i64 ((rd_T46 l2 1).f1)], .int .i64 x8_2] (by rfl) rfl rfl z8_7 ?_
      with_reducible refine (impl_QuadAt.calls k2 a1_0 a1_1 ((rd_T46 l2 0).f0) ((rd_T46 l2 0).f1) ((rd_T46 l2 1).f0) ((rd_T46 l2 1).f1) x8_2 t263 t264 _ A15.out).mono ?_
      rintro e w18 ⟨rfl, hb⟩
      refine ⟨_, rfl, ?_⟩
      have n0_ := mk0 (Kd.R_below (pkR HO_7) hb)
      have n1_ := mk0 (blk_belowB BK256 (pkb BK256) hb)
      have n2_ := mk0 (below_step z8_1 hb)
      clear HO_7 BK256 HB; have HO_7 := n0_; have BK256 := n1_; have HB := n2_; clear n0_ n1_ n2_; (try clear hb); (try clear hb2); (try clear hk); (try clear hi)
      refine hK.out _ _ ⟨(blk_cell BK256.out 0).trans rfl, (blk_cell BK256.out 1).trans rfl, ((HB.out.cell (World.block_lt_of_cell? w _ hw261_0)).trans hw261_0), ((HB.out.cell (World.block_lt_of_cell? w _ hw261_1)).trans hw261_1), ((HB.out.cell (World.block_lt_of_cell? w _ hw262_0)).trans hw262_0), ((HB.out.cell (World.block_lt_of_cell? w _ hw262_1)).trans hw262_1)⟩ (fun hHeld => ?_)
      clear hK K
      refine norm_ (a' := ?_) ?_ ?_
      rotate_left
      ·show Act.put _ (some 35) _ = _
       simp only [Act.put, List.setIfInBounds_toArray, List.set_cons_zero, List.set_cons_succ, i64_w, i32_w]
       rfl
      refine one_ (i := 10) (N := some 36) (bA 13 2047) rfl rfl (one_of HT_.out (by kernel_rfl)) (by decide) (fun K hK => ?_)
      refine value_ (w1 := ?_) (v := ?_) (by rfl) rfl ?_ ?_
      rotate_left 2
      ·go_simp
       constructor
       ·rfl
       rfl
      refine hK.out _ _ ⟨(blk_cell (blk_alloc BK256.out _) 0).trans rfl, (blk_cell (blk_alloc BK256.out _) 1).trans rfl, (World.cell?_alloc_lt _ _ _ (World.block_lt_of_cell? _ _ (((HB.out.cell (World.block_lt_of_cell? w _ hw261_0)).trans hw261_0)))).trans (((HB.out.cell (World.block_lt_of_cell? w _ hw261_0)).trans hw261_0)), (World.cell?_alloc_lt _ _ _ (World.block_lt_of_cell? _ _ (((HB.out.cell (World.block_lt_of_cell? w _ hw261_1)).trans hw261_1)))).trans (((HB.out.cell (World.block_lt_of_cell? w _ hw261_1)).trans hw261_1)), (World.cell?_alloc_lt _ _ _ (World.block_lt_of_cell? _ _ (((HB.out.cell (World.block_lt_of_cell? w _ hw262_0)).trans hw262_0)))).trans (((HB.out.cell (World.block_lt_of_cell? w _ hw262_0)).trans hw262_0)), (World.cell?_alloc_lt _ _ _ (World.block_lt_of_cell? _ _ (((HB.out.cell (World.block_lt_of_cell? w _ hw262_1)).trans hw262_1)))).trans (((HB.out.cell (World.block_lt_of_cell? w _ hw262_1)).trans hw262_1))⟩ (fun hHeld => ?_)
      clear hK K
      refine norm_ (a' := ?_) ?_ ?_
      rotate_left
      ·show Act.put _ (some 36) _ = _
       simp only [Act.put, List.setIfInBounds_toArray, List.set_cons_zero, List.set_cons_succ, i64_w, i32_w]
       rfl
      refine one_ (i := 11) (N := some 37) (bA 13 4095) rfl rfl (one_of HT_.out (by kernel_rfl)) (by decide) (fun K hK => ?_)
      refine Kd.R_append_step k46 (w0 := w) w.heap.size (by rfl) (.tmp 26) (.tmp 36) 29 46 (.agg #[(.int .i64 0), (.int .i64 0)]) 16 rfl Try.underlying29 info46 rfl (by decide) (by omega) u7 x7_2 (⟨t263, t264⟩ : S46) [.int .i64 t263, .int .i64 t264] (fun k_ => k_ ≠ gb256) (fun _ => False) rfl rfl ?aP (fun _ hk => hk.elim) ?aF ?aO ?aB ?aS ?aL ?_
      (case aP => exact k46_mkM _ _ _ (⟨t263, t264⟩ : S46))
      (case aB => exact z8_1)
      (case aF => exact (fun k_ hk => Kd.freshB (g := gb256) (o := .cells #[.int .i64 a1_0, .int .i64 a1_1] 46 (0, 0)) (pkb BK256) k_ hk))
      (case aO => exact (pkR HO_7))
      (case aS => exact (below_size z8_1))
      (case aL => have := LMc16.out; omega)
      intro v266 w19 ho hb hg hat
      rw [← Ny265.out] at ho
      have n0_ := mk0 (blk_grown (g := gb256) (o := .cells #[.int .i64 a1_0, .int .i64 a1_1] 46 (0, 0)) (pkb BK256) hg (Kd.R_away HO_7.out (fun _ hk => hk)))
      have n1_ := mk0 (hb)
      have n2_ := mk0 (ho)
      clear BK256 HB HO_7; have BK256 := n0_; have HB := n1_; have HO267 := n2_; clear n0_ n1_ n2_ ho hb hg hat
      refine hK.out _ _ ⟨(blk_cell BK256.out 0).trans rfl, (blk_cell BK256.out 1).trans rfl, ((HB.out.cell (World.block_lt_of_cell? w _ hw261_0)).trans hw261_0), ((HB.out.cell (World.block_lt_of_cell? w _ hw261_1)).trans hw261_1), ((HB.out.cell (World.block_lt_of_cell? w _ hw262_0)).trans hw262_0), ((HB.out.cell (World.block_lt_of_cell? w _ hw262_1)).trans hw262_1)⟩ (fun hHeld => ?_)
      clear hK K
      refine norm_ (a' := ?_) ?_ ?_
      rotate_left
      ·show Act.put _ (some 37) _ = _
       simp only [Act.put, List.setIfInBounds_toArray, List.set_cons_zero, List.set_cons_succ, i64_w, i32_w]
       rfl
      refine pzv (i := 12) (N := 7) (v := ?_) (a' := ?_) (bA 13 8191) HT_ ?_ ?_ ?_
      rotate_left
      ·intro w'
       go_simp; with_reducible rfl
      rotate_left
      ·exact x8_put
      refine done_ (done_of HT_.out (by kernel_rfl)) ?_
      try go_wp2
      go_roundg k2
      case measure => have := HJ3.out; have := HK2.out; omega
      case rel => exact ⟨(y265), (wrap64 (x8_2 + 1)), rs0, H', ⟨(by have := HJ3.out; have := HK2.out; omega)⟩, ⟨pkR HO267⟩, ⟨pkb BK256⟩, ⟨z8_1⟩⟩
   rw [if_neg c11] at H
   have c11b0 : (a0 == 3) = false := beq_eq_false_iff_ne.mpr c11
   have c11b1 : (a0 != 3) = true := bne_iff_ne.mpr c11
   by_cases c20 : a0 = 4
   rotate_left
   ·rw [if_neg c20] at H
    have c20b0 : (a0 == 4) = false := beq_eq_false_iff_ne.mpr c20
    have c20b1 : (a0 != 4) = true := bne_iff_ne.mpr c20
    obtain rfl := Option.some.inj H
    simp only [Option.some.injEq, Prod.mk.injEq] at H
    obtain ⟨rfl⟩ := H
    go_wp2
    go_ret
    exact ⟨_, z8_3, z8_4, z8_1⟩
   rw [if_pos c20] at H
   have c20b0 : (a0 == 4) = true := beq_iff_eq.mpr c20
   have c20b1 : (a0 != 4) = false := bne_eq_false_iff_eq.mpr c20
   clear c20
   have H' := mk0 H
   clear H
   go_wp2
   go_loopg [7, 9] kj3 (fun kq v7 v9 w' => ∃ (x7_2 : List (S46)) (x9_2 : Int), v9 = .int .i64 x9_2 ∧ Aside0 (impl_flatten.l1 kq l2 x7_2 x9_2 a1_0 a1_1 = some r) ∧ Aside0 (kq ≤ kj3) ∧ Aside0 (Kd.R k46 46 w' w.heap.size (fun k_ => k_ ≠ gb256) v7 x7_2) ∧ Aside0 (w'.heap[gb256]? = some (.cells #[.int .i64 a1_0, .int .i64 a1_1] 46 (0, 0))) ∧ Aside0 (Below w.heap.size w w'))
   case atStart => exact ⟨(([] : List (S46))), (1), rs0, H', ⟨Nat.le_refl _⟩, ⟨pkR HO_7⟩, ⟨pkb BK256⟩, ⟨z8_1⟩⟩
   case round =>
    clear H'
    try clear c1
    try clear c2
    try clear p2
    try clear q2
    try clear hx2
    try clear qi2
    try clear c4
    try clear c6
    try clear c6b0
    try clear c6b1
    try clear p6
    try clear c7
    try clear c8
    try clear c8b0
    try clear c8b1
    try clear c9
    try clear c11
    try clear c11b0
    try clear c11b1
    try clear c12
    try clear c12b0
    try clear c13
    try clear c13b0
    try clear c13b1
    try clear c14
    try clear c14b0
    try clear c14b1
    try clear c16
    try clear c20
    try clear c20b0
    try clear c20b1
    try clear hx257_0
    try clear hx257_1
    try clear hx261_0
    try clear hx261_1
    try clear hx262_0
    try clear hx262_1
    try clear p2
    try clear p257
    try clear p261
    try clear p262
    try clear q2
    try clear q257
    try clear q261
    try clear q262
    obtain ⟨x7_2, x9_2, rfl, HA, HK2, HO_7, BK256, HB⟩ := hrel
    cases gk with
    | zero => exact absurd HA.out (by simp [impl_flatten.l1])
    | succ k2 =>
     have H := HA.out; clear HA
     simp only [impl_flatten.l1] at H
     by_cases c21 : x9_2 ≤ 8
     rotate_left
     ·rw [if_neg c21] at H
      have c21b0 := decide_eq_false c21
      clear c21
      obtain rfl := Option.some.inj H
      simp only [Option.some.injEq, Prod.mk.injEq] at H
      obtain ⟨rfl⟩ := H
      go_wp2
      go_ret
      exact ⟨_, z8_3, z8_4, z8_1⟩
     rw [if_pos c21] at H
     have c21b0 := decide_eq_true c21
     clear c21
     by_cases c22 : 0 < (l2.length : Int)
     rotate_left
     ·rw [if_neg c22] at H
      exact absurd H (by simp)
     rw [if_pos c22] at H
     have c22b0 := decide_eq_true c22
     have c22b1 : decide (0 < l2.length) = true := decide_eq_true (by omega)
     clear c22
     by_cases c23 : 1 < (l2.length : Int)
     rotate_left
     ·rw [if_neg c23] at H
      exact absurd H (by simp)
     rw [if_pos c23] at H
     have c23b0 := decide_eq_true c23
     have c23b1 : decide (1 < l2.length) = true := decide_eq_true (by omega)
     clear c23
     by_cases c24 : 2 < (l2.length : Int)
     rotate_left
     ·rw [if_neg c24] at H
      exact absurd H (by simp)
     rw [if_pos c24] at H
     have c24b0 := decide_eq_true c24
     have c24b1 : decide (2 < l2.length) = true := decide_eq_true (by omega)
     clear c24
     replace H := Option.bind_eq_some_iff.mp H
     obtain ⟨⟨t271, t272⟩, A250, H⟩ := H
     try dsimp only at H
     have A25 := mk0 A250
     clear A250
     by_cases c26 : x7_2.length < 8796093022208
     rotate_left
     ·rw [if_neg c26] at H
      exact absurd H (by simp)
     rw [if_pos c26] at H
     have LMc26 := mk0 c26
     clear c26
     obtain ⟨y273, hy_⟩ : ∃ y_ : List (S46), y_ = (x7_2 ++ [(⟨t271, t272⟩ : S46)]) := ⟨_, rfl⟩
     replace H : (impl_flatten.l1 k2 l2 y273 (wrap64 (x9_2 + 1)) a1_0 a1_1) = some r := z8_2
     have Ny273 := mk0 hy_
     clear hy_
     have H' := mk0 H
     clear H
     try go_wp2
     have n0_ := mk0 (Kd.R_drew HO_7.out)
     have n1_ := mk0 (blk_drew BK256.out)
     have n2_ := mk0 (below_drew1 HB.out)
     clear HO_7 BK256 HB; have HO_7 := n0_; have BK256 := n1_; have HB := n2_; clear n0_ n1_ n2_
     have p268 : 0 ≤ (0 : Int) := (by omega)
     have q268 : 0 < (l2.length : Int) := of_decide_eq_true (by first | (with_reducible assumption) | assumption)
     obtain ⟨ad268, e268, hx268_0, hx268_1⟩ := at_T46 HR2.out 0 p268 q268
     have hw268_1 := hx268_1
     (try rw [show ((0 : Int)).toNat = 0 from rfl] at hw268_1)
     (try rw [show 0 * 2 = 0 from rfl] at hw268_1)
     (try rw [Addr.add_zero'] at hw268_1)
     have hw268_0 := hx268_0
     (try rw [show ((0 : Int)).toNat = 0 from rfl] at hw268_0)
     (try rw [show 0 * 2 = 0 from rfl] at hw268_0)
     (try rw [Addr.add_zero'] at hw268_0)
     cases e268
     have qi268 : (0 < l2.length) = True := eq_true (by omega)
     (try rw [show ((0 : Int)).toNat = 0 from rfl] at hx268_0)
     (try rw [show 0 * 2 = 0 from rfl] at hx268_0)
     (try rw [Addr.add_zero'] at hx268_0)
     (try rw [show ((0 : Int)).toNat = 0 from rfl] at hx268_1)
     (try rw [show 0 * 2 = 0 from rfl] at hx268_1)
     (try rw [Addr.add_zero'] at hx268_1)
     replace hx268_0 := cell_go HB hx268_0
     replace hx268_1 := cell_go HB hx268_1
     replace p268 := eq_true p268
     replace q268 := eq_true q268
     have p269 : 0 ≤ (1 : Int) := (by omega)
     have q269 : 1 < (l2.length : Int) := of_decide_eq_true (by first | (with_reducible assumption) | assumption)
     obtain ⟨ad269, e269, hx269_0, hx269_1⟩ := at_T46 HR2.out 1 p269 q269
     have hw269_1 := hx269_1
     (try rw [show ((1 : Int)).toNat = 1 from rfl] at hw269_1)
     (try rw [show 1 * 2 = 2 from rfl] at hw269_1)
     (try simp only [Nat.reduceMul, Nat.reduceEqDiff, Go.Addr.add, ↓reduceIte] at hw269_1)
     have hw269_0 := hx269_0
     (try rw [show ((1 : Int)).toNat = 1 from rfl] at hw269_0)
     (try rw [show 1 * 2 = 2 from rfl] at hw269_0)
     (try simp only [Nat.reduceMul, Nat.reduceEqDiff, Go.Addr.add, ↓reduceIte] at hw269_0)
     obtain rfl : ad268 = ad269 := (by injection e269)
     (try simp only [show (1 : Int).toNat = 1 from rfl, Nat.reduceMul, Nat.reduceEqDiff, Go.Addr.add, ↓reduceIte] at hx269_0)
     (try simp only [show (1 : Int).toNat = 1 from rfl, Nat.reduceMul, Nat.reduceEqDiff, Go.Addr.add, ↓reduceIte] at hx269_1)
     have qi269 : (1 < l2.length) = True := eq_true (by omega)
     (try rw [show ((1 : Int)).toNat = 1 from rfl] at hx269_0)
     (try rw [show 1 * 2 = 2 from rfl] at hx269_0)
     (try rw [show ((1 : Int)).toNat = 1 from rfl] at hx269_1)
     (try rw [show 1 * 2 = 2 from rfl] at hx269_1)
     replace hx269_0 := cell_go HB hx269_0
     replace hx269_1 := cell_go HB hx269_1
     replace p269 := eq_true p269
     replace q269 := eq_true q269
     have p270 : 0 ≤ (2 : Int) := (by omega)
     have q270 : 2 < (l2.length : Int) := of_decide_eq_true (by first | (with_reducible assumption) | assumption)
     obtain ⟨ad270, e270, hx270_0, hx270_1⟩ := at_T46 HR2.out 2 p270 q270
     have hw270_1 := hx270_1
     (try rw [show ((2 : Int)).toNat = 2 from rfl] at hw270_1)
     (try rw [show 2 * 2 = 4 from rfl] at hw270_1)
     (try simp only [Nat.reduceMul, Nat.reduceEqDiff, Go.Addr.add, ↓reduceIte] at hw270_1)
     have hw270_0 := hx270_0
     (try rw [show ((2 : Int)).toNat = 2 from rfl] at hw270_0)
     (try rw [show 2 * 2 = 4 from rfl] at hw270_0)
     (try simp only [Nat.reduceMul, Nat.reduceEqDiff, Go.Addr.add, ↓reduceIte] at hw270_0)
     obtain rfl : ad268 = ad270 := (by injection e270)
     (try simp only [show (2 : Int).toNat = 2 from rfl, Nat.reduceMul, Nat.reduceEqDiff, Go.Addr.add, ↓reduceIte] at hx270_0)
     (try simp only [show (2 : Int).toNat = 2 from rfl, Nat.reduceMul, Nat.reduceEqDiff, Go.Addr.add, ↓reduceIte] at hx270_1)
     have qi270 : (2 < l2.length) = True := eq_true (by omega)
     (try rw [show ((2 : Int)).toNat = 2 from rfl] at hx270_0)
     (try rw [show 2 * 2 = 4 from rfl] at hx270_0)
     (try rw [show ((2 : Int)).toNat = 2 from rfl] at hx270_1)
     (try rw [show 2 * 2 = 4 from rfl] at hx270_1)
     replace hx270_0 := cell_go HB hx270_0
     replace hx270_1 := cell_go HB hx270_1
     replace p270 := eq_true p270
     replace q270 := eq_true q270
     refine start_ (n := 16) (S := fun w' => w'.cell? ⟨gb256, 0, none⟩ = some (.int .i64 a1_0) ∧ w'.cell? ⟨gb256, 1, none⟩ = some (.int .i64 a1_1) ∧ w'.cell? ad268 = some (.int .i64 ((rd_T46 l2 0).f0)) ∧ w'.cell? ⟨ad268.block, ad268.off + 1, none⟩ = some (.int .i64 ((rd_T46 l2 0).f1)) ∧ w'.cell? ⟨ad268.block, ad268.off + 2, none⟩ = some (.int .i64 ((rd_T46 l2 1).f0)) ∧ w'.cell? ⟨ad268.block, ad268.off + 2 + 1, none⟩ = some (.int .i64 ((rd_T46 l2 1).f1)) ∧ w'.cell? ⟨ad268.block, ad268.off + 4, none⟩ = some (.int .i64 ((rd_T46 l2 2).f0)) ∧ w'.cell? ⟨ad268.block, ad268.off + 4 + 1, none⟩ = some (.int .i64 ((rd_T46 l2 2).f1))) (ds := []) #[false, false, false, false, false, false, false, false, false, false, false, false, false, false, false, false] (by kernel_rfl) rfl rfl ⟨(blk_cell BK256.out 0).trans rfl, (blk_cell BK256.out 1).trans rfl, ((HB.out.cell (World.block_lt_of_cell? w _ hw268_0)).trans hw268_0), ((HB.out.cell (World.block_lt_of_cell? w _ hw268_1)).trans hw268_1), ((HB.out.cell (World.block_lt_of_cell? w _ hw269_0)).trans hw269_0), ((HB.out.cell (World.block_lt_of_cell? w _ hw269_1)).trans hw269_1), ((HB.out.cell (World.block_lt_of_cell? w _ hw270_0)).trans hw270_0), ((HB.out.cell (World.block_lt_of_cell? w _ hw270_1)).trans hw270_1)⟩ (fun hHeld => ?_); refine with_tabW impl_flatten.tab15 impl_flatten.bits15 (fun HT_ HW_ => ?_)
     generalize wr.drew = w27 at HO_7 BK256 HB hx268_0 hx268_1 hx269_0 hx269_1 hx270_0 hx270_1 hHeld ⊢
     refine pzv (i := 0) (N := 44) (v := ?_) (a' := ?_) (bA 16 1) HT_ ?_ ?_ ?_
     rotate_left
     ·intro w'
      go_simp; with_reducible rfl
     rotate_left
     ·exact x8_put
     refine pzv (i := 2) (N := 46) (v := ?_) (a' := ?_) (bA 16 5) HT_ ?_ ?_ ?_
     rotate_left
     ·intro w'
      go_simp; with_reducible rfl
     rotate_left
     ·exact x8_put
     refine pzv (i := 3) (N := 47) (v := ?_) (a' := ?_) (bA 16 13) HT_ ?_ ?_ ?_
     rotate_left
     ·intro w'
      go_simp; with_reducible rfl
     rotate_left
     ·exact x8_put
     refine pzv (i := 5) (N := 49) (v := ?_) (a' := ?_) (bA 16 45) HT_ ?_ ?_ ?_
     rotate_left
     ·intro w'
      go_simp; with_reducible rfl
     rotate_left
     ·exact x8_put
     refine pzv (i := 6) (N := 50) (v := ?_) (a' := ?_) (bA 16 109) HT_ ?_ ?_ ?_
     rotate_left
     ·intro w'
      go_simp; with_reducible rfl
     rotate_left
     ·exact x8_put
     refine pzv (i := 8) (N := 52) (v := ?_) (a' := ?_) (bA 16 365) HT_ ?_ ?_ ?_
     rotate_left
     ·intro w'
      go_simp; with_reducible rfl
     rotate_left
     ·exact x8_put
     refine pzv (i := 9) (N := 53) (v := ?_) (a' := ?_) (bA 16 877) HT_ ?_ ?_ ?_
     rotate_left
     ·intro w'
      go_simp; with_reducible rfl
     rotate_left
     ·exact x8_put
     refine pzv (i := 11) (N := 55) (v := ?_) (a' := ?_) (bA 16 2925) HT_ ?_ ?_ ?_
     rotate_left
     ·intro w'
      go_simp; with_reducible rfl
     rotate_left
     ·exact x8_put
     refine take_ (i := 1) (N := some 45) (v := ?_) (a' := ?_) (bA 16 2927) rfl rfl (take_ofW HT_.out HW_.out (by kernel_rfl)) (fun _ _ _ h => h) (Or.inl ⟨by rfl, ?_⟩) hHeld ?_ ?_
     rotate_left
     ·rintro w' ⟨s0, s1, s2, s3, s4, s5, s6, s7⟩
      go_simp; with_reducible rfl
     rotate_left
     ·exact x8_put
     refine take_ (i := 4) (N := some 48) (v := ?_) (a' := ?_) (bA 16 2943) rfl rfl (take_ofW HT_.out HW_.out (by kernel_rfl)) (fun _ _ _ h => h) (Or.inl ⟨by rfl, ?_⟩) hHeld ?_ ?_
     rotate_left
     ·rintro w' ⟨s0, s1, s2, s3, s4, s5, s6, s7⟩
      go_simp; with_reducible rfl
     rotate_left
     ·exact x8_put
     refine take_ (i := 7) (N := some 51) (v := ?_) (a' := ?_) (bA 16 3071) rfl rfl (take_ofW HT_.out HW_.out (by kernel_rfl)) (fun _ _ _ h => h) (Or.inl ⟨by rfl, ?_⟩) hHeld ?_ ?_
     rotate_left
     ·rintro w' ⟨s0, s1, s2, s3, s4, s5, s6, s7⟩
      go_simp; with_reducible rfl
     rotate_left
     ·exact x8_put
     refine take_ (i := 10) (N := some 54) (v := ?_) (a' := ?_) (bA 16 4095) rfl rfl (take_ofW HT_.out HW_.out (by kernel_rfl)) (fun _ _ _ h => h) (Or.inl ⟨by rfl, ?_⟩) hHeld ?_ ?_
     rotate_left
     ·rintro w' ⟨s0, s1, s2, s3, s4, s5, s6, s7⟩
      go_simp; with_reducible rfl
     rotate_left
     ·exact x8_put
     refine one_ (i := 12) (N := some 56) (bA 16 8191) rfl rfl (one_of HT_.out (by kernel_rfl)) (by decide) (fun K hK => ?_)
     refine goes_ Try.func46 (by kernel_rfl) rfl #[.agg #[.int .i64 a1_0, .int .i64 a1_1], .agg #[.int .i64 ((rd_T46 l2 0).f0), .int .i64 ((rd_T46 l2 0).f1)], .agg #[.int .i64 ((rd_T46 l2 1).f0), .int .i64 ((rd_T46 l2 1).f1)], .agg #[.int .i64 ((rd_T46 l2 2).f0), .int .i64 ((rd_T46 l2 2).f1)], .int .i64 x9_2] (by rfl) rfl rfl z8_7 ?_
     with_reducible refine (impl_CubicAt.calls k2 a1_0 a1_1 ((rd_T46 l2 0).f0) ((rd_T46 l2 0).f1) ((rd_T46 l2 1).f0) ((rd_T46 l2 1).f1) ((rd_T46 l2 2).f0) ((rd_T46 l2 2).f1) x9_2 t271 t272 _ A25.out).mono ?_
     rintro e w28 ⟨rfl, hb⟩
     refine ⟨_, rfl, ?_⟩
     have n0_ := mk0 (Kd.R_below (pkR HO_7) hb)
     have n1_ := mk0 (blk_belowB BK256 (pkb BK256) hb)
     have n2_ := mk0 (below_step z8_1 hb)
     clear HO_7 BK256 HB; have HO_7 := n0_; have BK256 := n1_; have HB := n2_; clear n0_ n1_ n2_; (try clear hb); (try clear hb2); (try clear hk); (try clear hi)
     refine hK.out _ _ ⟨(blk_cell BK256.out 0).trans rfl, (blk_cell BK256.out 1).trans rfl, ((HB.out.cell (World.block_lt_of_cell? w _ hw268_0)).trans hw268_0), ((HB.out.cell (World.block_lt_of_cell? w _ hw268_1)).trans hw268_1), ((HB.out.cell (World.block_lt_of_cell? w _ hw269_0)).trans hw269_0), ((HB.out.cell (World.block_lt_of_cell? w _ hw269_1)).trans hw269_1), ((HB.out.cell (World.block_lt_of_cell? w _ hw270_0)).trans hw270_0), ((HB.out.cell (World.block_lt_of_cell? w _ hw270_1)).trans hw270_1)⟩ (fun hHeld => ?_)
     clear hK K
     refine norm_ (a' := ?_) ?_ ?_
     rotate_left
     ·show Act.put _ (some 56) _ = _
      simp only [Act.put, List.setIfInBounds_toArray, List.set_cons_zero, List.set_cons_succ, i64_w, i32_w]
      rfl
     refine one_ (i := 13) (N := some 57) (bA 16 16383) rfl rfl (one_of HT_.out (by kernel_rfl)) (by decide) (fun K hK => ?_)
     refine value_ (w1 := ?_) (v := ?_) (by rfl) rfl ?_ ?_
     rotate_left 2
     ·go_simp
      constructor
      ·rfl
      rfl
     refine hK.out _ _ ⟨(blk_cell (blk_alloc BK256.out _) 0).trans rfl, (blk_cell (blk_alloc BK256.out _) 1).trans rfl, (World.cell?_alloc_lt _ _ _ (World.block_lt_of_cell? _ _ (((HB.out.cell (World.block_lt_of_cell? w _ hw268_0)).trans hw268_0)))).trans (((HB.out.cell (World.block_lt_of_cell? w _ hw268_0)).trans hw268_0)), (World.cell?_alloc_lt _ _ _ (World.block_lt_of_cell? _ _ (((HB.out.cell (World.block_lt_of_cell? w _ hw268_1)).trans hw268_1)))).trans (((HB.out.cell (World.block_lt_of_cell? w _ hw268_1)).trans hw268_1)), (World.cell?_alloc_lt _ _ _ (World.block_lt_of_cell? _ _ (((HB.out.cell (World.block_lt_of_cell? w _ hw269_0)).trans hw269_0)))).trans (((HB.out.cell (World.block_lt_of_cell? w _ hw269_0)).trans hw269_0)), (World.cell?_alloc_lt _ _ _ (World.block_lt_of_cell? _ _ (((HB.out.cell (World.block_lt_of_cell? w _ hw269_1)).trans hw269_1)))).trans (((HB.out.cell (World.block_lt_of_cell? w _ hw269_1)).trans hw269_1)), (World.cell?_alloc_lt _ _ _ (World.block_lt_of_cell? _ _ (((HB.out.cell (World.block_lt_of_cell? w _ hw270_0)).trans hw270_0)))).trans (((HB.out.cell (World.block_lt_of_cell? w _ hw270_0)).trans hw270_0)), (World.cell?_alloc_lt _ _ _ (World.block_lt_of_cell? _ _ (((HB.out.cell (World.block_lt_of_cell? w _ hw270_1)).trans hw270_1)))).trans (((HB.out.cell (World.block_lt_of_cell? w _ hw270_1)).trans hw270_1))⟩ (fun hHeld => ?_)
     clear hK K
     refine norm_ (a' := ?_) ?_ ?_
     rotate_left
     ·show Act.put _ (some 57) _ = _
      simp only [Act.put, List.setIfInBounds_toArray, List.set_cons_zero, List.set_cons_succ, i64_w, i32_w]
      rfl
     refine one_ (i := 14) (N := some 58) (bA 16 32767) rfl rfl (one_of HT_.out (by kernel_rfl)) (by decide) (fun K hK => ?_)
     refine Kd.R_append_step k46 (w0 := w) w.heap.size (by rfl) (.tmp 44) (.tmp 57) 29 46 (.agg #[(.int .i64 0), (.int .i64 0)]) 16 rfl Try.underlying29 info46 rfl (by decide) (by omega) u7 x7_2 (⟨t271, t272⟩ : S46) [.int .i64 t271, .int .i64 t272] (fun k_ => k_ ≠ gb256) (fun _ => False) rfl rfl ?aP (fun _ hk => hk.elim) ?aF ?aO ?aB ?aS ?aL ?_
     (case aP => exact k46_mkM _ _ _ (⟨t271, t272⟩ : S46))
     (case aB => exact z8_1)
     (case aF => exact (fun k_ hk => Kd.freshB (g := gb256) (o := .cells #[.int .i64 a1_0, .int .i64 a1_1] 46 (0, 0)) (pkb BK256) k_ hk))
     (case aO => exact (pkR HO_7))
     (case aS => exact (below_size z8_1))
     (case aL => have := LMc26.out; omega)
     intro v274 w29 ho hb hg hat
     rw [← Ny273.out] at ho
     have n0_ := mk0 (blk_grown (g := gb256) (o := .cells #[.int .i64 a1_0, .int .i64 a1_1] 46 (0, 0)) (pkb BK256) hg (Kd.R_away HO_7.out (fun _ hk => hk)))
     have n1_ := mk0 (hb)
     have n2_ := mk0 (ho)
     clear BK256 HB HO_7; have BK256 := n0_; have HB := n1_; have HO275 := n2_; clear n0_ n1_ n2_ ho hb hg hat
     refine hK.out _ _ ⟨(blk_cell BK256.out 0).trans rfl, (blk_cell BK256.out 1).trans rfl, ((HB.out.cell (World.block_lt_of_cell? w _ hw268_0)).trans hw268_0), ((HB.out.cell (World.block_lt_of_cell? w _ hw268_1)).trans hw268_1), ((HB.out.cell (World.block_lt_of_cell? w _ hw269_0)).trans hw269_0), ((HB.out.cell (World.block_lt_of_cell? w _ hw269_1)).trans hw269_1), ((HB.out.cell (World.block_lt_of_cell? w _ hw270_0)).trans hw270_0), ((HB.out.cell (World.block_lt_of_cell? w _ hw270_1)).trans hw270_1)⟩ (fun hHeld => ?_)
     clear hK K
     refine norm_ (a' := ?_) ?_ ?_
     rotate_left
     ·show Act.put _ (some 58) _ = _
      simp only [Act.put, List.setIfInBounds_toArray, List.set_cons_zero, List.set_cons_succ, i64_w, i32_w]
      rfl
     refine pzv (i := 15) (N := 7) (v := ?_) (a' := ?_) (bA 16 65535) HT_ ?_ ?_ ?_
     rotate_left
     ·intro w'
      go_simp; with_reducible rfl
     rotate_left
     ·exact x8_put
     refine done_ (done_of HT_.out (by kernel_rfl)) ?_
     try go_wp2
     go_roundg k2
     case measure => have := HJ3.out; have := HK2.out; omega
     case rel => exact ⟨(y273), (wrap64 (x9_2 + 1)), rs0, H', ⟨(by have := HJ3.out; have := HK2.out; omega)⟩, ⟨pkR HO275⟩, ⟨pkb BK256⟩, ⟨z8_1⟩⟩

end Go.Proofs.Ytdpnimngndemiaa.MFnFlats
