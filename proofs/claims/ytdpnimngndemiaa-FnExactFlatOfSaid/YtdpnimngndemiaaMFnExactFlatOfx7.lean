/- Functions of the program as Lean functions, and the proof that a call comes to just these: machine text of this session's own program (myprint.py). -/
import Derived.Test.YtdpnimngndemiaaMFnExactFlatOfx0
import Derived.Test.YtdpnimngndemiaaMFnExactFlatOfx6
namespace Go.Proofs.Ytdpnimngndemiaa.MFnExactFlatOf
open Go.RowKit Go.Proofs.YtdpnimngndemiaaW.PrintWords Go.Proofs.YtdpnimngndemiaaW.PrintLast Go.Proofs.YtdpnimngndemiaaW.PrintMore
attribute [local go_sem] max2_int min2_int max_two min_two max_three min_three max_four min_four   -- for this text's walks alone
set_option linter.unusedVariables false
set_option linter.unusedSimpArgs false

theorem z7_0 {P : Prop} (h : P := by repeat (first | (with_reducible first | exact HB.out | apply below_alloc | apply pw_below_drewN | apply below_drew1) | exact HB.out)) : P := h
theorem z7_1 {P : Prop} (h : P := by repeat (first | (with_reducible first | exact HB.out | apply below_alloc | apply pw_below_drewN | apply below_drew1 | refine below_set ?_ GE248.out) | exact HB.out)) : P := h
theorem z7_2 {P : Prop} (h : P := by repeat (first | (with_reducible first | exact HB.out | apply below_alloc | apply pw_below_drewN | apply below_drew1 | refine below_set ?_ GE242.out) | exact HB.out)) : P := h
theorem z7_3 {P : Prop} (h : P := by repeat (first | (with_reducible first | exact HB.out | apply below_alloc | apply pw_below_drewN | apply below_drew1 | refine below_set ?_ GE269.out | refine below_set ?_ GE270.out | refine below_set ?_ GE271.out | refine below_set ?_ GE272.out | refine below_set ?_ GE273.out) | exact HB.out)) : P := h
theorem z7_4 {P : Prop} (h : P := by (try simp only [List.map_toArray, List.map_cons, List.map_nil]); first | done | rfl | (simp only [List.length_drop, List.length_take]; rfl)) : P := h
theorem z7_5 {P : Prop} (h : P := by repeat (first | (with_reducible first | exact HB.out | apply below_alloc | apply pw_below_drewN | apply below_drew1 | refine below_set ?_ GE256.out | refine below_set ?_ GE257.out | refine below_set ?_ GE258.out | refine below_set ?_ GE259.out) | exact HB.out)) : P := h
theorem z7_6 {P : Prop} (h : P := by repeat (first | exact (Kd.C_below HR0.out HB.out) | (with_reducible refine Kd.C_alloc ?_ _) | (with_reducible refine Kd.C_drewN ?_ _) | (with_reducible refine Kd.C_drew ?_))) : P := h
theorem z7_7 {P : Prop} (h : P := by first | (rw [hy_]; with_reducible exact H) | (have H2_ := (Option.bind_some _ _).symm.trans H; rw [hy_]; with_reducible exact H2_) | (have H2_ := (Option.bind_some _ _).symm.trans H; with_reducible exact H2_) | with_reducible exact H | (rw [hy_]; exact H) | exact H) : P := h
theorem z7_8 {P : Prop} (h : P := by first | rfl | (simp [errW_none, errW_some] <;> rfl) | (simp [*, errW_none, errW_some] <;> rfl)) : P := h
theorem z7_9 {P : Prop} (h : P := by repeat (first | (with_reducible first | exact HB.out | apply below_alloc | apply pw_below_drewN | apply below_drew1 | refine below_set ?_ GE269.out | refine below_set ?_ GE270.out | refine below_set ?_ GE271.out | refine below_set ?_ GE272.out) | exact HB.out)) : P := h
theorem z7_10 {P : Prop} (h : P := by repeat (first | exact Drawn0.refl _ | apply Drawn0.step)) : P := h
theorem z7_11 {P : Prop} (h : P := by have := World.block_lt_of_cell? _ _ hx252_0; first | rwa [add_block] at this | exact this) : P := h
theorem z7_12 {P : Prop} (h : P := by have := World.block_lt_of_cell? _ _ hx253_0; first | rwa [add_block] at this | exact this) : P := h
theorem z7_13 {P : Prop} (h : P := by repeat (first | (with_reducible first | exact HB.out | apply below_alloc | apply pw_below_drewN | apply below_drew1 | refine below_set ?_ GE256.out | refine below_set ?_ GE257.out | refine below_set ?_ GE258.out) | exact HB.out)) : P := h
theorem z7_14 {P : Prop} (h : P := by repeat (first | (with_reducible first | exact HB.out | apply below_alloc | apply pw_below_drewN | apply below_drew1 | refine below_set ?_ GE269.out | refine below_set ?_ GE270.out | refine below_set ?_ GE271.out) | exact HB.out)) : P := h
theorem z7_15 {P : Prop} (h : P := by repeat (first | (with_reducible first | exact HB.out | apply below_alloc | apply pw_below_drewN | apply below_drew1 | refine below_set ?_ GE256.out | refine below_set ?_ GE257.out) | exact HB.out)) : P := h
theorem z7_16 {P : Prop} (h : P := by repeat (first | (with_reducible first | exact HB.out | apply below_alloc | apply pw_below_drewN | apply below_drew1 | refine below_set ?_ GE269.out | refine below_set ?_ GE270.out) | exact HB.out)) : P := h
theorem z7_17 {P : Prop} (h : P := by repeat (first | (with_reducible first | exact HB.out | apply below_alloc | apply pw_below_drewN | apply below_drew1 | refine below_set ?_ GE256.out) | exact HB.out)) : P := h
theorem z7_18 {P : Prop} (h : P := by repeat (first | (with_reducible first | exact HB.out | apply below_alloc | apply pw_below_drewN | apply below_drew1 | refine below_set ?_ GE269.out) | exact HB.out)) : P := h
theorem z7_19 {P : Prop} (h : P := by apply blk_fin; (focus ((with_reducible repeat (first | apply blk_putQ | refine blk_drewN ?_ _ | refine blk_drew ?_ | refine blk_alloc ?_ _)); exact BK248.out)); first | (simp only [List.setIfInBounds_toArray, List.set_cons_zero, List.set_cons_succ]; done) | rfl) : P := h
theorem z7_20 {P : Prop} (h : P := by first | (rw [add_block]; exact hn252_0) | (show (Addr.add _ _).block ≠ _; rw [add_block]; exact hn252_0) | exact hn252_0) : P := h
theorem z7_21 {P : Prop} (h : P := by first | (rw [add_block]; exact hn252_1) | (show (Addr.add _ _).block ≠ _; rw [add_block]; exact hn252_1) | exact hn252_1) : P := h
theorem z7_22 {P : Prop} (h : P := by first | (rw [add_block]; exact hn253_0) | (show (Addr.add _ _).block ≠ _; rw [add_block]; exact hn253_0) | exact hn253_0) : P := h
theorem z7_23 {P : Prop} (h : P := by first | (rw [add_block]; exact hn253_1) | (show (Addr.add _ _).block ≠ _; rw [add_block]; exact hn253_1) | exact hn253_1) : P := h
theorem z7_24 {P : Prop} (h : P := by first | rfl | (simp [errW_none, errW_some] <;> rfl) | (simp only [← hji20]; first | rfl | (simp [errW_none, errW_some] <;> rfl)) | (simp [*, errW_none, errW_some] <;> rfl)) : P := h
/-! ### impl_PathOk: function 27 -/
mutual
def impl_PathOk.j0 : Nat → Bool → List Int → List (S46) → Option (Bool)
 | 0, _, _, _ => none
 | k + 1, x23, x243000, x243001 => if x23 = true then (some false) else (impl_PathOk.l0 k 0 x243000 (x243000.length : Int) 0 x243000 x243001)
def impl_PathOk.l0 : Nat → Int → List Int → Int → Int → List Int → List (S46) → Option (Bool)
 | 0, _, _, _, _, _, _ => none
 | k + 1, x3, x25, x26, x27, x243000, x243001 => if x27 < x26 then (if 0 ≤ x27 then (if x27 < (x25.length : Int) then ((impl_NeedOf.f k (rd x25 x27)).bind fun t245 => (if x27 = 0 then (if t245 < 0 then (some false) else (if (rd x25 x27) = 1 then (impl_PathOk.l0 k (wrap64 (x3 + t245)) x25 x26 (wrap64 (x27 + 1)) x243000 x243001) else (some false))) else (if 0 ≤ (wrap64 (x27 - 1)) then (if (wrap64 (x27 - 1)) < (x243000.length : Int) then (if t245 < 0 then (some false) else (if (rd x243000 (wrap64 (x27 - 1))) = 5 then (if (rd x25 x27) = 1 then (impl_PathOk.l0 k (wrap64 (x3 + t245)) x25 x26 (wrap64 (x27 + 1)) x243000 x243001) else (some false)) else (impl_PathOk.l0 k (wrap64 (x3 + t245)) x25 x26 (wrap64 (x27 + 1)) x243000 x243001))) else (none)) else (none)))) else (none)) else (none)) else (some (x3 == (x243001.length : Int)))
end
def impl_PathOk.f (k : Nat) (l0_0 : List Int) (l0_1 : List (S46)) : Option (Bool) := if (l0_1.length : Int) > 24 then (impl_PathOk.j0 k true l0_0 l0_1) else (if (l0_0.length : Int) > 24 then (impl_PathOk.j0 k true l0_0 l0_1) else ((impl_pointsOk.f k l0_1).bind fun t243 => (impl_PathOk.j0 k (!t243) l0_0 l0_1)))
theorem impl_PathOk.mono_l : ∀ k, (∀ y0 y1 y2, LeO (impl_PathOk.j0 k y0 y1 y2) (impl_PathOk.j0 (k + 1) y0 y1 y2)) ∧ (∀ y0 y1 y2 y3 y4 y5, LeO (impl_PathOk.l0 k y0 y1 y2 y3 y4 y5) (impl_PathOk.l0 (k + 1) y0 y1 y2 y3 y4 y5))
 | 0 => ⟨fun _ _ _ r h => by simp [impl_PathOk.j0] at h, fun _ _ _ _ _ _ r h => by simp [impl_PathOk.l0] at h⟩
 | k + 1 => by
  obtain ⟨ih0, ih1⟩ := impl_PathOk.mono_l k
  refine ⟨?_, ?_⟩
  ·intro y0 y1 y2
   unfold impl_PathOk.j0
   repeat' first
   | (with_reducible exact ih0 _ _ _)
   | (with_reducible exact ih1 _ _ _ _ _ _)
   | (with_reducible exact impl_NeedOf.mono _ _)
   | (with_reducible exact impl_pointsOk.mono _ _)
   | (with_reducible exact LeO.refl _)
   | (with_reducible exact LeO.none _)
   | (with_reducible refine LeO.ite ?_ ?_)
   | (with_reducible refine LeO.bind ?_ (fun _ => ?_))
  ·intro y0 y1 y2 y3 y4 y5
   unfold impl_PathOk.l0
   repeat' first
   | (with_reducible exact ih0 _ _ _)
   | (with_reducible exact ih1 _ _ _ _ _ _)
   | (with_reducible exact impl_NeedOf.mono _ _)
   | (with_reducible exact impl_pointsOk.mono _ _)
   | (with_reducible exact LeO.refl _)
   | (with_reducible exact LeO.none _)
   | (with_reducible refine LeO.ite ?_ ?_)
   | (with_reducible refine LeO.bind ?_ (fun _ => ?_))
theorem impl_PathOk.mono : ∀ a0 a1 k, LeO (impl_PathOk.f k a0 a1) (impl_PathOk.f (k + 1) a0 a1) := by
 intro a0 a1 k
 obtain ⟨ih0, ih1⟩ := impl_PathOk.mono_l k
 unfold impl_PathOk.f
 repeat' first
   | (with_reducible exact ih0 _ _ _)
   | (with_reducible exact ih1 _ _ _ _ _ _)
   | (with_reducible exact impl_NeedOf.mono _ _)
   | (with_reducible exact impl_pointsOk.mono _ _)
   | (with_reducible exact LeO.refl _)
   | (with_reducible exact LeO.none _)
   | (with_reducible refine LeO.ite ?_ ?_)
   | (with_reducible refine LeO.bind ?_ (fun _ => ?_))
set_option maxHeartbeats 8000000 in
set_option maxRecDepth 100000 in
theorem impl_PathOk.calls (k : Nat) (A0_0 : Option Addr) (c0_0 : Nat) (l0_0 : List Int) (A0_1 : Option Addr) (c0_1 : Nat) (l0_1 : List (S46)) (r : Bool) (w : World) (hr0_0 : Kd.C (Kd.int .i64) w A0_0 l0_0.length l0_0) (hc0_0 : l0_0.length ≤ c0_0) (hr0_1 : Kd.C k46 w A0_1 l0_1.length l0_1) (hc0_1 : l0_1.length ≤ c0_1) (h : impl_PathOk.f k l0_0 l0_1 = some r) :
  Calls Try.prog 27 #[.agg #[.slice A0_0 l0_0.length c0_0, .slice A0_1 l0_1.length c0_1]] w fun e w' => e = .returned (.bool r) ∧ Below w.heap.size w w' := by
 have hu31 := Try.underlying31
 have HR0_0 := mk0 hr0_0
 have HC0_0 := mk0 hc0_0
 clear hr0_0 hc0_0
 have HR0_1 := mk0 hr0_1
 have HC0_1 := mk0 hc0_1
 clear hr0_1 hc0_1
 have HB := mk0 (Below.refl w.heap.size w)
 have H : (if (l0_1.length : Int) > 24 then (impl_PathOk.j0 k true l0_0 l0_1) else (if (l0_0.length : Int) > 24 then (impl_PathOk.j0 k true l0_0 l0_1) else ((impl_pointsOk.f k l0_1).bind fun t243 => (impl_PathOk.j0 k (!t243) l0_0 l0_1)))) = some r := h
 clear h
 have HC2 := mk0 H
 clear H
 go_enter Try.func27, Try.ntmps27
 go_upto_region 1 with (first | ((with_reducible refine gate_dst (N := 1) rfl ?_); (try (refine gate_guard (by rfl) ?_; dsimp only)); refine boxz (cs := #[.slice A0_0 l0_0.length c0_0, .slice A0_1 l0_1.length c0_1]) (t := 31) rfl ?_; intro gb242 hg w3 hbox hb; have n0_ := mk0 (below_step z7_0 hb); have n1_ := mk0 (hbox); have GW242 := mk0 (ge_go (a := w.heap.size) hg (below_size z7_0)); have GE242 := GW242; clear HB; have HB := n0_; have BK242 := n1_; clear n0_ n1_ ; clear hb hbox hg))
 (try simp only [Act.put, List.setIfInBounds_toArray, List.set_cons_zero, List.set_cons_succ])
 go_cut [23] (fun v23 wc => ∃ (kq : Nat) (x23_1 : Bool), v23 = .bool x23_1 ∧ Aside0 (impl_PathOk.j0 kq x23_1 l0_0 l0_1 = some r) ∧ Aside0 (kq ≤ k) ∧ Aside0 (wc.heap[gb242]? = some (.cells #[(.slice A0_0 l0_0.length c0_0), (.slice A0_1 l0_1.length c0_1)] 31 (0, 0))) ∧ Aside0 (Below w.heap.size w wc))
 case first =>
  have H := HC2.out; clear HC2
  by_cases c4 : (l0_1.length : Int) > 24
  ·rw [if_pos c4] at H
   have c4b0 := decide_eq_true c4
   have c4b1 : decide (24 < l0_1.length) = true := decide_eq_true (by omega)
   clear c4
   (first | rw [c4b0] | (simp only [i64_w, i32_w]; rw [c4b0]) | skip)
   have H' := mk0 H
   clear H
   obtain ⟨_, _, _, _⟩ := be_2 BK242.out
   go_wp2
   go_meet
   case rel => exact ⟨_, (true), rs0, H', ⟨(by first | omega | exact Nat.le_refl _)⟩, ⟨pkb BK242⟩, ⟨z7_2⟩⟩
  rw [if_neg c4] at H
  have c4b0 := decide_eq_false c4
  have c4b1 : decide (24 < l0_1.length) = false := decide_eq_false (by omega)
  clear c4
  (first | rw [c4b0] | (simp only [i64_w, i32_w]; rw [c4b0]) | skip)
  by_cases c6 : (l0_0.length : Int) > 24
  ·rw [if_pos c6] at H
   have c6b0 := decide_eq_true c6
   have c6b1 : decide (24 < l0_0.length) = true := decide_eq_true (by omega)
   clear c6
   have H' := mk0 H
   clear H
   obtain ⟨_, _, _, _⟩ := be_2 BK242.out
   go_wp2
   go_meet
   case rel => exact ⟨_, (true), rs0, H', ⟨(by first | omega | exact Nat.le_refl _)⟩, ⟨pkb BK242⟩, ⟨z7_2⟩⟩
  rw [if_neg c6] at H
  have c6b0 := decide_eq_false c6
  have c6b1 : decide (24 < l0_0.length) = false := decide_eq_false (by omega)
  clear c6
  replace H := Option.bind_eq_some_iff.mp H
  obtain ⟨t243, A80, H⟩ := H
  try dsimp only at H
  have A8 := mk0 A80
  clear A80
  have H' := mk0 H
  clear H
  obtain ⟨_, _, _, _⟩ := be_2 BK242.out
  go_wp2_with (first | (go_at_call 44; (with_reducible refine (impl_pointsOk.calls k _ _ l0_1 t243 _ ?side1 ?side2 A8.out).mono ?_); (case side1 => repeat (first | exact (Kd.C_below HR0_1.out HB.out) | (with_reducible refine Kd.C_alloc ?_ _) | (with_reducible refine Kd.C_drewN ?_ _) | (with_reducible refine Kd.C_drew ?_))); (case side2 => exact HC0_1.out); rintro e w10 ⟨rfl, hb⟩; have n0_ := mk0 (blk_belowB BK242 (pkb BK242) hb); have n1_ := mk0 (below_step z7_2 hb); clear BK242 HB; have BK242 := n0_; have HB := n1_; clear n0_ n1_; (try clear hb)))
  go_meet
  case rel => exact ⟨_, (!t243), rs0, H', ⟨(by first | omega | exact Nat.le_refl _)⟩, ⟨pkb BK242⟩, ⟨z7_2⟩⟩
 case rest =>
  clear HC2; try clear c2
  try clear p2
  try clear c4
  try clear c4b0
  try clear c4b1
  try clear c6
  try clear c6b0
  try clear c6b1
  try clear hcz5_0
  try clear hcz5_1
  try clear hcz7_0
  try clear hcz7_1
  try clear hcz9_0
  try clear hcz9_1
  try clear hfz5_0
  try clear hfz5_1
  try clear hfz7_0
  try clear hfz7_1
  try clear hfz9_0
  try clear hfz9_1
  obtain ⟨kq, x23_1, rfl, HA, HJ1, BK242, HB⟩ := hcut
  cases kq with
  | zero => exact absurd HA.out (by simp [impl_PathOk.j0])
  | succ kj1 =>
   have H := HA.out; clear HA
   simp only [impl_PathOk.j0] at H
   by_cases c11 : x23_1 = true
   ·subst c11
    rw [if_pos rfl] at H
    obtain rfl := Option.some.inj H
    simp only [Option.some.injEq, Prod.mk.injEq] at H
    obtain ⟨rfl⟩ := H
    go_wp2
    go_ret
    exact ⟨z7_8, z7_2⟩
   replace c11 := Bool.eq_false_iff.mpr c11
   subst c11
   rw [if_neg (show ¬ (false = true) by decide)] at H
   have H' := mk0 H
   clear H
   obtain ⟨_, _, _, _⟩ := be_2 BK242.out
   go_wp2
   go_loopg [3, 27] kj1 (fun kq v3 v27 w' => ∃ (x3_2 : Int) (x27_2 : Int), v3 = .int .i64 x3_2 ∧ v27 = .int .i64 x27_2 ∧ Aside0 (impl_PathOk.l0 kq x3_2 l0_0 (l0_0.length : Int) x27_2 l0_0 l0_1 = some r) ∧ Aside0 (kq ≤ kj1) ∧ Aside0 (w'.heap[gb242]? = some (.cells #[(.slice A0_0 l0_0.length c0_0), (.slice A0_1 l0_1.length c0_1)] 31 (0, 0))) ∧ Aside0 (Below w.heap.size w w'))
   case atStart => exact ⟨(0), (0), rs0, rs0, H', ⟨Nat.le_refl _⟩, ⟨pkb BK242⟩, ⟨z7_2⟩⟩
   case round =>
    clear H'
    try clear c1
    try clear c2
    try clear p2
    try clear c4
    try clear c4b0
    try clear c4b1
    try clear c6
    try clear c6b0
    try clear c6b1
    try clear c11
    try clear hcz12_0
    try clear hcz12_1
    try clear hcz5_0
    try clear hcz5_1
    try clear hcz7_0
    try clear hcz7_1
    try clear hcz9_0
    try clear hcz9_1
    try clear hfz12_0
    try clear hfz12_1
    try clear hfz5_0
    try clear hfz5_1
    try clear hfz7_0
    try clear hfz7_1
    try clear hfz9_0
    try clear hfz9_1
    try clear p2
    obtain ⟨x3_2, x27_2, rfl, rfl, HA, HK2, BK242, HB⟩ := hrel
    cases gk with
    | zero => exact absurd HA.out (by simp [impl_PathOk.l0])
    | succ k2 =>
     have H := HA.out; clear HA
     simp only [impl_PathOk.l0] at H
     by_cases c13 : x27_2 < (l0_0.length : Int)
     rotate_left
     ·rw [if_neg c13] at H
      have c13b0 := decide_eq_false c13
      clear c13
      obtain rfl := Option.some.inj H
      simp only [Option.some.injEq, Prod.mk.injEq] at H
      obtain ⟨rfl⟩ := H
      obtain ⟨_, _, _, _⟩ := be_2 BK242.out
      go_wp2
      go_ret
      exact ⟨z7_8, z7_2⟩
     rw [if_pos c13] at H
     have c13b0 := decide_eq_true c13
     clear c13
     by_cases c14 : 0 ≤ x27_2
     rotate_left
     ·rw [if_neg c14] at H
      exact absurd H (by simp)
     rw [if_pos c14] at H
     have c14b0 := decide_eq_true c14
     clear c14
     by_cases c15 : x27_2 < (l0_0.length : Int)
     rotate_left
     ·rw [if_neg c15] at H
      exact absurd H (by simp)
     rw [if_pos c15] at H
     have c15b0 := decide_eq_true c15
     clear c15
     replace H := Option.bind_eq_some_iff.mp H
     obtain ⟨t245, A160, H⟩ := H
     try dsimp only at H
     have A16 := mk0 A160
     clear A160
     by_cases c17 : x27_2 = 0
     ·rw [if_pos c17] at H
      have c17b0 : (x27_2 == 0) = true := beq_iff_eq.mpr c17
      have c17b1 : (x27_2 != 0) = false := bne_eq_false_iff_eq.mpr c17
      clear c17
      by_cases c18 : t245 < 0
      ·rw [if_pos c18] at H
       have c18b0 := decide_eq_true c18
       clear c18
       obtain rfl := Option.some.inj H
       simp only [Option.some.injEq, Prod.mk.injEq] at H
       obtain ⟨rfl⟩ := H
       have p244 : 0 ≤ (x27_2 : Int) := of_decide_eq_true (by first | (with_reducible assumption) | assumption)
       have q244 : x27_2 < (l0_0.length : Int) := of_decide_eq_true (by first | (with_reducible assumption) | assumption)
       obtain ⟨ad244, e244, hx244_0⟩ := Kd.at_int HR0_0.out x27_2 p244 q244
       cases e244
       replace hx244_0 := cell_go HB hx244_0
       replace p244 := eq_true p244
       replace q244 := eq_true q244
       go_wp2_with (first | ((with_reducible refine gate_callee (f := 28) rfl ?_); refine goesL_ (some 33) rfl rfl Try.func28 (by kernel_rfl) rfl #[.int .i64 (rd l0_0 x27_2)] rfl z7_4 ?_; (with_reducible refine (impl_NeedOf.calls k2 (rd l0_0 x27_2) t245 _ A16.out).mono ?_); rintro e w' ⟨rfl, ⟨nd, rfl⟩⟩; refine ⟨_, rfl, ?_⟩))
       go_ret
       exact ⟨z7_8, z7_2⟩
      rw [if_neg c18] at H
      have c18b0 := decide_eq_false c18
      clear c18
      by_cases c19 : (rd l0_0 x27_2) = 1
      rotate_left
      ·rw [if_neg c19] at H
       have c19b0 : ((rd l0_0 x27_2) == 1) = false := beq_eq_false_iff_ne.mpr c19
       have c19b1 : ((rd l0_0 x27_2) != 1) = true := bne_iff_ne.mpr c19
       obtain rfl := Option.some.inj H
       simp only [Option.some.injEq, Prod.mk.injEq] at H
       obtain ⟨rfl⟩ := H
       have p244 : 0 ≤ (x27_2 : Int) := of_decide_eq_true (by first | (with_reducible assumption) | assumption)
       have q244 : x27_2 < (l0_0.length : Int) := of_decide_eq_true (by first | (with_reducible assumption) | assumption)
       obtain ⟨ad244, e244, hx244_0⟩ := Kd.at_int HR0_0.out x27_2 p244 q244
       cases e244
       replace hx244_0 := cell_go HB hx244_0
       replace p244 := eq_true p244
       replace q244 := eq_true q244
       go_wp2_with (first | ((with_reducible refine gate_callee (f := 28) rfl ?_); refine goesL_ (some 33) rfl rfl Try.func28 (by kernel_rfl) rfl #[.int .i64 (rd l0_0 x27_2)] rfl z7_4 ?_; (with_reducible refine (impl_NeedOf.calls k2 (rd l0_0 x27_2) t245 _ A16.out).mono ?_); rintro e w' ⟨rfl, ⟨nd, rfl⟩⟩; refine ⟨_, rfl, ?_⟩))
       go_ret
       exact ⟨z7_8, z7_2⟩
      rw [if_pos c19] at H
      have c19b0 : ((rd l0_0 x27_2) == 1) = true := beq_iff_eq.mpr c19
      have c19b1 : ((rd l0_0 x27_2) != 1) = false := bne_eq_false_iff_eq.mpr c19
      clear c19
      have H' := mk0 H
      clear H
      have p244 : 0 ≤ (x27_2 : Int) := of_decide_eq_true (by first | (with_reducible assumption) | assumption)
      have q244 : x27_2 < (l0_0.length : Int) := of_decide_eq_true (by first | (with_reducible assumption) | assumption)
      obtain ⟨ad244, e244, hx244_0⟩ := Kd.at_int HR0_0.out x27_2 p244 q244
      cases e244
      replace hx244_0 := cell_go HB hx244_0
      replace p244 := eq_true p244
      replace q244 := eq_true q244
      go_wp2_with (first | ((with_reducible refine gate_callee (f := 28) rfl ?_); refine goesL_ (some 33) rfl rfl Try.func28 (by kernel_rfl) rfl #[.int .i64 (rd l0_0 x27_2)] rfl z7_4 ?_; (with_reducible refine (impl_NeedOf.calls k2 (rd l0_0 x27_2) t245 _ A16.out).mono ?_); rintro e w' ⟨rfl, ⟨nd, rfl⟩⟩; refine ⟨_, rfl, ?_⟩))
      go_roundg k2
      case measure => have := HJ1.out; have := HK2.out; omega
      case rel => exact ⟨(wrap64 (x3_2 + t245)), (wrap64 (x27_2 + 1)), rs0, rs0, H', ⟨(by have := HJ1.out; have := HK2.out; omega)⟩, ⟨pkb BK242⟩, ⟨z7_2⟩⟩
     rw [if_neg c17] at H
     have c17b0 : (x27_2 == 0) = false := beq_eq_false_iff_ne.mpr c17
     have c17b1 : (x27_2 != 0) = true := bne_iff_ne.mpr c17
     obtain ⟨ji20, hji20⟩ : ∃ j_ : Int, (wrap64 (x27_2 - 1)) = j_ := ⟨_, rfl⟩
     replace H : (if 0 ≤ (ji20) then (if (ji20) < (l0_0.length : Int) then (if t245 < 0 then (some false) else (if (rd l0_0 (ji20)) = 5 then (if (rd l0_0 x27_2) = 1 then (impl_PathOk.l0 k2 (wrap64 (x3_2 + t245)) l0_0 (l0_0.length : Int) (wrap64 (x27_2 + 1)) l0_0 l0_1) else (some false)) else (impl_PathOk.l0 k2 (wrap64 (x3_2 + t245)) l0_0 (l0_0.length : Int) (wrap64 (x27_2 + 1)) l0_0 l0_1))) else (none)) else (none)) = some r := by first | (rw [hji20] at H; exact H) | (simp only [hji20] at H ⊢; exact H)
     (try rw [hji20] at A16)
     have hji20w : (IntKind.i64.wrap (x27_2 - 1)) = ji20 := (i64_w _).trans hji20
     by_cases c21 : 0 ≤ (ji20)
     rotate_left
     ·rw [if_neg c21] at H
      exact absurd H (by simp)
     rw [if_pos c21] at H
     have c21b0 := decide_eq_true c21
     clear c21
     by_cases c22 : (ji20) < (l0_0.length : Int)
     rotate_left
     ·rw [if_neg c22] at H
      exact absurd H (by simp)
     rw [if_pos c22] at H
     have c22b0 := decide_eq_true c22
     clear c22
     by_cases c23 : t245 < 0
     ·rw [if_pos c23] at H
      have c23b0 := decide_eq_true c23
      clear c23
      obtain rfl := Option.some.inj H
      simp only [Option.some.injEq, Prod.mk.injEq] at H
      obtain ⟨rfl⟩ := H
      have p244 : 0 ≤ (x27_2 : Int) := of_decide_eq_true (by first | (with_reducible assumption) | assumption)
      have q244 : x27_2 < (l0_0.length : Int) := of_decide_eq_true (by first | (with_reducible assumption) | assumption)
      obtain ⟨ad244, e244, hx244_0⟩ := Kd.at_int HR0_0.out x27_2 p244 q244
      cases e244
      replace hx244_0 := cell_go HB hx244_0
      replace p244 := eq_true p244
      replace q244 := eq_true q244
      go_wp2_with (first | ((with_reducible refine gate_callee (f := 28) rfl ?_); refine goesL_ (some 33) rfl rfl Try.func28 (by kernel_rfl) rfl #[.int .i64 (rd l0_0 x27_2)] rfl z7_4 ?_; (with_reducible refine (impl_NeedOf.calls k2 (rd l0_0 x27_2) t245 _ A16.out).mono ?_); rintro e w' ⟨rfl, ⟨nd, rfl⟩⟩; refine ⟨_, rfl, ?_⟩; obtain ⟨_, _, _, _⟩ := be_2 BK242.out; have p246 : 0 ≤ ((ji20) : Int) := of_decide_eq_true (by first | (with_reducible assumption) | assumption); have q246 : (ji20) < (l0_0.length : Int) := of_decide_eq_true (by first | (with_reducible assumption) | assumption); obtain ⟨ad246, e246, hx246_0⟩ := Kd.at_int HR0_0.out (ji20) p246 q246; obtain rfl : ad244 = ad246 := (by injection e246); replace hx246_0 := cell_go HB hx246_0; replace p246 := eq_true p246; replace q246 := eq_true q246))
      go_ret
      exact ⟨z7_24, z7_2⟩
     rw [if_neg c23] at H
     have c23b0 := decide_eq_false c23
     clear c23
     by_cases c25 : (rd l0_0 (ji20)) = 5
     rotate_left
     ·rw [if_neg c25] at H
      have c25b0 : ((rd l0_0 (ji20)) == 5) = false := beq_eq_false_iff_ne.mpr c25
      have c25b1 : ((rd l0_0 (ji20)) != 5) = true := bne_iff_ne.mpr c25
      have H' := mk0 H
      clear H
      have p244 : 0 ≤ (x27_2 : Int) := of_decide_eq_true (by first | (with_reducible assumption) | assumption)
      have q244 : x27_2 < (l0_0.length : Int) := of_decide_eq_true (by first | (with_reducible assumption) | assumption)
      obtain ⟨ad244, e244, hx244_0⟩ := Kd.at_int HR0_0.out x27_2 p244 q244
      cases e244
      replace hx244_0 := cell_go HB hx244_0
      replace p244 := eq_true p244
      replace q244 := eq_true q244
      go_wp2_with (first | ((with_reducible refine gate_callee (f := 28) rfl ?_); refine goesL_ (some 33) rfl rfl Try.func28 (by kernel_rfl) rfl #[.int .i64 (rd l0_0 x27_2)] rfl z7_4 ?_; (with_reducible refine (impl_NeedOf.calls k2 (rd l0_0 x27_2) t245 _ A16.out).mono ?_); rintro e w' ⟨rfl, ⟨nd, rfl⟩⟩; refine ⟨_, rfl, ?_⟩; obtain ⟨_, _, _, _⟩ := be_2 BK242.out; have p246 : 0 ≤ ((ji20) : Int) := of_decide_eq_true (by first | (with_reducible assumption) | assumption); have q246 : (ji20) < (l0_0.length : Int) := of_decide_eq_true (by first | (with_reducible assumption) | assumption); obtain ⟨ad246, e246, hx246_0⟩ := Kd.at_int HR0_0.out (ji20) p246 q246; obtain rfl : ad244 = ad246 := (by injection e246); replace hx246_0 := cell_go HB hx246_0; replace p246 := eq_true p246; replace q246 := eq_true q246))
      go_roundg k2
      case measure => have := HJ1.out; have := HK2.out; omega
      case rel => exact ⟨(wrap64 (x3_2 + t245)), (wrap64 (x27_2 + 1)), rs0, rs0, H', ⟨(by have := HJ1.out; have := HK2.out; omega)⟩, ⟨pkb BK242⟩, ⟨z7_2⟩⟩
     rw [if_pos c25] at H
     have c25b0 : ((rd l0_0 (ji20)) == 5) = true := beq_iff_eq.mpr c25
     have c25b1 : ((rd l0_0 (ji20)) != 5) = false := bne_eq_false_iff_eq.mpr c25
     clear c25
     by_cases c26 : (rd l0_0 x27_2) = 1
     rotate_left
     ·rw [if_neg c26] at H
      have c26b0 : ((rd l0_0 x27_2) == 1) = false := beq_eq_false_iff_ne.mpr c26
      have c26b1 : ((rd l0_0 x27_2) != 1) = true := bne_iff_ne.mpr c26
      obtain rfl := Option.some.inj H
      simp only [Option.some.injEq, Prod.mk.injEq] at H
      obtain ⟨rfl⟩ := H
      have p244 : 0 ≤ (x27_2 : Int) := of_decide_eq_true (by first | (with_reducible assumption) | assumption)
      have q244 : x27_2 < (l0_0.length : Int) := of_decide_eq_true (by first | (with_reducible assumption) | assumption)
      obtain ⟨ad244, e244, hx244_0⟩ := Kd.at_int HR0_0.out x27_2 p244 q244
      cases e244
      replace hx244_0 := cell_go HB hx244_0
      replace p244 := eq_true p244
      replace q244 := eq_true q244
      go_wp2_with (first | ((with_reducible refine gate_callee (f := 28) rfl ?_); refine goesL_ (some 33) rfl rfl Try.func28 (by kernel_rfl) rfl #[.int .i64 (rd l0_0 x27_2)] rfl z7_4 ?_; (with_reducible refine (impl_NeedOf.calls k2 (rd l0_0 x27_2) t245 _ A16.out).mono ?_); rintro e w' ⟨rfl, ⟨nd, rfl⟩⟩; refine ⟨_, rfl, ?_⟩; obtain ⟨_, _, _, _⟩ := be_2 BK242.out; have p246 : 0 ≤ ((ji20) : Int) := of_decide_eq_true (by first | (with_reducible assumption) | assumption); have q246 : (ji20) < (l0_0.length : Int) := of_decide_eq_true (by first | (with_reducible assumption) | assumption); obtain ⟨ad246, e246, hx246_0⟩ := Kd.at_int HR0_0.out (ji20) p246 q246; obtain rfl : ad244 = ad246 := (by injection e246); replace hx246_0 := cell_go HB hx246_0; replace p246 := eq_true p246; replace q246 := eq_true q246))
      go_ret
      exact ⟨z7_24, z7_2⟩
     rw [if_pos c26] at H
     have c26b0 : ((rd l0_0 x27_2) == 1) = true := beq_iff_eq.mpr c26
     have c26b1 : ((rd l0_0 x27_2) != 1) = false := bne_eq_false_iff_eq.mpr c26
     clear c26
     have H' := mk0 H
     clear H
     have p244 : 0 ≤ (x27_2 : Int) := of_decide_eq_true (by first | (with_reducible assumption) | assumption)
     have q244 : x27_2 < (l0_0.length : Int) := of_decide_eq_true (by first | (with_reducible assumption) | assumption)
     obtain ⟨ad244, e244, hx244_0⟩ := Kd.at_int HR0_0.out x27_2 p244 q244
     cases e244
     replace hx244_0 := cell_go HB hx244_0
     replace p244 := eq_true p244
     replace q244 := eq_true q244
     go_wp2_with (first | ((with_reducible refine gate_callee (f := 28) rfl ?_); refine goesL_ (some 33) rfl rfl Try.func28 (by kernel_rfl) rfl #[.int .i64 (rd l0_0 x27_2)] rfl z7_4 ?_; (with_reducible refine (impl_NeedOf.calls k2 (rd l0_0 x27_2) t245 _ A16.out).mono ?_); rintro e w' ⟨rfl, ⟨nd, rfl⟩⟩; refine ⟨_, rfl, ?_⟩; obtain ⟨_, _, _, _⟩ := be_2 BK242.out; have p246 : 0 ≤ ((ji20) : Int) := of_decide_eq_true (by first | (with_reducible assumption) | assumption); have q246 : (ji20) < (l0_0.length : Int) := of_decide_eq_true (by first | (with_reducible assumption) | assumption); obtain ⟨ad246, e246, hx246_0⟩ := Kd.at_int HR0_0.out (ji20) p246 q246; obtain rfl : ad244 = ad246 := (by injection e246); replace hx246_0 := cell_go HB hx246_0; replace p246 := eq_true p246; replace q246 := eq_true q246))
     go_roundg k2
     case measure => have := HJ1.out; have := HK2.out; omega
     case rel => exact ⟨(wrap64 (x3_2 + t245)), (wrap64 (x27_2 + 1)), rs0, rs0, H', ⟨(by have := HJ1.out; have := HK2.out; omega)⟩, ⟨pkb BK242⟩, ⟨z7_2⟩⟩

/-! ### impl_Clamp: function 57 -/
def impl_Clamp.f (a0 : Int) (a1 : Int) (a2 : Int) : Option (Int) := if a0 < a1 then (some a1) else (if a0 > a2 then (some a2) else (some a0))
set_option maxHeartbeats 8000000 in
set_option maxRecDepth 100000 in
theorem impl_Clamp.calls (a0 : Int) (a1 : Int) (a2 : Int) (r : Int) (w : World) (h : impl_Clamp.f a0 a1 a2 = some r) :
  Calls Try.prog 57 #[.int .i64 a0, .int .i64 a1, .int .i64 a2] w fun e w' => e = .returned (.int .i64 r) ∧ Drawn0 w w' := by
 have H : (if a0 < a1 then (some a1) else (if a0 > a2 then (some a2) else (some a0))) = some r := h
 clear h
 by_cases c4 : a0 < a1
 ·rw [if_pos c4] at H
  have c4b0 := decide_eq_true c4
  clear c4
  obtain rfl := Option.some.inj H
  simp only [Option.some.injEq, Prod.mk.injEq] at H
  obtain ⟨rfl⟩ := H
  go_enter Try.func57, Try.ntmps57
  go_wp2
  go_ret
  exact ⟨rs0, z7_10⟩
 rw [if_neg c4] at H
 have c4b0 := decide_eq_false c4
 clear c4
 by_cases c5 : a0 > a2
 ·rw [if_pos c5] at H
  have c5b0 := decide_eq_true c5
  clear c5
  obtain rfl := Option.some.inj H
  simp only [Option.some.injEq, Prod.mk.injEq] at H
  obtain ⟨rfl⟩ := H
  go_enter Try.func57, Try.ntmps57
  go_wp2
  go_ret
  exact ⟨rs0, z7_10⟩
 rw [if_neg c5] at H
 have c5b0 := decide_eq_false c5
 clear c5
 obtain rfl := Option.some.inj H
 simp only [Option.some.injEq, Prod.mk.injEq] at H
 obtain ⟨rfl⟩ := H
 go_enter Try.func57, Try.ntmps57
 go_wp2
 go_ret
 exact ⟨rs0, z7_10⟩

/-! ### impl_FloorDiv: function 65 -/
def impl_FloorDiv.f (a0 : Int) (a1 : Int) : Option (Int) := if a1 < 1 then (some 0) else (if a1 = 0 then (none) else (if (Int.tmod a0 a1) < 0 then (some (wrap64 ((wrap64 (Int.tdiv a0 a1)) - 1))) else (some (wrap64 (Int.tdiv a0 a1)))))
set_option maxHeartbeats 8000000 in
set_option maxRecDepth 100000 in
theorem impl_FloorDiv.calls (a0 : Int) (a1 : Int) (r : Int) (w : World) (h : impl_FloorDiv.f a0 a1 = some r) :
  Calls Try.prog 65 #[.int .i64 a0, .int .i64 a1] w fun e w' => e = .returned (.int .i64 r) ∧ Drawn0 w w' := by
 have H : (if a1 < 1 then (some 0) else (if a1 = 0 then (none) else (if (Int.tmod a0 a1) < 0 then (some (wrap64 ((wrap64 (Int.tdiv a0 a1)) - 1))) else (some (wrap64 (Int.tdiv a0 a1)))))) = some r := h
 clear h
 by_cases c3 : a1 < 1
 ·rw [if_pos c3] at H
  have c3b0 := decide_eq_true c3
  clear c3
  obtain rfl := Option.some.inj H
  simp only [Option.some.injEq, Prod.mk.injEq] at H
  obtain ⟨rfl⟩ := H
  go_enter Try.func65, Try.ntmps65
  go_wp2
  go_ret
  exact ⟨rs0, z7_10⟩
 rw [if_neg c3] at H
 have c3b0 := decide_eq_false c3
 clear c3
 by_cases c4 : a1 = 0
 ·rw [if_pos c4] at H
  exact absurd H (by simp)
 rw [if_neg c4] at H
 have c4b0 : (a1 == 0) = false := beq_eq_false_iff_ne.mpr c4
 have c4b1 : (a1 != 0) = true := bne_iff_ne.mpr c4
 by_cases c5 : (Int.tmod a0 a1) < 0
 ·rw [if_pos c5] at H
  have c5b0 := decide_eq_true c5
  clear c5
  obtain rfl := Option.some.inj H
  simp only [Option.some.injEq, Prod.mk.injEq] at H
  obtain ⟨rfl⟩ := H
  go_enter Try.func65, Try.ntmps65
  go_wp2
  go_ret
  exact ⟨rs0, z7_10⟩
 rw [if_neg c5] at H
 have c5b0 := decide_eq_false c5
 clear c5
 obtain rfl := Option.some.inj H
 simp only [Option.some.injEq, Prod.mk.injEq] at H
 obtain ⟨rfl⟩ := H
 go_enter Try.func65, Try.ntmps65
 go_wp2
 go_ret
 exact ⟨rs0, z7_10⟩

/-! ### impl_RoundDiv: function 63 -/
def impl_RoundDiv.f (a0 : Int) (a1 : Int) : Option (Int) := if a1 < 1 then (some 0) else ((impl_FloorDiv.f a0 a1).bind fun t247 => (if (wrap64 (a0 - (wrap64 (t247 * a1)))) ≥ (wrap64 (a1 - (wrap64 (a0 - (wrap64 (t247 * a1)))))) then (some (wrap64 (t247 + 1))) else (some t247)))
set_option maxHeartbeats 8000000 in
set_option maxRecDepth 100000 in
theorem impl_RoundDiv.calls (a0 : Int) (a1 : Int) (r : Int) (w : World) (h : impl_RoundDiv.f a0 a1 = some r) :
  Calls Try.prog 63 #[.int .i64 a0, .int .i64 a1] w fun e w' => e = .returned (.int .i64 r) ∧ Drawn0 w w' := by
 have H : (if a1 < 1 then (some 0) else ((impl_FloorDiv.f a0 a1).bind fun t247 => (if (wrap64 (a0 - (wrap64 (t247 * a1)))) ≥ (wrap64 (a1 - (wrap64 (a0 - (wrap64 (t247 * a1)))))) then (some (wrap64 (t247 + 1))) else (some t247)))) = some r := h
 clear h
 by_cases c3 : a1 < 1
 ·rw [if_pos c3] at H
  have c3b0 := decide_eq_true c3
  clear c3
  obtain rfl := Option.some.inj H
  simp only [Option.some.injEq, Prod.mk.injEq] at H
  obtain ⟨rfl⟩ := H
  go_enter Try.func63, Try.ntmps63
  go_wp2
  go_ret
  exact ⟨rs0, z7_10⟩
 rw [if_neg c3] at H
 have c3b0 := decide_eq_false c3
 clear c3
 replace H := Option.bind_eq_some_iff.mp H
 obtain ⟨t247, A40, H⟩ := H
 try dsimp only at H
 have A4 := mk0 A40
 clear A40
 by_cases c5 : (wrap64 (a0 - (wrap64 (t247 * a1)))) ≥ (wrap64 (a1 - (wrap64 (a0 - (wrap64 (t247 * a1))))))
 ·rw [if_pos c5] at H
  have c5b0 := decide_eq_true c5
  clear c5
  obtain rfl := Option.some.inj H
  simp only [Option.some.injEq, Prod.mk.injEq] at H
  obtain ⟨rfl⟩ := H
  go_enter Try.func63, Try.ntmps63
  go_wp2_with (first | ((with_reducible refine gate_callee (f := 65) rfl ?_); refine goesL_ (some 11) rfl rfl Try.func65 (by kernel_rfl) rfl #[.int .i64 a0, .int .i64 a1] rfl z7_4 ?_; (with_reducible refine (impl_FloorDiv.calls a0 a1 t247 _ A4.out).mono ?_); rintro e w' ⟨rfl, ⟨nd, rfl⟩⟩; refine ⟨_, rfl, ?_⟩))
  go_ret
  exact ⟨rs0, z7_10⟩
 rw [if_neg c5] at H
 have c5b0 := decide_eq_false c5
 clear c5
 obtain rfl := Option.some.inj H
 simp only [Option.some.injEq, Prod.mk.injEq] at H
 obtain ⟨rfl⟩ := H
 go_enter Try.func63, Try.ntmps63
 go_wp2_with (first | ((with_reducible refine gate_callee (f := 65) rfl ?_); refine goesL_ (some 11) rfl rfl Try.func65 (by kernel_rfl) rfl #[.int .i64 a0, .int .i64 a1] rfl z7_4 ?_; (with_reducible refine (impl_FloorDiv.calls a0 a1 t247 _ A4.out).mono ?_); rintro e w' ⟨rfl, ⟨nd, rfl⟩⟩; refine ⟨_, rfl, ?_⟩))
 go_ret
 exact ⟨rs0, z7_10⟩

/-! ### impl_weighed: function 58 -/
def impl_weighed.l0 : Nat → List Int → Int → Int → Int → List (S46) → Int → Int → Option (Int × Int)
 | 0, _, _, _, _, _, _, _ => none
 | k + 1, x1, x2, x7, x8, x15, x16, x17 => if x17 < x16 then (if 0 ≤ x17 then (if x17 < (x15.length : Int) then (if x17 < (x1.length : Int) then (impl_weighed.l0 k x1 x2 (wrap64 (x7 + (wrap64 (((rd_T46 x15 x17).f0) * (rd x1 x17))))) (wrap64 (x8 + (wrap64 (((rd_T46 x15 x17).f1) * (rd x1 x17))))) x15 x16 (wrap64 (x17 + 1))) else (none)) else (none)) else (none)) else ((impl_RoundDiv.f x7 x2).bind fun t254 => ((impl_RoundDiv.f x8 x2).bind fun t255 => (some (t254, t255))))
def impl_weighed.f (k : Nat) (l0 : List (S46)) (l1 : List Int) (a2 : Int) : Option (Int × Int) := (impl_pointsOk.f k l0).bind fun t249 => (if t249 = true then (impl_weighed.l0 k l1 a2 0 0 l0 (l0.length : Int) 0) else (some (0, 0)))
theorem impl_weighed.mono_l : ∀ k, (∀ y0 y1 y2 y3 y4 y5 y6, LeO (impl_weighed.l0 k y0 y1 y2 y3 y4 y5 y6) (impl_weighed.l0 (k + 1) y0 y1 y2 y3 y4 y5 y6))
 | 0 => fun _ _ _ _ _ _ _ r h => by simp [impl_weighed.l0] at h
 | k + 1 => by
  have ih0 := impl_weighed.mono_l k
  ·intro y0 y1 y2 y3 y4 y5 y6
   unfold impl_weighed.l0
   repeat' first
   | (with_reducible exact ih0 _ _ _ _ _ _ _)
   | (with_reducible exact impl_pointsOk.mono _ _)
   | (with_reducible exact LeO.refl _)
   | (with_reducible exact LeO.none _)
   | (with_reducible refine LeO.ite ?_ ?_)
   | (with_reducible refine LeO.bind ?_ (fun _ => ?_))
theorem impl_weighed.mono : ∀ a0 a1 a2 k, LeO (impl_weighed.f k a0 a1 a2) (impl_weighed.f (k + 1) a0 a1 a2) := by
 intro a0 a1 a2 k
 have ih0 := impl_weighed.mono_l k
 unfold impl_weighed.f
 repeat' first
   | (with_reducible exact ih0 _ _ _ _ _ _ _)
   | (with_reducible exact impl_pointsOk.mono _ _)
   | (with_reducible exact LeO.refl _)
   | (with_reducible exact LeO.none _)
   | (with_reducible refine LeO.ite ?_ ?_)
   | (with_reducible refine LeO.bind ?_ (fun _ => ?_))
set_option maxHeartbeats 8000000 in
set_option maxRecDepth 100000 in
theorem impl_weighed.calls (k : Nat) (A0 : Option Addr) (c0 : Nat) (l0 : List (S46)) (A1 : Option Addr) (c1 : Nat) (l1 : List Int) (a2 : Int) (r1 : Int) (r2 : Int) (w : World) (hr0 : Kd.C k46 w A0 l0.length l0) (hc0 : l0.length ≤ c0) (hr1 : Kd.C (Kd.int .i64) w A1 l1.length l1) (hc1 : l1.length ≤ c1) (h : impl_weighed.f k l0 l1 a2 = some (r1, r2)) :
  Calls Try.prog 58 #[.slice A0 l0.length c0, .slice A1 l1.length c1, .int .i64 a2] w fun e w' => e = .returned (.agg #[.int .i64 r1, .int .i64 r2]) ∧ Below w.heap.size w w' := by
 have hu46 := Try.underlying46
 have HR0 := mk0 hr0
 have HC0 := mk0 hc0
 clear hr0 hc0
 have HR1 := mk0 hr1
 have HC1 := mk0 hc1
 clear hr1 hc1
 have HB := mk0 (Below.refl w.heap.size w)
 have H : ((impl_pointsOk.f k l0).bind fun t249 => (if t249 = true then (impl_weighed.l0 k l1 a2 0 0 l0 (l0.length : Int) 0) else (some (0, 0)))) = some (r1, r2) := h
 clear h
 replace H := Option.bind_eq_some_iff.mp H
 obtain ⟨t249, A40, H⟩ := H
 try dsimp only at H
 have A4 := mk0 A40
 clear A40
 by_cases c5 : t249 = true
 rotate_left
 ·replace c5 := Bool.eq_false_iff.mpr c5
  subst c5
  rw [if_neg (show ¬ (false = true) by decide)] at H
  simp only [Option.some.injEq, Prod.mk.injEq] at H
  obtain ⟨rfl, rfl⟩ := H
  go_enter Try.func58, Try.ntmps58
  go_wp2_with (first | ((with_reducible refine gate_dst (N := 6) rfl ?_); refine boxz (cs := #[.int .i64 0, .int .i64 0]) (t := 46) rfl ?_; intro gb248 hg w18 hbox hb; have n0_ := mk0 (below_step z7_0 hb); have n1_ := mk0 (hbox); have GW248 := mk0 (ge_go (a := w.heap.size) hg (below_size z7_0)); have GE248 := GW248; clear HB; have HB := n0_; have BK248 := n1_; clear n0_ n1_ ; clear hb hbox hg) | (go_at_call 44; (with_reducible refine (impl_pointsOk.calls k _ _ l0 false _ ?side1 ?side2 A4.out).mono ?_); (case side1 => exact z7_6); (case side2 => exact HC0.out); rintro e w19 ⟨rfl, hb⟩; have n0_ := mk0 (blk_belowB BK248 (pkb BK248) hb); have n1_ := mk0 (below_step z7_1 hb); clear BK248 HB; have BK248 := n0_; have HB := n1_; clear n0_ n1_; (try clear hb); obtain ⟨_, _, _, _⟩ := be_2 BK248.out))
  repeat (go_quiet (first | ((with_reducible refine gate_dst (N := 6) rfl ?_); refine boxz (cs := #[.int .i64 0, .int .i64 0]) (t := 46) rfl ?_; intro gb248 hg w18 hbox hb; have n0_ := mk0 (below_step z7_0 hb); have n1_ := mk0 (hbox); have GW248 := mk0 (ge_go (a := w.heap.size) hg (below_size z7_0)); have GE248 := GW248; clear HB; have HB := n0_; have BK248 := n1_; clear n0_ n1_ ; clear hb hbox hg) | (go_at_call 44; (with_reducible refine (impl_pointsOk.calls k _ _ l0 false _ ?side1 ?side2 A4.out).mono ?_); (case side1 => exact z7_6); (case side2 => exact HC0.out); rintro e w19 ⟨rfl, hb⟩; have n0_ := mk0 (blk_belowB BK248 (pkb BK248) hb); have n1_ := mk0 (below_step z7_1 hb); clear BK248 HB; have BK248 := n0_; have HB := n1_; clear n0_ n1_; (try clear hb); have hcz20_0 : w19.cell? ⟨gb248, 0, none⟩ = some (.int .i64 0) := (blk_cell BK248.out 0).trans rfl; have hcz20_1 : w19.cell? ⟨gb248, 1, none⟩ = some (.int .i64 0) := (blk_cell BK248.out 1).trans rfl; have hfz20_0 := blk_frozen BK248.out 0; have hfz20_1 := blk_frozen BK248.out 1)); try go_wp2_with (first | ((with_reducible refine gate_dst (N := 6) rfl ?_); refine boxz (cs := #[.int .i64 0, .int .i64 0]) (t := 46) rfl ?_; intro gb248 hg w18 hbox hb; have n0_ := mk0 (below_step z7_0 hb); have n1_ := mk0 (hbox); have GW248 := mk0 (ge_go (a := w.heap.size) hg (below_size z7_0)); have GE248 := GW248; clear HB; have HB := n0_; have BK248 := n1_; clear n0_ n1_ ; clear hb hbox hg) | (go_at_call 44; (with_reducible refine (impl_pointsOk.calls k _ _ l0 false _ ?side1 ?side2 A4.out).mono ?_); (case side1 => exact z7_6); (case side2 => exact HC0.out); rintro e w19 ⟨rfl, hb⟩; have n0_ := mk0 (blk_belowB BK248 (pkb BK248) hb); have n1_ := mk0 (below_step z7_1 hb); clear BK248 HB; have BK248 := n0_; have HB := n1_; clear n0_ n1_; (try clear hb); have hcz20_0 : w19.cell? ⟨gb248, 0, none⟩ = some (.int .i64 0) := (blk_cell BK248.out 0).trans rfl; have hcz20_1 : w19.cell? ⟨gb248, 1, none⟩ = some (.int .i64 0) := (blk_cell BK248.out 1).trans rfl; have hfz20_0 := blk_frozen BK248.out 0; have hfz20_1 := blk_frozen BK248.out 1)))
  refine bodyPost_ret (results_cell_row rfl _ _ gb248 46 #[.int .i64 0, .int .i64 0] (0, 0) _ rfl z7_19 Try.underlying46 rfl (by kernel_rfl)) rfl ?_
  exact ⟨z7_8, z7_1⟩
 subst c5
 rw [if_pos rfl] at H
 have H' := mk0 H
 clear H
 go_enter Try.func58, Try.ntmps58
 go_wp2_with (first | ((with_reducible refine gate_dst (N := 6) rfl ?_); refine boxz (cs := #[.int .i64 0, .int .i64 0]) (t := 46) rfl ?_; intro gb248 hg w6 hbox hb; have n0_ := mk0 (below_step z7_0 hb); have n1_ := mk0 (hbox); have GW248 := mk0 (ge_go (a := w.heap.size) hg (below_size z7_0)); have GE248 := GW248; clear HB; have HB := n0_; have BK248 := n1_; clear n0_ n1_ ; clear hb hbox hg) | (go_at_call 44; (with_reducible refine (impl_pointsOk.calls k _ _ l0 true _ ?side1 ?side2 A4.out).mono ?_); (case side1 => exact z7_6); (case side2 => exact HC0.out); rintro e w7 ⟨rfl, hb⟩; have n0_ := mk0 (blk_belowB BK248 (pkb BK248) hb); have n1_ := mk0 (below_step z7_1 hb); clear BK248 HB; have BK248 := n0_; have HB := n1_; clear n0_ n1_; (try clear hb)))
 repeat (go_quiet (first | ((with_reducible refine gate_dst (N := 6) rfl ?_); refine boxz (cs := #[.int .i64 0, .int .i64 0]) (t := 46) rfl ?_; intro gb248 hg w6 hbox hb; have n0_ := mk0 (below_step z7_0 hb); have n1_ := mk0 (hbox); have GW248 := mk0 (ge_go (a := w.heap.size) hg (below_size z7_0)); have GE248 := GW248; clear HB; have HB := n0_; have BK248 := n1_; clear n0_ n1_ ; clear hb hbox hg) | (go_at_call 44; (with_reducible refine (impl_pointsOk.calls k _ _ l0 true _ ?side1 ?side2 A4.out).mono ?_); (case side1 => exact z7_6); (case side2 => exact HC0.out); rintro e w7 ⟨rfl, hb⟩; have n0_ := mk0 (blk_belowB BK248 (pkb BK248) hb); have n1_ := mk0 (below_step z7_1 hb); clear BK248 HB; have BK248 := n0_; have HB := n1_; clear n0_ n1_; (try clear hb))); try go_wp2_with (first | ((with_reducible refine gate_dst (N := 6) rfl ?_); refine boxz (cs := #[.int .i64 0, .int .i64 0]) (t := 46) rfl ?_; intro gb248 hg w6 hbox hb; have n0_ := mk0 (below_step z7_0 hb); have n1_ := mk0 (hbox); have GW248 := mk0 (ge_go (a := w.heap.size) hg (below_size z7_0)); have GE248 := GW248; clear HB; have HB := n0_; have BK248 := n1_; clear n0_ n1_ ; clear hb hbox hg) | (go_at_call 44; (with_reducible refine (impl_pointsOk.calls k _ _ l0 true _ ?side1 ?side2 A4.out).mono ?_); (case side1 => exact z7_6); (case side2 => exact HC0.out); rintro e w7 ⟨rfl, hb⟩; have n0_ := mk0 (blk_belowB BK248 (pkb BK248) hb); have n1_ := mk0 (below_step z7_1 hb); clear BK248 HB; have BK248 := n0_; have HB := n1_; clear n0_ n1_; (try clear hb))))
 go_loopg [7, 8, 17] k (fun kq v7 v8 v17 w' => ∃ (x7_1 : Int) (x8_1 : Int) (x17_1 : Int), v7 = .int .i64 x7_1 ∧ v8 = .int .i64 x8_1 ∧ v17 = .int .i64 x17_1 ∧ Aside0 (impl_weighed.l0 kq l1 a2 x7_1 x8_1 l0 (l0.length : Int) x17_1 = some (r1, r2)) ∧ Aside0 (kq ≤ k) ∧ Aside0 (w'.heap[gb248]? = some (.cells #[.int .i64 0, .int .i64 0] 46 (0, 0))) ∧ Aside0 (Below w.heap.size w w'))
 case atStart => exact ⟨(0), (0), (0), rs0, rs0, rs0, H', ⟨Nat.le_refl _⟩, ⟨pkb BK248⟩, ⟨z7_1⟩⟩
 case round =>
  clear H'
  try clear c1
  try clear p2
  try clear c5
  obtain ⟨x7_1, x8_1, x17_1, rfl, rfl, rfl, HA, HK1, BK248, HB⟩ := hrel
  cases gk with
  | zero => exact absurd HA.out (by simp [impl_weighed.l0])
  | succ k1 =>
   have H := HA.out; clear HA
   simp only [impl_weighed.l0] at H
   by_cases c8 : x17_1 < (l0.length : Int)
   rotate_left
   ·rw [if_neg c8] at H
    have c8b0 := decide_eq_false c8
    clear c8
    replace H := Option.bind_eq_some_iff.mp H
    obtain ⟨t254, A150, H⟩ := H
    try dsimp only at H
    have A15 := mk0 A150
    clear A150
    replace H := Option.bind_eq_some_iff.mp H
    obtain ⟨t255, A160, H⟩ := H
    try dsimp only at H
    have A16 := mk0 A160
    clear A160
    simp only [Option.some.injEq, Prod.mk.injEq] at H
    obtain ⟨rfl, rfl⟩ := H
    go_wp2_with (first | (go_at_call 63; (with_reducible refine (impl_RoundDiv.calls x7_1 a2 t254 _ A15.out).mono ?_); rintro e w' ⟨rfl, ⟨nd, rfl⟩⟩; (try first | exact ⟨rfl, _, World.drewN_drewN _ _ _⟩ | exact ⟨rfl, _, Eq.trans (World.drewN_drewN _ _ _) (congrArg (World.drewN _) (Nat.add_assoc _ _ _))⟩)) | (go_at_call 63; (with_reducible refine (impl_RoundDiv.calls x8_1 a2 t255 _ A16.out).mono ?_); rintro e w' ⟨rfl, ⟨nd, rfl⟩⟩; (try first | exact ⟨rfl, _, World.drewN_drewN _ _ _⟩ | exact ⟨rfl, _, Eq.trans (World.drewN_drewN _ _ _) (congrArg (World.drewN _) (Nat.add_assoc _ _ _))⟩); obtain ⟨_, _, _, _⟩ := be_2 BK248.out))
    repeat (go_quiet (first | (go_at_call 63; (with_reducible refine (impl_RoundDiv.calls x7_1 a2 t254 _ A15.out).mono ?_); rintro e w' ⟨rfl, ⟨nd, rfl⟩⟩; (try first | exact ⟨rfl, _, World.drewN_drewN _ _ _⟩ | exact ⟨rfl, _, Eq.trans (World.drewN_drewN _ _ _) (congrArg (World.drewN _) (Nat.add_assoc _ _ _))⟩)) | (go_at_call 63; (with_reducible refine (impl_RoundDiv.calls x8_1 a2 t255 _ A16.out).mono ?_); rintro e w' ⟨rfl, ⟨nd, rfl⟩⟩; (try first | exact ⟨rfl, _, World.drewN_drewN _ _ _⟩ | exact ⟨rfl, _, Eq.trans (World.drewN_drewN _ _ _) (congrArg (World.drewN _) (Nat.add_assoc _ _ _))⟩); have hcz17_0 : wr.cell? ⟨gb248, 0, none⟩ = some (.int .i64 0) := (blk_cell BK248.out 0).trans rfl; have hcz17_1 : wr.cell? ⟨gb248, 1, none⟩ = some (.int .i64 0) := (blk_cell BK248.out 1).trans rfl; have hfz17_0 := blk_frozen BK248.out 0; have hfz17_1 := blk_frozen BK248.out 1)); try go_wp2_with (first | (go_at_call 63; (with_reducible refine (impl_RoundDiv.calls x7_1 a2 t254 _ A15.out).mono ?_); rintro e w' ⟨rfl, ⟨nd, rfl⟩⟩; (try first | exact ⟨rfl, _, World.drewN_drewN _ _ _⟩ | exact ⟨rfl, _, Eq.trans (World.drewN_drewN _ _ _) (congrArg (World.drewN _) (Nat.add_assoc _ _ _))⟩)) | (go_at_call 63; (with_reducible refine (impl_RoundDiv.calls x8_1 a2 t255 _ A16.out).mono ?_); rintro e w' ⟨rfl, ⟨nd, rfl⟩⟩; (try first | exact ⟨rfl, _, World.drewN_drewN _ _ _⟩ | exact ⟨rfl, _, Eq.trans (World.drewN_drewN _ _ _) (congrArg (World.drewN _) (Nat.add_assoc _ _ _))⟩); have hcz17_0 : wr.cell? ⟨gb248, 0, none⟩ = some (.int .i64 0) := (blk_cell BK248.out 0).trans rfl; have hcz17_1 : wr.cell? ⟨gb248, 1, none⟩ = some (.int .i64 0) := (blk_cell BK248.out 1).trans rfl; have hfz17_0 := blk_frozen BK248.out 0; have hfz17_1 := blk_frozen BK248.out 1)))
    refine bodyPost_ret (results_cell_row rfl _ _ gb248 46 #[.int .i64 t254, .int .i64 t255] (0, 0) _ rfl z7_19 Try.underlying46 rfl (by kernel_rfl)) rfl ?_
    exact ⟨z7_8, z7_1⟩
   rw [if_pos c8] at H
   have c8b0 := decide_eq_true c8
   clear c8
   by_cases c9 : 0 ≤ x17_1
   rotate_left
   ·rw [if_neg c9] at H
    exact absurd H (by simp)
   rw [if_pos c9] at H
   have c9b0 := decide_eq_true c9
   clear c9
   by_cases c10 : x17_1 < (l0.length : Int)
   rotate_left
   ·rw [if_neg c10] at H
    exact absurd H (by simp)
   rw [if_pos c10] at H
   have c10b0 := decide_eq_true c10
   clear c10
   by_cases c11 : x17_1 < (l1.length : Int)
   rotate_left
   ·rw [if_neg c11] at H
    exact absurd H (by simp)
   rw [if_pos c11] at H
   have c11b0 := decide_eq_true c11
   clear c11
   have H' := mk0 H
   clear H
   have p250 : 0 ≤ (x17_1 : Int) := of_decide_eq_true (by first | (with_reducible assumption) | assumption)
   have q250 : x17_1 < (l0.length : Int) := of_decide_eq_true (by first | (with_reducible assumption) | assumption)
   obtain ⟨ad250, e250, hx250_0, hx250_1⟩ := at_T46 HR0.out x17_1 p250 q250
   cases e250
   replace hx250_0 := cell_go HB hx250_0
   replace hx250_1 := cell_go HB hx250_1
   replace p250 := eq_true p250
   replace q250 := eq_true q250
   go_wp2_with (first | ((with_reducible refine gate_dst (N := 10) rfl ?_); refine boxz (cs := #[.int .i64 0, .int .i64 0]) (t := 46) rfl ?_; intro gb251 hg w12 hbox hb; have n0_ := mk0 (blk_belowB BK248 (pkb BK248) hb); have n1_ := mk0 (below_step z7_1 hb); have n2_ := mk0 (hbox); have GW251 := mk0 (ge_go (a := w.heap.size) hg (below_size z7_1)); have GE251 := GW251; have NB248_251 := mk0 (nb_lt hg (blk_ltB BK248 (pkb BK248))); have NB251_248 := mk0 (nb_gt hg (blk_ltB BK248 (pkb BK248))); clear BK248 HB; have BK248 := n0_; have HB := n1_; have BK251 := n2_; clear n0_ n1_ n2_ ; clear hb hbox hg; have hnb13 := NB251_248.out; have hnc13 := NB248_251.out; obtain ⟨_, _, _, _⟩ := be_2 BK251.out; have p252 : 0 ≤ (x17_1 : Int) := of_decide_eq_true (by first | (with_reducible assumption) | assumption); have q252 : x17_1 < (l1.length : Int) := of_decide_eq_true (by first | (with_reducible assumption) | assumption); obtain ⟨ad252, e252, hx252_0⟩ := Kd.at_int HR1.out x17_1 p252 q252; cases e252; have hn252_0 : ad252.block ≠ gb251 := Nat.ne_of_lt (Nat.lt_of_lt_of_le z7_11 GW251.out); have hn252_1 : ad252.block ≠ gb251 := Nat.ne_of_lt (Nat.lt_of_lt_of_le z7_11 GW251.out); replace hx252_0 := cell_go HB hx252_0; replace hx252_0 := (cell_far (p := ⟨gb251, 0, none⟩) z7_20 (.int .i64 ((rd_T46 l0 x17_1).f0))).trans hx252_0; replace hx252_0 := (cell_far (p := ⟨gb251, 1, none⟩) z7_21 (.int .i64 ((rd_T46 l0 x17_1).f1))).trans hx252_0; (try have hy252_0 := fun (n_ : Nat) => (show ((((w12.drewN n_).setCell ⟨gb251, 0, none⟩ (.int .i64 ((rd_T46 l0 x17_1).f0))).setCell ⟨gb251, 1, none⟩ (.int .i64 ((rd_T46 l0 x17_1).f1)))).cell? _ = some _ from hx252_0)); clear hn252_0 hn252_1; replace p252 := eq_true p252; replace q252 := eq_true q252; have p253 : 0 ≤ (x17_1 : Int) := of_decide_eq_true (by first | (with_reducible assumption) | assumption); have q253 : x17_1 < (l1.length : Int) := of_decide_eq_true (by first | (with_reducible assumption) | assumption); obtain ⟨ad253, e253, hx253_0⟩ := Kd.at_int HR1.out x17_1 p253 q253; obtain rfl : ad252 = ad253 := (by injection e253); have hn253_0 : ad252.block ≠ gb251 := Nat.ne_of_lt (Nat.lt_of_lt_of_le z7_12 GW251.out); have hn253_1 : ad252.block ≠ gb251 := Nat.ne_of_lt (Nat.lt_of_lt_of_le z7_12 GW251.out); replace hx253_0 := cell_go HB hx253_0; replace hx253_0 := (cell_far (p := ⟨gb251, 0, none⟩) z7_22 (.int .i64 ((rd_T46 l0 x17_1).f0))).trans hx253_0; replace hx253_0 := (cell_far (p := ⟨gb251, 1, none⟩) z7_23 (.int .i64 ((rd_T46 l0 x17_1).f1))).trans hx253_0; (try have hy253_0 := fun (n_ : Nat) => (show ((((w12.drewN n_).setCell ⟨gb251, 0, none⟩ (.int .i64 ((rd_T46 l0 x17_1).f0))).setCell ⟨gb251, 1, none⟩ (.int .i64 ((rd_T46 l0 x17_1).f1)))).cell? _ = some _ from hx253_0)); clear hn253_0 hn253_1; replace p253 := eq_true p253; replace q253 := eq_true q253))
   repeat (go_quiet (first | ((with_reducible refine gate_dst (N := 10) rfl ?_); refine boxz (cs := #[.int .i64 0, .int .i64 0]) (t := 46) rfl ?_; intro gb251 hg w12 hbox hb; have n0_ := mk0 (blk_belowB BK248 (pkb BK248) hb); have n1_ := mk0 (below_step z7_1 hb); have n2_ := mk0 (hbox); have GW251 := mk0 (ge_go (a := w.heap.size) hg (below_size z7_1)); have GE251 := GW251; have NB248_251 := mk0 (nb_lt hg (blk_ltB BK248 (pkb BK248))); have NB251_248 := mk0 (nb_gt hg (blk_ltB BK248 (pkb BK248))); clear BK248 HB; have BK248 := n0_; have HB := n1_; have BK251 := n2_; clear n0_ n1_ n2_ ; clear hb hbox hg; have hnb13 := NB251_248.out; have hnc13 := NB248_251.out; have hcz14_0 : w12.cell? ⟨gb251, 0, none⟩ = some (.int .i64 0) := (blk_cell BK251.out 0).trans rfl; have hcz14_1 : w12.cell? ⟨gb251, 1, none⟩ = some (.int .i64 0) := (blk_cell BK251.out 1).trans rfl; have hfz14_0 := blk_frozen BK251.out 0; have hfz14_1 := blk_frozen BK251.out 1; have p252 : 0 ≤ (x17_1 : Int) := of_decide_eq_true (by first | (with_reducible assumption) | assumption); have q252 : x17_1 < (l1.length : Int) := of_decide_eq_true (by first | (with_reducible assumption) | assumption); obtain ⟨ad252, e252, hx252_0⟩ := Kd.at_int HR1.out x17_1 p252 q252; cases e252; have hn252_0 : ad252.block ≠ gb251 := Nat.ne_of_lt (Nat.lt_of_lt_of_le z7_11 GW251.out); have hn252_1 : ad252.block ≠ gb251 := Nat.ne_of_lt (Nat.lt_of_lt_of_le z7_11 GW251.out); replace hx252_0 := cell_go HB hx252_0; replace hx252_0 := (cell_far (p := ⟨gb251, 0, none⟩) z7_20 (.int .i64 ((rd_T46 l0 x17_1).f0))).trans hx252_0; replace hx252_0 := (cell_far (p := ⟨gb251, 1, none⟩) z7_21 (.int .i64 ((rd_T46 l0 x17_1).f1))).trans hx252_0; (try have hy252_0 := fun (n_ : Nat) => (show ((((w12.drewN n_).setCell ⟨gb251, 0, none⟩ (.int .i64 ((rd_T46 l0 x17_1).f0))).setCell ⟨gb251, 1, none⟩ (.int .i64 ((rd_T46 l0 x17_1).f1)))).cell? _ = some _ from hx252_0)); clear hn252_0 hn252_1; replace p252 := eq_true p252; replace q252 := eq_true q252; have p253 : 0 ≤ (x17_1 : Int) := of_decide_eq_true (by first | (with_reducible assumption) | assumption); have q253 : x17_1 < (l1.length : Int) := of_decide_eq_true (by first | (with_reducible assumption) | assumption); obtain ⟨ad253, e253, hx253_0⟩ := Kd.at_int HR1.out x17_1 p253 q253; obtain rfl : ad252 = ad253 := (by injection e253); have hn253_0 : ad252.block ≠ gb251 := Nat.ne_of_lt (Nat.lt_of_lt_of_le z7_12 GW251.out); have hn253_1 : ad252.block ≠ gb251 := Nat.ne_of_lt (Nat.lt_of_lt_of_le z7_12 GW251.out); replace hx253_0 := cell_go HB hx253_0; replace hx253_0 := (cell_far (p := ⟨gb251, 0, none⟩) z7_22 (.int .i64 ((rd_T46 l0 x17_1).f0))).trans hx253_0; replace hx253_0 := (cell_far (p := ⟨gb251, 1, none⟩) z7_23 (.int .i64 ((rd_T46 l0 x17_1).f1))).trans hx253_0; (try have hy253_0 := fun (n_ : Nat) => (show ((((w12.drewN n_).setCell ⟨gb251, 0, none⟩ (.int .i64 ((rd_T46 l0 x17_1).f0))).setCell ⟨gb251, 1, none⟩ (.int .i64 ((rd_T46 l0 x17_1).f1)))).cell? _ = some _ from hx253_0)); clear hn253_0 hn253_1; replace p253 := eq_true p253; replace q253 := eq_true q253)); try go_wp2_with (first | ((with_reducible refine gate_dst (N := 10) rfl ?_); refine boxz (cs := #[.int .i64 0, .int .i64 0]) (t := 46) rfl ?_; intro gb251 hg w12 hbox hb; have n0_ := mk0 (blk_belowB BK248 (pkb BK248) hb); have n1_ := mk0 (below_step z7_1 hb); have n2_ := mk0 (hbox); have GW251 := mk0 (ge_go (a := w.heap.size) hg (below_size z7_1)); have GE251 := GW251; have NB248_251 := mk0 (nb_lt hg (blk_ltB BK248 (pkb BK248))); have NB251_248 := mk0 (nb_gt hg (blk_ltB BK248 (pkb BK248))); clear BK248 HB; have BK248 := n0_; have HB := n1_; have BK251 := n2_; clear n0_ n1_ n2_ ; clear hb hbox hg; have hnb13 := NB251_248.out; have hnc13 := NB248_251.out; obtain ⟨_, _, _, _⟩ := be_2 BK251.out; have p252 : 0 ≤ (x17_1 : Int) := of_decide_eq_true (by first | (with_reducible assumption) | assumption); have q252 : x17_1 < (l1.length : Int) := of_decide_eq_true (by first | (with_reducible assumption) | assumption); obtain ⟨ad252, e252, hx252_0⟩ := Kd.at_int HR1.out x17_1 p252 q252; cases e252; have hn252_0 : ad252.block ≠ gb251 := Nat.ne_of_lt (Nat.lt_of_lt_of_le z7_11 GW251.out); have hn252_1 : ad252.block ≠ gb251 := Nat.ne_of_lt (Nat.lt_of_lt_of_le z7_11 GW251.out); replace hx252_0 := cell_go HB hx252_0; replace hx252_0 := (cell_far (p := ⟨gb251, 0, none⟩) z7_20 (.int .i64 ((rd_T46 l0 x17_1).f0))).trans hx252_0; replace hx252_0 := (cell_far (p := ⟨gb251, 1, none⟩) z7_21 (.int .i64 ((rd_T46 l0 x17_1).f1))).trans hx252_0; (try have hy252_0 := fun (n_ : Nat) => (show ((((w12.drewN n_).setCell ⟨gb251, 0, none⟩ (.int .i64 ((rd_T46 l0 x17_1).f0))).setCell ⟨gb251, 1, none⟩ (.int .i64 ((rd_T46 l0 x17_1).f1)))).cell? _ = some _ from hx252_0)); clear hn252_0 hn252_1; replace p252 := eq_true p252; replace q252 := eq_true q252; have p253 : 0 ≤ (x17_1 : Int) := of_decide_eq_true (by first | (with_reducible assumption) | assumption); have q253 : x17_1 < (l1.length : Int) := of_decide_eq_true (by first | (with_reducible assumption) | assumption); obtain ⟨ad253, e253, hx253_0⟩ := Kd.at_int HR1.out x17_1 p253 q253; obtain rfl : ad252 = ad253 := (by injection e253); have hn253_0 : ad252.block ≠ gb251 := Nat.ne_of_lt (Nat.lt_of_lt_of_le z7_12 GW251.out); have hn253_1 : ad252.block ≠ gb251 := Nat.ne_of_lt (Nat.lt_of_lt_of_le z7_12 GW251.out); replace hx253_0 := cell_go HB hx253_0; replace hx253_0 := (cell_far (p := ⟨gb251, 0, none⟩) z7_22 (.int .i64 ((rd_T46 l0 x17_1).f0))).trans hx253_0; replace hx253_0 := (cell_far (p := ⟨gb251, 1, none⟩) z7_23 (.int .i64 ((rd_T46 l0 x17_1).f1))).trans hx253_0; (try have hy253_0 := fun (n_ : Nat) => (show ((((w12.drewN n_).setCell ⟨gb251, 0, none⟩ (.int .i64 ((rd_T46 l0 x17_1).f0))).setCell ⟨gb251, 1, none⟩ (.int .i64 ((rd_T46 l0 x17_1).f1)))).cell? _ = some _ from hx253_0)); clear hn253_0 hn253_1; replace p253 := eq_true p253; replace q253 := eq_true q253)))
   go_roundg k1
   case measure => have := HK1.out; omega
   case rel => exact ⟨(wrap64 (x7_1 + (wrap64 (((rd_T46 l0 x17_1).f0) * (rd l1 x17_1))))), (wrap64 (x8_1 + (wrap64 (((rd_T46 l0 x17_1).f1) * (rd l1 x17_1))))), (wrap64 (x17_1 + 1)), rs0, rs0, rs0, H', ⟨(by have := HK1.out; omega)⟩, ⟨(by (with_reducible repeat (first | refine blk_drewN ?_ _ | refine blk_drew ?_ | refine blk_alloc ?_ _)); refine blk_far ?_ NB248_251.out _; (with_reducible repeat (first | refine blk_drewN ?_ _ | refine blk_drew ?_ | refine blk_alloc ?_ _)); refine blk_far ?_ NB248_251.out _; (with_reducible repeat (first | refine blk_drewN ?_ _ | refine blk_drew ?_ | refine blk_alloc ?_ _)); exact BK248.out)⟩, ⟨(by repeat (first | (with_reducible first | exact HB.out | apply below_alloc | apply pw_below_drewN | apply below_drew1 | refine below_set ?_ GE248.out | refine below_set ?_ GE251.out) | exact HB.out))⟩⟩

/-! ### impl_QuadAt: function 45 -/
def impl_QuadAt.f (k : Nat) (a0_0 : Int) (a0_1 : Int) (a1_0 : Int) (a1_1 : Int) (a2_0 : Int) (a2_1 : Int) (a3 : Int) : Option (Int × Int) := (impl_Clamp.f a3 0 4).bind fun t260 => ((impl_weighed.f k (([(⟨a0_0, a0_1⟩ : S46), (⟨a1_0, a1_1⟩ : S46), (⟨a2_0, a2_1⟩ : S46)] : List (S46))) (([wrap64 ((wrap64 (4 - t260)) * (wrap64 (4 - t260))), wrap64 ((wrap64 (2 * t260)) * (wrap64 (4 - t260))), wrap64 (t260 * t260)] : List Int)) 16).bind fun bt267 => (some (bt267.1, bt267.2)))
theorem impl_QuadAt.mono : ∀ a0 a1 a2 a3 a4 a5 a6 k, LeO (impl_QuadAt.f k a0 a1 a2 a3 a4 a5 a6) (impl_QuadAt.f (k + 1) a0 a1 a2 a3 a4 a5 a6) := by
 intro a0 a1 a2 a3 a4 a5 a6 k
 unfold impl_QuadAt.f
 repeat' first
   | (with_reducible exact impl_weighed.mono _ _ _ _)
   | (with_reducible exact LeO.refl _)
   | (with_reducible exact LeO.none _)
   | (with_reducible refine LeO.ite ?_ ?_)
   | (with_reducible refine LeO.bind ?_ (fun _ => ?_))
set_option maxHeartbeats 8000000 in
set_option maxRecDepth 100000 in
theorem impl_QuadAt.calls (k : Nat) (a0_0 : Int) (a0_1 : Int) (a1_0 : Int) (a1_1 : Int) (a2_0 : Int) (a2_1 : Int) (a3 : Int) (r1 : Int) (r2 : Int) (w : World) (h : impl_QuadAt.f k a0_0 a0_1 a1_0 a1_1 a2_0 a2_1 a3 = some (r1, r2)) :
  Calls Try.prog 45 #[.agg #[.int .i64 a0_0, .int .i64 a0_1], .agg #[.int .i64 a1_0, .int .i64 a1_1], .agg #[.int .i64 a2_0, .int .i64 a2_1], .int .i64 a3] w fun e w' => e = .returned (.agg #[.int .i64 r1, .int .i64 r2]) ∧ Below w.heap.size w w' := by
 have hu46 := Try.underlying46
 have HB := mk0 (Below.refl w.heap.size w)
 have H : ((impl_Clamp.f a3 0 4).bind fun t260 => ((impl_weighed.f k (([(⟨a0_0, a0_1⟩ : S46), (⟨a1_0, a1_1⟩ : S46), (⟨a2_0, a2_1⟩ : S46)] : List (S46))) (([wrap64 ((wrap64 (4 - t260)) * (wrap64 (4 - t260))), wrap64 ((wrap64 (2 * t260)) * (wrap64 (4 - t260))), wrap64 (t260 * t260)] : List Int)) 16).bind fun bt267 => (some (bt267.1, bt267.2)))) = some (r1, r2) := h
 clear h
 replace H := Option.bind_eq_some_iff.mp H
 obtain ⟨t260, A50, H⟩ := H
 try dsimp only at H
 have A5 := mk0 A50
 clear A50
 obtain ⟨y261, hy_⟩ : ∃ y_ : List (S46), y_ = (([(⟨a0_0, a0_1⟩ : S46), (⟨a1_0, a1_1⟩ : S46), (⟨a2_0, a2_1⟩ : S46)] : List (S46))) := ⟨_, rfl⟩
 replace H : ((impl_weighed.f k y261 (([wrap64 ((wrap64 (4 - t260)) * (wrap64 (4 - t260))), wrap64 ((wrap64 (2 * t260)) * (wrap64 (4 - t260))), wrap64 (t260 * t260)] : List Int)) 16).bind fun bt267 => (some (bt267.1, bt267.2))) = some (r1, r2) := z7_7
 have Ny261 := mk0 hy_
 clear hy_
 obtain ⟨y264, hy_⟩ : ∃ y_ : List Int, y_ = (([wrap64 ((wrap64 (4 - t260)) * (wrap64 (4 - t260))), wrap64 ((wrap64 (2 * t260)) * (wrap64 (4 - t260))), wrap64 (t260 * t260)] : List Int)) := ⟨_, rfl⟩
 replace H : ((impl_weighed.f k y261 y264 16).bind fun bt267 => (some (bt267.1, bt267.2))) = some (r1, r2) := z7_7
 have Ny264 := mk0 hy_
 clear hy_
 replace H := Option.bind_eq_some_iff.mp H
 obtain ⟨⟨t267, t268⟩, A60, H⟩ := H
 try dsimp only at H
 have A6 := mk0 A60
 clear A60
 simp only [Option.some.injEq, Prod.mk.injEq] at H
 obtain ⟨rfl, rfl⟩ := H
 go_enter Try.func45, Try.ntmps45
 go_wp2_with (first | ((with_reducible refine gate_dst (N := 4) rfl ?_); refine boxz (cs := #[.int .i64 a0_0, .int .i64 a0_1]) (t := 46) rfl ?_; intro gb256 hg w7 hbox hb; have n0_ := mk0 (below_step z7_0 hb); have n1_ := mk0 (hbox); have GW256 := mk0 (ge_go (a := w.heap.size) hg (below_size z7_0)); have GE256 := GW256; clear HB; have HB := n0_; have BK256 := n1_; clear n0_ n1_ ; clear hb hbox hg) | ((with_reducible refine gate_dst (N := 5) rfl ?_); refine boxz (cs := #[.int .i64 a1_0, .int .i64 a1_1]) (t := 46) rfl ?_; intro gb257 hg w8 hbox hb; have n0_ := mk0 (blk_belowB BK256 (pkb BK256) hb); have n1_ := mk0 (below_step z7_17 hb); have n2_ := mk0 (hbox); have GW257 := mk0 (ge_go (a := w.heap.size) hg (below_size z7_17)); have GE257 := GW257; have NB256_257 := mk0 (nb_lt hg (blk_ltB BK256 (pkb BK256))); have NB257_256 := mk0 (nb_gt hg (blk_ltB BK256 (pkb BK256))); clear BK256 HB; have BK256 := n0_; have HB := n1_; have BK257 := n2_; clear n0_ n1_ n2_ ; clear hb hbox hg) | ((with_reducible refine gate_dst (N := 6) rfl ?_); refine boxz (cs := #[.int .i64 a2_0, .int .i64 a2_1]) (t := 46) rfl ?_; intro gb258 hg w9 hbox hb; have n0_ := mk0 (blk_belowB BK256 (pkb BK256) hb); have n1_ := mk0 (blk_belowB BK257 (pkb BK257) hb); have n2_ := mk0 (below_step z7_15 hb); have n3_ := mk0 (hbox); have GW258 := mk0 (ge_go (a := w.heap.size) hg (below_size z7_15)); have GE258 := GW258; have NB256_258 := mk0 (nb_lt hg (blk_ltB BK256 (pkb BK256))); have NB258_256 := mk0 (nb_gt hg (blk_ltB BK256 (pkb BK256))); have NB257_258 := mk0 (nb_lt hg (blk_ltB BK257 (pkb BK257))); have NB258_257 := mk0 (nb_gt hg (blk_ltB BK257 (pkb BK257))); clear BK256 BK257 HB; have BK256 := n0_; have BK257 := n1_; have HB := n2_; have BK258 := n3_; clear n0_ n1_ n2_ n3_ ; clear hb hbox hg) | ((with_reducible refine gate_dst (N := 8) rfl ?_); refine boxz (cs := #[.int .i64 0, .int .i64 0]) (t := 46) rfl ?_; intro gb259 hg w10 hbox hb; have n0_ := mk0 (blk_belowB BK256 (pkb BK256) hb); have n1_ := mk0 (blk_belowB BK257 (pkb BK257) hb); have n2_ := mk0 (blk_belowB BK258 (pkb BK258) hb); have n3_ := mk0 (below_step z7_13 hb); have n4_ := mk0 (hbox); have GW259 := mk0 (ge_go (a := w.heap.size) hg (below_size z7_13)); have GE259 := GW259; have NB256_259 := mk0 (nb_lt hg (blk_ltB BK256 (pkb BK256))); have NB259_256 := mk0 (nb_gt hg (blk_ltB BK256 (pkb BK256))); have NB257_259 := mk0 (nb_lt hg (blk_ltB BK257 (pkb BK257))); have NB259_257 := mk0 (nb_gt hg (blk_ltB BK257 (pkb BK257))); have NB258_259 := mk0 (nb_lt hg (blk_ltB BK258 (pkb BK258))); have NB259_258 := mk0 (nb_gt hg (blk_ltB BK258 (pkb BK258))); clear BK256 BK257 BK258 HB; have BK256 := n0_; have BK257 := n1_; have BK258 := n2_; have HB := n3_; have BK259 := n4_; clear n0_ n1_ n2_ n3_ n4_ ; clear hb hbox hg) | ((with_reducible refine gate_callee (f := 57) rfl ?_); refine goesL_ (some 11) rfl rfl Try.func57 (by kernel_rfl) rfl #[.int .i64 a3, .int .i64 0, .int .i64 4] rfl z7_4 ?_; (with_reducible refine (impl_Clamp.calls a3 0 4 t260 _ A5.out).mono ?_); rintro e w' ⟨rfl, ⟨nd, rfl⟩⟩; refine ⟨_, rfl, ?_⟩; (try (rw [drewN_self w10]; generalize hq_ : World.drewN w10 _ = w10; have n0_ : Aside0 (w10.heap[gb256]? = some (.cells #[.int .i64 a0_0, .int .i64 a0_1] 46 (0, 0))) := ⟨(by rw [← hq_]; exact (pkb BK256))⟩; have n1_ : Aside0 (w10.heap[gb257]? = some (.cells #[.int .i64 a1_0, .int .i64 a1_1] 46 (0, 0))) := ⟨(by rw [← hq_]; exact (pkb BK257))⟩; have n2_ : Aside0 (w10.heap[gb258]? = some (.cells #[.int .i64 a2_0, .int .i64 a2_1] 46 (0, 0))) := ⟨(by rw [← hq_]; exact (pkb BK258))⟩; have n3_ : Aside0 (w10.heap[gb259]? = some (.cells #[.int .i64 0, .int .i64 0] 46 (0, 0))) := ⟨(by rw [← hq_]; exact (pkb BK259))⟩; have n4_ : Aside0 (Below w.heap.size w w10) := ⟨(by rw [← hq_]; exact z7_5)⟩; clear BK256 BK257 BK258 BK259 HB hq_; have BK256 := n0_; have BK257 := n1_; have BK258 := n2_; have BK259 := n3_; have HB := n4_; clear n0_ n1_ n2_ n3_ n4_)); (try have hcy14_0 : w10.cell? ⟨gb256, 0, none⟩ = some (.int .i64 a0_0) := (blk_cell BK256.out 0).trans rfl); (try have hcy14_1 : w10.cell? ⟨gb256, 1, none⟩ = some (.int .i64 a0_1) := (blk_cell BK256.out 1).trans rfl); (try have hcy17_0 : w10.cell? ⟨gb257, 0, none⟩ = some (.int .i64 a1_0) := (blk_cell BK257.out 0).trans rfl); (try have hcy17_1 : w10.cell? ⟨gb257, 1, none⟩ = some (.int .i64 a1_1) := (blk_cell BK257.out 1).trans rfl); (try have hcy19_0 : w10.cell? ⟨gb258, 0, none⟩ = some (.int .i64 a2_0) := (blk_cell BK258.out 0).trans rfl); (try have hcy19_1 : w10.cell? ⟨gb258, 1, none⟩ = some (.int .i64 a2_1) := (blk_cell BK258.out 1).trans rfl); have hnb11 := NB256_257.out; have hnc11 := NB257_256.out; have hnb12 := NB256_258.out; have hnc12 := NB258_256.out; have hnb13 := NB256_259.out; have hnc13 := NB259_256.out; obtain ⟨_, _, _, _⟩ := be_2 BK256.out; have hnb15 := NB257_258.out; have hnc15 := NB258_257.out; have hnb16 := NB257_259.out; have hnc16 := NB259_257.out; obtain ⟨_, _, _, _⟩ := be_2 BK257.out; have hnb18 := NB258_259.out; have hnc18 := NB259_258.out; obtain ⟨_, _, _, _⟩ := be_2 BK258.out) | ((with_reducible refine gate_dst (N := 17) rfl ?_); refine Kd.R_lit k46 _ 46 ?hg (N := 17) ?hd (xs := ([(⟨a0_0, a0_1⟩ : S46), (⟨a1_0, a1_1⟩ : S46), (⟨a2_0, a2_1⟩ : S46)] : List (S46))) (inner := [.int .i64 a0_0, .int .i64 a0_1, .int .i64 a1_0, .int .i64 a1_1, .int .i64 a2_0, .int .i64 a2_1]) (ok := fun _ => True) (okp := fun _ => True) ?hr ?hp (fun _ hk => hk) trivial (Below.refl _ _) (Nat.le_refl _) (by simp) ?_; (case hd => rfl); (case hg => rfl); (case hr => first | (go_simp; done) | (go_simp; rfl)); (case hp => exact (Reps.c2 (show Kd.M k46 _ _ _ (⟨a0_0, a0_1⟩ : S46) [.int .i64 a0_0, .int .i64 a0_1] from (k46_mkM _ _ _ (⟨a0_0, a0_1⟩ : S46) )) (Reps.c2 (show Kd.M k46 _ _ _ (⟨a1_0, a1_1⟩ : S46) [.int .i64 a1_0, .int .i64 a1_1] from (k46_mkM _ _ _ (⟨a1_0, a1_1⟩ : S46) )) (Reps.c2 (show Kd.M k46 _ _ _ (⟨a2_0, a2_1⟩ : S46) [.int .i64 a2_0, .int .i64 a2_1] from (k46_mkM _ _ _ (⟨a2_0, a2_1⟩ : S46) )) (Reps.none _ _))))); intro v262 w20 ho21 hb hg_ hnew_; clear hg_ hnew_; (first | rw [← Ny261.out] at ho21 | (simp only [Int.reduceToNat] at ho21; rw [← Ny261.out] at ho21)); have n0_ := mk0 (Kd.R_lower (Kd.R_newB (Kd.R_newB (Kd.R_newB (Kd.R_newB ho21 (g := gb256) (o := .cells #[.int .i64 a0_0, .int .i64 a0_1] 46 (0, 0)) (pkb BK256)) (g := gb257) (o := .cells #[.int .i64 a1_0, .int .i64 a1_1] 46 (0, 0)) (pkb BK257)) (g := gb258) (o := .cells #[.int .i64 a2_0, .int .i64 a2_1] 46 (0, 0)) (pkb BK258)) (g := gb259) (o := .cells #[.int .i64 0, .int .i64 0] 46 (0, 0)) (pkb BK259)) (below_size z7_5)); have n1_ := mk0 (blk_belowB BK256 (pkb BK256) hb); have n2_ := mk0 (blk_belowB BK257 (pkb BK257) hb); have n3_ := mk0 (blk_belowB BK258 (pkb BK258) hb); have n4_ := mk0 (blk_belowB BK259 (pkb BK259) hb); have n5_ := mk0 (below_step z7_5 hb); clear BK256 BK257 BK258 BK259 HB; have HO263 := n0_; have BK256 := n1_; have BK257 := n2_; have BK258 := n3_; have BK259 := n4_; have HB := n5_; clear n0_ n1_ n2_ n3_ n4_ n5_ hb ho21) | ((with_reducible refine gate_dst (N := 28) rfl ?_); refine Kd.R_lit (Kd.int .i64) _ 3 ?hg (N := 28) ?hd (xs := ([wrap64 ((wrap64 (4 - t260)) * (wrap64 (4 - t260))), wrap64 ((wrap64 (2 * t260)) * (wrap64 (4 - t260))), wrap64 (t260 * t260)] : List Int)) (inner := [.int .i64 (wrap64 ((wrap64 (4 - t260)) * (wrap64 (4 - t260)))), .int .i64 (wrap64 ((wrap64 (2 * t260)) * (wrap64 (4 - t260)))), .int .i64 (wrap64 (t260 * t260))]) (ok := fun _ => True) (okp := fun _ => True) ?hr ?hp (fun _ hk => hk) trivial (Below.refl _ _) (Nat.le_refl _) (by simp) ?_; (case hd => rfl); (case hg => rfl); (case hr => first | (go_simp; done) | (go_simp; rfl)); (case hp => exact (Reps.one (show Kd.M (Kd.int .i64) _ _ _ (wrap64 ((wrap64 (4 - t260)) * (wrap64 (4 - t260)))) [.int .i64 (wrap64 ((wrap64 (4 - t260)) * (wrap64 (4 - t260))))] from rfl) (Reps.one (show Kd.M (Kd.int .i64) _ _ _ (wrap64 ((wrap64 (2 * t260)) * (wrap64 (4 - t260)))) [.int .i64 (wrap64 ((wrap64 (2 * t260)) * (wrap64 (4 - t260))))] from rfl) (Reps.one (show Kd.M (Kd.int .i64) _ _ _ (wrap64 (t260 * t260)) [.int .i64 (wrap64 (t260 * t260))] from rfl) (Reps.none _ _))))); intro v265 w22 ho23 hb hg_ hnew_; clear hg_ hnew_; (first | rw [← Ny264.out] at ho23 | (simp only [Int.reduceToNat] at ho23; rw [← Ny264.out] at ho23)); have n0_ := mk0 (Kd.R_below (pkR HO263) hb); have n1_ := mk0 (Kd.R_lower ho23 (below_size z7_5)); have n2_ := mk0 (blk_belowB BK256 (pkb BK256) hb); have n3_ := mk0 (blk_belowB BK257 (pkb BK257) hb); have n4_ := mk0 (blk_belowB BK258 (pkb BK258) hb); have n5_ := mk0 (blk_belowB BK259 (pkb BK259) hb); have n6_ := mk0 (below_step z7_5 hb); clear HO263 BK256 BK257 BK258 BK259 HB; have HO263 := n0_; have HO266 := n1_; have BK256 := n2_; have BK257 := n3_; have BK258 := n4_; have BK259 := n5_; have HB := n6_; clear n0_ n1_ n2_ n3_ n4_ n5_ n6_ hb ho23; obtain ⟨Ao24, co24, eo24⟩ := Kd.R_slice HO263.out; subst eo24; obtain ⟨Ao25, co25, eo25⟩ := Kd.R_slice HO266.out; subst eo25) | ((with_reducible refine gate_callee (f := 58) rfl ?_); refine goesL_ (some 29) rfl rfl Try.func58 (by kernel_rfl) rfl #[.slice Ao24 y261.length co24, .slice Ao25 y264.length co25, .int .i64 16] rfl z7_4 ?_; (with_reducible refine (impl_weighed.calls k _ _ y261 _ _ y264 16 t267 t268 _ ?side1 ?side2 ?side3 ?side4 A6.out).mono ?_); (case side1 => repeat (first | exact (Kd.R_reads' HO263.out).2.2 | (with_reducible refine Kd.C_alloc ?_ _) | (with_reducible refine Kd.C_drewN ?_ _) | (with_reducible refine Kd.C_drew ?_))); (case side2 => exact (Kd.R_reads' HO263.out).2.1); (case side3 => repeat (first | exact (Kd.R_reads' HO266.out).2.2 | (with_reducible refine Kd.C_alloc ?_ _) | (with_reducible refine Kd.C_drewN ?_ _) | (with_reducible refine Kd.C_drew ?_))); (case side4 => exact (Kd.R_reads' HO266.out).2.1); rintro e w26 ⟨rfl, hb⟩; refine ⟨_, rfl, ?_⟩; have n0_ := mk0 (Kd.R_below (pkR HO263) hb); have n1_ := mk0 (Kd.R_below (pkR HO266) hb); have n2_ := mk0 (blk_belowB BK256 (pkb BK256) hb); have n3_ := mk0 (blk_belowB BK257 (pkb BK257) hb); have n4_ := mk0 (blk_belowB BK258 (pkb BK258) hb); have n5_ := mk0 (blk_belowB BK259 (pkb BK259) hb); have n6_ := mk0 (below_step z7_5 hb); clear HO263 HO266 BK256 BK257 BK258 BK259 HB; have HO263 := n0_; have HO266 := n1_; have BK256 := n2_; have BK257 := n3_; have BK258 := n4_; have BK259 := n5_; have HB := n6_; clear n0_ n1_ n2_ n3_ n4_ n5_ n6_; (try clear hb); (try clear hk); obtain ⟨_, _, _, _⟩ := be_2 BK259.out))
 refine bodyPost_ret (results_cell_row rfl _ _ gb259 46 #[.int .i64 t267, .int .i64 t268] (0, 0) _ rfl (by apply blk_fin; (focus ((with_reducible repeat (first | apply blk_putQ | refine blk_drewN ?_ _ | refine blk_drew ?_ | refine blk_alloc ?_ _)); exact BK259.out)); first | (simp only [List.setIfInBounds_toArray, List.set_cons_zero, List.set_cons_succ]; done) | rfl) Try.underlying46 rfl (by kernel_rfl)) rfl ?_
 exact ⟨z7_8, z7_5⟩

/-! ### impl_CubicAt: function 46 -/
def impl_CubicAt.f (k : Nat) (a0_0 : Int) (a0_1 : Int) (a1_0 : Int) (a1_1 : Int) (a2_0 : Int) (a2_1 : Int) (a3_0 : Int) (a3_1 : Int) (a4 : Int) : Option (Int × Int) := (impl_Clamp.f a4 0 8).bind fun t274 => ((impl_weighed.f k (([(⟨a0_0, a0_1⟩ : S46), (⟨a1_0, a1_1⟩ : S46), (⟨a2_0, a2_1⟩ : S46), (⟨a3_0, a3_1⟩ : S46)] : List (S46))) (([wrap64 ((wrap64 ((wrap64 (8 - t274)) * (wrap64 (8 - t274)))) * (wrap64 (8 - t274))), wrap64 ((wrap64 ((wrap64 (3 * t274)) * (wrap64 (8 - t274)))) * (wrap64 (8 - t274))), wrap64 ((wrap64 ((wrap64 (3 * t274)) * t274)) * (wrap64 (8 - t274))), wrap64 ((wrap64 (t274 * t274)) * t274)] : List Int)) 512).bind fun bt281 => (some (bt281.1, bt281.2)))
theorem impl_CubicAt.mono : ∀ a0 a1 a2 a3 a4 a5 a6 a7 a8 k, LeO (impl_CubicAt.f k a0 a1 a2 a3 a4 a5 a6 a7 a8) (impl_CubicAt.f (k + 1) a0 a1 a2 a3 a4 a5 a6 a7 a8) := by
 intro a0 a1 a2 a3 a4 a5 a6 a7 a8 k
 unfold impl_CubicAt.f
 repeat' first
   | (with_reducible exact impl_weighed.mono _ _ _ _)
   | (with_reducible exact LeO.refl _)
   | (with_reducible exact LeO.none _)
   | (with_reducible refine LeO.ite ?_ ?_)
   | (with_reducible refine LeO.bind ?_ (fun _ => ?_))
set_option maxHeartbeats 8000000 in
set_option maxRecDepth 100000 in
theorem impl_CubicAt.calls (k : Nat) (a0_0 : Int) (a0_1 : Int) (a1_0 : Int) (a1_1 : Int) (a2_0 : Int) (a2_1 : Int) (a3_0 : Int) (a3_1 : Int) (a4 : Int) (r1 : Int) (r2 : Int) (w : World) (h : impl_CubicAt.f k a0_0 a0_1 a1_0 a1_1 a2_0 a2_1 a3_0 a3_1 a4 = some (r1, r2)) :
  Calls Try.prog 46 #[.agg #[.int .i64 a0_0, .int .i64 a0_1], .agg #[.int .i64 a1_0, .int .i64 a1_1], .agg #[.int .i64 a2_0, .int .i64 a2_1], .agg #[.int .i64 a3_0, .int .i64 a3_1], .int .i64 a4] w fun e w' => e = .returned (.agg #[.int .i64 r1, .int .i64 r2]) ∧ Below w.heap.size w w' := by
 have hu46 := Try.underlying46
 have HB := mk0 (Below.refl w.heap.size w)
 have H : ((impl_Clamp.f a4 0 8).bind fun t274 => ((impl_weighed.f k (([(⟨a0_0, a0_1⟩ : S46), (⟨a1_0, a1_1⟩ : S46), (⟨a2_0, a2_1⟩ : S46), (⟨a3_0, a3_1⟩ : S46)] : List (S46))) (([wrap64 ((wrap64 ((wrap64 (8 - t274)) * (wrap64 (8 - t274)))) * (wrap64 (8 - t274))), wrap64 ((wrap64 ((wrap64 (3 * t274)) * (wrap64 (8 - t274)))) * (wrap64 (8 - t274))), wrap64 ((wrap64 ((wrap64 (3 * t274)) * t274)) * (wrap64 (8 - t274))), wrap64 ((wrap64 (t274 * t274)) * t274)] : List Int)) 512).bind fun bt281 => (some (bt281.1, bt281.2)))) = some (r1, r2) := h
 clear h
 replace H := Option.bind_eq_some_iff.mp H
 obtain ⟨t274, A60, H⟩ := H
 try dsimp only at H
 have A6 := mk0 A60
 clear A60
 obtain ⟨y275, hy_⟩ : ∃ y_ : List (S46), y_ = (([(⟨a0_0, a0_1⟩ : S46), (⟨a1_0, a1_1⟩ : S46), (⟨a2_0, a2_1⟩ : S46), (⟨a3_0, a3_1⟩ : S46)] : List (S46))) := ⟨_, rfl⟩
 replace H : ((impl_weighed.f k y275 (([wrap64 ((wrap64 ((wrap64 (8 - t274)) * (wrap64 (8 - t274)))) * (wrap64 (8 - t274))), wrap64 ((wrap64 ((wrap64 (3 * t274)) * (wrap64 (8 - t274)))) * (wrap64 (8 - t274))), wrap64 ((wrap64 ((wrap64 (3 * t274)) * t274)) * (wrap64 (8 - t274))), wrap64 ((wrap64 (t274 * t274)) * t274)] : List Int)) 512).bind fun bt281 => (some (bt281.1, bt281.2))) = some (r1, r2) := z7_7
 have Ny275 := mk0 hy_
 clear hy_
 obtain ⟨y278, hy_⟩ : ∃ y_ : List Int, y_ = (([wrap64 ((wrap64 ((wrap64 (8 - t274)) * (wrap64 (8 - t274)))) * (wrap64 (8 - t274))), wrap64 ((wrap64 ((wrap64 (3 * t274)) * (wrap64 (8 - t274)))) * (wrap64 (8 - t274))), wrap64 ((wrap64 ((wrap64 (3 * t274)) * t274)) * (wrap64 (8 - t274))), wrap64 ((wrap64 (t274 * t274)) * t274)] : List Int)) := ⟨_, rfl⟩
 replace H : ((impl_weighed.f k y275 y278 512).bind fun bt281 => (some (bt281.1, bt281.2))) = some (r1, r2) := z7_7
 have Ny278 := mk0 hy_
 clear hy_
 replace H := Option.bind_eq_some_iff.mp H
 obtain ⟨⟨t281, t282⟩, A70, H⟩ := H
 try dsimp only at H
 have A7 := mk0 A70
 clear A70
 simp only [Option.some.injEq, Prod.mk.injEq] at H
 obtain ⟨rfl, rfl⟩ := H
 go_enter Try.func46, Try.ntmps46
 go_wp2_with (first | ((with_reducible refine gate_dst (N := 5) rfl ?_); refine boxz (cs := #[.int .i64 a0_0, .int .i64 a0_1]) (t := 46) rfl ?_; intro gb269 hg w8 hbox hb; have n0_ := mk0 (below_step z7_0 hb); have n1_ := mk0 (hbox); have GW269 := mk0 (ge_go (a := w.heap.size) hg (below_size z7_0)); have GE269 := GW269; clear HB; have HB := n0_; have BK269 := n1_; clear n0_ n1_ ; clear hb hbox hg) | ((with_reducible refine gate_dst (N := 6) rfl ?_); refine boxz (cs := #[.int .i64 a1_0, .int .i64 a1_1]) (t := 46) rfl ?_; intro gb270 hg w9 hbox hb; have n0_ := mk0 (blk_belowB BK269 (pkb BK269) hb); have n1_ := mk0 (below_step z7_18 hb); have n2_ := mk0 (hbox); have GW270 := mk0 (ge_go (a := w.heap.size) hg (below_size z7_18)); have GE270 := GW270; have NB269_270 := mk0 (nb_lt hg (blk_ltB BK269 (pkb BK269))); have NB270_269 := mk0 (nb_gt hg (blk_ltB BK269 (pkb BK269))); clear BK269 HB; have BK269 := n0_; have HB := n1_; have BK270 := n2_; clear n0_ n1_ n2_ ; clear hb hbox hg) | ((with_reducible refine gate_dst (N := 7) rfl ?_); refine boxz (cs := #[.int .i64 a2_0, .int .i64 a2_1]) (t := 46) rfl ?_; intro gb271 hg w10 hbox hb; have n0_ := mk0 (blk_belowB BK269 (pkb BK269) hb); have n1_ := mk0 (blk_belowB BK270 (pkb BK270) hb); have n2_ := mk0 (below_step z7_16 hb); have n3_ := mk0 (hbox); have GW271 := mk0 (ge_go (a := w.heap.size) hg (below_size z7_16)); have GE271 := GW271; have NB269_271 := mk0 (nb_lt hg (blk_ltB BK269 (pkb BK269))); have NB271_269 := mk0 (nb_gt hg (blk_ltB BK269 (pkb BK269))); have NB270_271 := mk0 (nb_lt hg (blk_ltB BK270 (pkb BK270))); have NB271_270 := mk0 (nb_gt hg (blk_ltB BK270 (pkb BK270))); clear BK269 BK270 HB; have BK269 := n0_; have BK270 := n1_; have HB := n2_; have BK271 := n3_; clear n0_ n1_ n2_ n3_ ; clear hb hbox hg) | ((with_reducible refine gate_dst (N := 8) rfl ?_); refine boxz (cs := #[.int .i64 a3_0, .int .i64 a3_1]) (t := 46) rfl ?_; intro gb272 hg w11 hbox hb; have n0_ := mk0 (blk_belowB BK269 (pkb BK269) hb); have n1_ := mk0 (blk_belowB BK270 (pkb BK270) hb); have n2_ := mk0 (blk_belowB BK271 (pkb BK271) hb); have n3_ := mk0 (below_step z7_14 hb); have n4_ := mk0 (hbox); have GW272 := mk0 (ge_go (a := w.heap.size) hg (below_size z7_14)); have GE272 := GW272; have NB269_272 := mk0 (nb_lt hg (blk_ltB BK269 (pkb BK269))); have NB272_269 := mk0 (nb_gt hg (blk_ltB BK269 (pkb BK269))); have NB270_272 := mk0 (nb_lt hg (blk_ltB BK270 (pkb BK270))); have NB272_270 := mk0 (nb_gt hg (blk_ltB BK270 (pkb BK270))); have NB271_272 := mk0 (nb_lt hg (blk_ltB BK271 (pkb BK271))); have NB272_271 := mk0 (nb_gt hg (blk_ltB BK271 (pkb BK271))); clear BK269 BK270 BK271 HB; have BK269 := n0_; have BK270 := n1_; have BK271 := n2_; have HB := n3_; have BK272 := n4_; clear n0_ n1_ n2_ n3_ n4_ ; clear hb hbox hg) | ((with_reducible refine gate_dst (N := 10) rfl ?_); refine boxz (cs := #[.int .i64 0, .int .i64 0]) (t := 46) rfl ?_; intro gb273 hg w12 hbox hb; have n0_ := mk0 (blk_belowB BK269 (pkb BK269) hb); have n1_ := mk0 (blk_belowB BK270 (pkb BK270) hb); have n2_ := mk0 (blk_belowB BK271 (pkb BK271) hb); have n3_ := mk0 (blk_belowB BK272 (pkb BK272) hb); have n4_ := mk0 (below_step z7_9 hb); have n5_ := mk0 (hbox); have GW273 := mk0 (ge_go (a := w.heap.size) hg (below_size z7_9)); have GE273 := GW273; have NB269_273 := mk0 (nb_lt hg (blk_ltB BK269 (pkb BK269))); have NB273_269 := mk0 (nb_gt hg (blk_ltB BK269 (pkb BK269))); have NB270_273 := mk0 (nb_lt hg (blk_ltB BK270 (pkb BK270))); have NB273_270 := mk0 (nb_gt hg (blk_ltB BK270 (pkb BK270))); have NB271_273 := mk0 (nb_lt hg (blk_ltB BK271 (pkb BK271))); have NB273_271 := mk0 (nb_gt hg (blk_ltB BK271 (pkb BK271))); have NB272_273 := mk0 (nb_lt hg (blk_ltB BK272 (pkb BK272))); have NB273_272 := mk0 (nb_gt hg (blk_ltB BK272 (pkb BK272))); clear BK269 BK270 BK271 BK272 HB; have BK269 := n0_; have BK270 := n1_; have BK271 := n2_; have BK272 := n3_; have HB := n4_; have BK273 := n5_; clear n0_ n1_ n2_ n3_ n4_ n5_ ; clear hb hbox hg) | ((with_reducible refine gate_callee (f := 57) rfl ?_); refine goesL_ (some 13) rfl rfl Try.func57 (by kernel_rfl) rfl #[.int .i64 a4, .int .i64 0, .int .i64 8] rfl z7_4 ?_; (with_reducible refine (impl_Clamp.calls a4 0 8 t274 _ A6.out).mono ?_); rintro e w' ⟨rfl, ⟨nd, rfl⟩⟩; refine ⟨_, rfl, ?_⟩; (try (rw [drewN_self w12]; generalize hq_ : World.drewN w12 _ = w12; have n0_ : Aside0 (w12.heap[gb269]? = some (.cells #[.int .i64 a0_0, .int .i64 a0_1] 46 (0, 0))) := ⟨(by rw [← hq_]; exact (pkb BK269))⟩; have n1_ : Aside0 (w12.heap[gb270]? = some (.cells #[.int .i64 a1_0, .int .i64 a1_1] 46 (0, 0))) := ⟨(by rw [← hq_]; exact (pkb BK270))⟩; have n2_ : Aside0 (w12.heap[gb271]? = some (.cells #[.int .i64 a2_0, .int .i64 a2_1] 46 (0, 0))) := ⟨(by rw [← hq_]; exact (pkb BK271))⟩; have n3_ : Aside0 (w12.heap[gb272]? = some (.cells #[.int .i64 a3_0, .int .i64 a3_1] 46 (0, 0))) := ⟨(by rw [← hq_]; exact (pkb BK272))⟩; have n4_ : Aside0 (w12.heap[gb273]? = some (.cells #[.int .i64 0, .int .i64 0] 46 (0, 0))) := ⟨(by rw [← hq_]; exact (pkb BK273))⟩; have n5_ : Aside0 (Below w.heap.size w w12) := ⟨(by rw [← hq_]; exact z7_3)⟩; clear BK269 BK270 BK271 BK272 BK273 HB hq_; have BK269 := n0_; have BK270 := n1_; have BK271 := n2_; have BK272 := n3_; have BK273 := n4_; have HB := n5_; clear n0_ n1_ n2_ n3_ n4_ n5_)); (try have hcy17_0 : w12.cell? ⟨gb269, 0, none⟩ = some (.int .i64 a0_0) := (blk_cell BK269.out 0).trans rfl); (try have hcy17_1 : w12.cell? ⟨gb269, 1, none⟩ = some (.int .i64 a0_1) := (blk_cell BK269.out 1).trans rfl); (try have hcy21_0 : w12.cell? ⟨gb270, 0, none⟩ = some (.int .i64 a1_0) := (blk_cell BK270.out 0).trans rfl); (try have hcy21_1 : w12.cell? ⟨gb270, 1, none⟩ = some (.int .i64 a1_1) := (blk_cell BK270.out 1).trans rfl); (try have hcy24_0 : w12.cell? ⟨gb271, 0, none⟩ = some (.int .i64 a2_0) := (blk_cell BK271.out 0).trans rfl); (try have hcy24_1 : w12.cell? ⟨gb271, 1, none⟩ = some (.int .i64 a2_1) := (blk_cell BK271.out 1).trans rfl); (try have hcy26_0 : w12.cell? ⟨gb272, 0, none⟩ = some (.int .i64 a3_0) := (blk_cell BK272.out 0).trans rfl); (try have hcy26_1 : w12.cell? ⟨gb272, 1, none⟩ = some (.int .i64 a3_1) := (blk_cell BK272.out 1).trans rfl); have hnb13 := NB269_270.out; have hnc13 := NB270_269.out; have hnb14 := NB269_271.out; have hnc14 := NB271_269.out; have hnb15 := NB269_272.out; have hnc15 := NB272_269.out; have hnb16 := NB269_273.out; have hnc16 := NB273_269.out; obtain ⟨_, _, _, _⟩ := be_2 BK269.out; have hnb18 := NB270_271.out; have hnc18 := NB271_270.out; have hnb19 := NB270_272.out; have hnc19 := NB272_270.out; have hnb20 := NB270_273.out; have hnc20 := NB273_270.out; obtain ⟨_, _, _, _⟩ := be_2 BK270.out; have hnb22 := NB271_272.out; have hnc22 := NB272_271.out; have hnb23 := NB271_273.out; have hnc23 := NB273_271.out; obtain ⟨_, _, _, _⟩ := be_2 BK271.out; have hnb25 := NB272_273.out; have hnc25 := NB273_272.out; obtain ⟨_, _, _, _⟩ := be_2 BK272.out) | ((with_reducible refine gate_dst (N := 20) rfl ?_); refine Kd.R_lit k46 _ 46 ?hg (N := 20) ?hd (xs := ([(⟨a0_0, a0_1⟩ : S46), (⟨a1_0, a1_1⟩ : S46), (⟨a2_0, a2_1⟩ : S46), (⟨a3_0, a3_1⟩ : S46)] : List (S46))) (inner := [.int .i64 a0_0, .int .i64 a0_1, .int .i64 a1_0, .int .i64 a1_1, .int .i64 a2_0, .int .i64 a2_1, .int .i64 a3_0, .int .i64 a3_1]) (ok := fun _ => True) (okp := fun _ => True) ?hr ?hp (fun _ hk => hk) trivial (Below.refl _ _) (Nat.le_refl _) (by simp) ?_; (case hd => rfl); (case hg => rfl); (case hr => first | (go_simp; done) | (go_simp; rfl)); (case hp => exact (Reps.c2 (show Kd.M k46 _ _ _ (⟨a0_0, a0_1⟩ : S46) [.int .i64 a0_0, .int .i64 a0_1] from (k46_mkM _ _ _ (⟨a0_0, a0_1⟩ : S46) )) (Reps.c2 (show Kd.M k46 _ _ _ (⟨a1_0, a1_1⟩ : S46) [.int .i64 a1_0, .int .i64 a1_1] from (k46_mkM _ _ _ (⟨a1_0, a1_1⟩ : S46) )) (Reps.c2 (show Kd.M k46 _ _ _ (⟨a2_0, a2_1⟩ : S46) [.int .i64 a2_0, .int .i64 a2_1] from (k46_mkM _ _ _ (⟨a2_0, a2_1⟩ : S46) )) (Reps.c2 (show Kd.M k46 _ _ _ (⟨a3_0, a3_1⟩ : S46) [.int .i64 a3_0, .int .i64 a3_1] from (k46_mkM _ _ _ (⟨a3_0, a3_1⟩ : S46) )) (Reps.none _ _)))))); intro v276 w27 ho28 hb hg_ hnew_; clear hg_ hnew_; (first | rw [← Ny275.out] at ho28 | (simp only [Int.reduceToNat] at ho28; rw [← Ny275.out] at ho28)); have n0_ := mk0 (Kd.R_lower (Kd.R_newB (Kd.R_newB (Kd.R_newB (Kd.R_newB (Kd.R_newB ho28 (g := gb269) (o := .cells #[.int .i64 a0_0, .int .i64 a0_1] 46 (0, 0)) (pkb BK269)) (g := gb270) (o := .cells #[.int .i64 a1_0, .int .i64 a1_1] 46 (0, 0)) (pkb BK270)) (g := gb271) (o := .cells #[.int .i64 a2_0, .int .i64 a2_1] 46 (0, 0)) (pkb BK271)) (g := gb272) (o := .cells #[.int .i64 a3_0, .int .i64 a3_1] 46 (0, 0)) (pkb BK272)) (g := gb273) (o := .cells #[.int .i64 0, .int .i64 0] 46 (0, 0)) (pkb BK273)) (below_size z7_3)); have n1_ := mk0 (blk_belowB BK269 (pkb BK269) hb); have n2_ := mk0 (blk_belowB BK270 (pkb BK270) hb); have n3_ := mk0 (blk_belowB BK271 (pkb BK271) hb); have n4_ := mk0 (blk_belowB BK272 (pkb BK272) hb); have n5_ := mk0 (blk_belowB BK273 (pkb BK273) hb); have n6_ := mk0 (below_step z7_3 hb); clear BK269 BK270 BK271 BK272 BK273 HB; have HO277 := n0_; have BK269 := n1_; have BK270 := n2_; have BK271 := n3_; have BK272 := n4_; have BK273 := n5_; have HB := n6_; clear n0_ n1_ n2_ n3_ n4_ n5_ n6_ hb ho28) | ((with_reducible refine gate_dst (N := 43) rfl ?_); refine Kd.R_lit (Kd.int .i64) _ 3 ?hg (N := 43) ?hd (xs := ([wrap64 ((wrap64 ((wrap64 (8 - t274)) * (wrap64 (8 - t274)))) * (wrap64 (8 - t274))), wrap64 ((wrap64 ((wrap64 (3 * t274)) * (wrap64 (8 - t274)))) * (wrap64 (8 - t274))), wrap64 ((wrap64 ((wrap64 (3 * t274)) * t274)) * (wrap64 (8 - t274))), wrap64 ((wrap64 (t274 * t274)) * t274)] : List Int)) (inner := [.int .i64 (wrap64 ((wrap64 ((wrap64 (8 - t274)) * (wrap64 (8 - t274)))) * (wrap64 (8 - t274)))), .int .i64 (wrap64 ((wrap64 ((wrap64 (3 * t274)) * (wrap64 (8 - t274)))) * (wrap64 (8 - t274)))), .int .i64 (wrap64 ((wrap64 ((wrap64 (3 * t274)) * t274)) * (wrap64 (8 - t274)))), .int .i64 (wrap64 ((wrap64 (t274 * t274)) * t274))]) (ok := fun _ => True) (okp := fun _ => True) ?hr ?hp (fun _ hk => hk) trivial (Below.refl _ _) (Nat.le_refl _) (by simp) ?_; (case hd => rfl); (case hg => rfl); (case hr => first | (go_simp; done) | (go_simp; rfl)); (case hp => exact (Reps.one (show Kd.M (Kd.int .i64) _ _ _ (wrap64 ((wrap64 ((wrap64 (8 - t274)) * (wrap64 (8 - t274)))) * (wrap64 (8 - t274)))) [.int .i64 (wrap64 ((wrap64 ((wrap64 (8 - t274)) * (wrap64 (8 - t274)))) * (wrap64 (8 - t274))))] from rfl) (Reps.one (show Kd.M (Kd.int .i64) _ _ _ (wrap64 ((wrap64 ((wrap64 (3 * t274)) * (wrap64 (8 - t274)))) * (wrap64 (8 - t274)))) [.int .i64 (wrap64 ((wrap64 ((wrap64 (3 * t274)) * (wrap64 (8 - t274)))) * (wrap64 (8 - t274))))] from rfl) (Reps.one (show Kd.M (Kd.int .i64) _ _ _ (wrap64 ((wrap64 ((wrap64 (3 * t274)) * t274)) * (wrap64 (8 - t274)))) [.int .i64 (wrap64 ((wrap64 ((wrap64 (3 * t274)) * t274)) * (wrap64 (8 - t274))))] from rfl) (Reps.one (show Kd.M (Kd.int .i64) _ _ _ (wrap64 ((wrap64 (t274 * t274)) * t274)) [.int .i64 (wrap64 ((wrap64 (t274 * t274)) * t274))] from rfl) (Reps.none _ _)))))); intro v279 w29 ho30 hb hg_ hnew_; clear hg_ hnew_; (first | rw [← Ny278.out] at ho30 | (simp only [Int.reduceToNat] at ho30; rw [← Ny278.out] at ho30)); have n0_ := mk0 (Kd.R_below (pkR HO277) hb); have n1_ := mk0 (Kd.R_lower ho30 (below_size z7_3)); have n2_ := mk0 (blk_belowB BK269 (pkb BK269) hb); have n3_ := mk0 (blk_belowB BK270 (pkb BK270) hb); have n4_ := mk0 (blk_belowB BK271 (pkb BK271) hb); have n5_ := mk0 (blk_belowB BK272 (pkb BK272) hb); have n6_ := mk0 (blk_belowB BK273 (pkb BK273) hb); have n7_ := mk0 (below_step z7_3 hb); clear HO277 BK269 BK270 BK271 BK272 BK273 HB; have HO277 := n0_; have HO280 := n1_; have BK269 := n2_; have BK270 := n3_; have BK271 := n4_; have BK272 := n5_; have BK273 := n6_; have HB := n7_; clear n0_ n1_ n2_ n3_ n4_ n5_ n6_ n7_ hb ho30; obtain ⟨Ao31, co31, eo31⟩ := Kd.R_slice HO277.out; subst eo31; obtain ⟨Ao32, co32, eo32⟩ := Kd.R_slice HO280.out; subst eo32) | ((with_reducible refine gate_callee (f := 58) rfl ?_); refine goesL_ (some 44) rfl rfl Try.func58 (by kernel_rfl) rfl #[.slice Ao31 y275.length co31, .slice Ao32 y278.length co32, .int .i64 512] rfl z7_4 ?_; (with_reducible refine (impl_weighed.calls k _ _ y275 _ _ y278 512 t281 t282 _ ?side1 ?side2 ?side3 ?side4 A7.out).mono ?_); (case side1 => repeat (first | exact (Kd.R_reads' HO277.out).2.2 | (with_reducible refine Kd.C_alloc ?_ _) | (with_reducible refine Kd.C_drewN ?_ _) | (with_reducible refine Kd.C_drew ?_))); (case side2 => exact (Kd.R_reads' HO277.out).2.1); (case side3 => repeat (first | exact (Kd.R_reads' HO280.out).2.2 | (with_reducible refine Kd.C_alloc ?_ _) | (with_reducible refine Kd.C_drewN ?_ _) | (with_reducible refine Kd.C_drew ?_))); (case side4 => exact (Kd.R_reads' HO280.out).2.1); rintro e w33 ⟨rfl, hb⟩; refine ⟨_, rfl, ?_⟩; have n0_ := mk0 (Kd.R_below (pkR HO277) hb); have n1_ := mk0 (Kd.R_below (pkR HO280) hb); have n2_ := mk0 (blk_belowB BK269 (pkb BK269) hb); have n3_ := mk0 (blk_belowB BK270 (pkb BK270) hb); have n4_ := mk0 (blk_belowB BK271 (pkb BK271) hb); have n5_ := mk0 (blk_belowB BK272 (pkb BK272) hb); have n6_ := mk0 (blk_belowB BK273 (pkb BK273) hb); have n7_ := mk0 (below_step z7_3 hb); clear HO277 HO280 BK269 BK270 BK271 BK272 BK273 HB; have HO277 := n0_; have HO280 := n1_; have BK269 := n2_; have BK270 := n3_; have BK271 := n4_; have BK272 := n5_; have BK273 := n6_; have HB := n7_; clear n0_ n1_ n2_ n3_ n4_ n5_ n6_ n7_; (try clear hb); (try clear hk); obtain ⟨_, _, _, _⟩ := be_2 BK273.out))
 refine bodyPost_ret (results_cell_row rfl _ _ gb273 46 #[.int .i64 t281, .int .i64 t282] (0, 0) _ rfl (by apply blk_fin; (focus ((with_reducible repeat (first | apply blk_putQ | refine blk_drewN ?_ _ | refine blk_drew ?_ | refine blk_alloc ?_ _)); exact BK273.out)); first | (simp only [List.setIfInBounds_toArray, List.set_cons_zero, List.set_cons_succ]; done) | rfl) Try.underlying46 rfl (by kernel_rfl)) rfl ?_
 exact ⟨z7_8, z7_3⟩

end Go.Proofs.Ytdpnimngndemiaa.MFnExactFlatOf
