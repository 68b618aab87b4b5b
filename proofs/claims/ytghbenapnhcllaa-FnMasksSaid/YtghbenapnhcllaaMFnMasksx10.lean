/- Functions of the program as Lean functions, and the proof that a call comes to just these: machine text of this session's own program (myprint.py). -/
import Derived.Test.YtghbenapnhcllaaMFnMasksx0
import Derived.Test.YtghbenapnhcllaaMFnMasksx4
import Derived.Test.YtghbenapnhcllaaMFnMasksx9
namespace Go.Proofs.Ytghbenapnhcllaa.MFnMasks
open Go.RowKit Go.Proofs.YtghbenapnhcllaaW.PrintWords Go.Proofs.YtghbenapnhcllaaW.PrintLast Go.Proofs.YtghbenapnhcllaaW.PrintMore
attribute [local go_sem] max2_int min2_int max_two min_two max_three min_three max_four min_four   -- for this text's walks alone
set_option linter.unusedVariables false
set_option linter.unusedSimpArgs false

theorem x10_put {P : Prop} (h : P := by simp only [Act.put, List.setIfInBounds_toArray, List.set_cons_zero, List.set_cons_succ, i64_w, i32_w]; rfl) : P := h
theorem z10_2 {P : Prop} (h : P := by repeat (first | (with_reducible first | exact HB.out | apply below_alloc | apply pw_below_drewN | apply below_drew1 | refine below_set ?_ GE234.out) | exact HB.out)) : P := h
theorem z10_5 {P : Prop} (h : P := by repeat (first | (with_reducible first | exact HB.out | apply below_alloc | apply pw_below_drewN | apply below_drew1 | refine below_set ?_ GE227.out) | exact HB.out)) : P := h
theorem z10_6 {P : Prop} (h : P := by repeat (first | (with_reducible first | exact HB.out | apply below_alloc | apply pw_below_drewN | apply below_drew1 | refine below_set ?_ GE222.out) | exact HB.out)) : P := h
theorem z10_7 {P : Prop} (h : P := by apply blk_fin; (focus ((with_reducible repeat (first | apply blk_putQ | refine blk_drewN ?_ _ | refine blk_drew ?_ | refine blk_alloc ?_ _)); exact BK227.out)); first | (simp only [List.setIfInBounds_toArray, List.set_cons_zero, List.set_cons_succ]; done) | rfl) : P := h
theorem z10_8 {P : Prop} (h : P := by repeat (first | (with_reducible first | exact HB.out | apply below_alloc | apply pw_below_drewN | apply below_drew1 | refine below_set ?_ GE233.out) | exact HB.out)) : P := h
/-! ### spec_Covers: function 101 -/
def spec_Covers.l0 : Nat → List (List (S52)) → Bool → Int → Int → Int → Int → Option (Bool)
 | 0, _, _, _, _, _, _ => none
 | k + 1, x0, x1, x7, x8, x223000, x223001 => if x8 < (x0.length : Int) then (if 0 ≤ x8 then ((spec_WindOf.f k (rd_L3 x0 x8) x223000 x223001).bind fun t224 => (spec_Covers.l0 k x0 x1 (wrap64 (x7 + t224)) (wrap64 (x8 + 1)) x223000 x223001)) else (none)) else (if x1 = true then (some ((Int.tmod x7 2) != 0)) else (some (x7 != 0)))
def spec_Covers.f (k : Nat) (l0 : List (List (S52))) (a1 : Bool) (a2_0 : Int) (a2_1 : Int) : Option (Bool) := spec_Covers.l0 k l0 a1 0 0 a2_0 a2_1
theorem spec_Covers.mono_l : ∀ k, (∀ y0 y1 y2 y3 y4 y5, LeO (spec_Covers.l0 k y0 y1 y2 y3 y4 y5) (spec_Covers.l0 (k + 1) y0 y1 y2 y3 y4 y5))
 | 0 => fun _ _ _ _ _ _ r h => by simp [spec_Covers.l0] at h
 | k + 1 => by
  have ih0 := spec_Covers.mono_l k
  ·intro y0 y1 y2 y3 y4 y5
   unfold spec_Covers.l0
   with_reducible repeat' first | apply ih0 | apply spec_WindOf.mono | exact LeO.refl _ | exact LeO.none _ | refine LeO.ite ?_ ?_ | refine LeO.bind ?_ (fun _ => ?_)
theorem spec_Covers.mono : ∀ a0 a1 a2 a3 k, LeO (spec_Covers.f k a0 a1 a2 a3) (spec_Covers.f (k + 1) a0 a1 a2 a3) := by
 intro a0 a1 a2 a3 k; have ih0 := spec_Covers.mono_l k
 unfold spec_Covers.f
 with_reducible repeat' first | apply ih0 | apply spec_WindOf.mono | exact LeO.refl _ | exact LeO.none _ | refine LeO.ite ?_ ?_ | refine LeO.bind ?_ (fun _ => ?_)
def spec_Covers.T5 : Bool × List (List Nat × List Nat) := (true, [([], []), ([], []), ([], []), ([1, 2], [1, 2]), ([3], [3]), ([], []), ([4, 5], [4, 5]), ([0, 6], [0, 6]), ([7, 6, 0, 1, 2, 3, 4, 5, 6, 7], [0, 7])])
def spec_Covers.B5 : List Nat := [0, 0, 0, 6, 14, 0, 62, 127, 255]
theorem spec_Covers.tab5 : rtab .any (opsOf Try.f101 5) = spec_Covers.T5 := by kernel_rfl
theorem spec_Covers.bits5 : waitsOk spec_Covers.T5.2 spec_Covers.B5 = true := by kernel_rfl
set_option maxHeartbeats 8000000 in
set_option maxRecDepth 100000 in
theorem spec_Covers.calls (k : Nat) (A0 : Option Addr) (c0 : Nat) (l0 : List (List (S52))) (a1 : Bool) (a2_0 : Int) (a2_1 : Int) (r : Bool) (w : World) (hr0 : Kd.C (Kd.slice 52 k52) w A0 l0.length l0) (hc0 : l0.length ≤ c0) (h : spec_Covers.f k l0 a1 a2_0 a2_1 = some r) :
  Calls Try.prog 101 #[.slice A0 l0.length c0, .bool a1, .agg #[.int .i64 a2_0, .int .i64 a2_1]] w fun e w' => e = .returned (.bool r) ∧ Below w.heap.size w w' := by
 have hu52 := Try.underlying52; have HR0 := mk0 hr0; have HC0 := mk0 hc0; clear hr0 hc0; have HB := mk0 (Below.refl w.heap.size w)
 have H : (spec_Covers.l0 k l0 a1 0 0 a2_0 a2_1) = some r := h
 clear h
 have H' := mk0 H
 clear H; go_enter Try.func101, Try.ntmps101
 go_wp2_with (first | ((with_reducible refine gate_dst (N := 5) rfl ?_); refine boxz (cs := #[.int .i64 a2_0, .int .i64 a2_1]) (t := 52) rfl ?_; intro gb222 hg w4 hbox hb; have GW222 := mk0 (ge_go (a := w.heap.size) hg (below_size q_149)); have GE222 := GW222; replace HB := bS q_149 hb; have BK222 := mk0 (hbox); clear hb hbox hg))
 go_loopg [7, 8] k (fun kq v7 v8 w' => ∃ (x7_1 : Int) (x8_1 : Int), v7 = .int .i64 x7_1 ∧ v8 = .int .i64 x8_1 ∧ Aside0 (spec_Covers.l0 kq l0 a1 x7_1 x8_1 a2_0 a2_1 = some r) ∧ Aside0 (kq ≤ k) ∧ Aside0 (w'.heap[gb222]? = some (.cells #[.int .i64 a2_0, .int .i64 a2_1] 52 (0, 0))) ∧ Aside0 (Below w.heap.size w w'))
 case atStart => exact ⟨(0), (0), rs0, rs0, H', ⟨Nat.le_refl _⟩, ⟨pkb BK222⟩, ⟨z10_6⟩⟩
 case round =>
  clear H'; obtain ⟨x7_1, x8_1, rfl, rfl, HA, HK1, BK222, HB⟩ := hrel
  cases gk with
  | zero => exact absurd HA.out (by simp [spec_Covers.l0])
  | succ k1 =>
   have H := HA.out; clear HA; simp only [spec_Covers.l0] at H
   by_cases c5 : x8_1 < (l0.length : Int)
   rotate_left
   ·rw [if_neg c5] at H; have c5b0 := decide_eq_false c5; clear c5
    by_cases c10 : a1 = true
    ·subst c10; rw [if_pos rfl] at H
     obtain rfl := Option.some.inj H
     simp only [Option.some.injEq, Prod.mk.injEq] at H; obtain ⟨rfl⟩ := H
     go_wp2
     go_ret
     exact ⟨q_71, z10_6⟩
    replace c10 := Bool.eq_false_iff.mpr c10; subst c10; rw [if_neg (show ¬ (false = true) by decide)] at H
    obtain rfl := Option.some.inj H
    simp only [Option.some.injEq, Prod.mk.injEq] at H; obtain ⟨rfl⟩ := H
    go_wp2
    go_ret
    exact ⟨q_71, z10_6⟩
   rw [if_pos c5] at H; have c5b0 := decide_eq_true c5; clear c5
   by_cases c6 : 0 ≤ x8_1
   rotate_left
   ·rw [if_neg c6] at H
    exact absurd H (by simp)
   rw [if_pos c6] at H; have c6b0 := decide_eq_true c6; clear c6; obtain ⟨t224, A7, H⟩ := bnd H
   try dsimp only at H
   have H' := mk0 H
   clear H
   try go_wp2
   replace BK222 := mk0 (blk_drew BK222.out); replace HB := mk0 (below_drew1 HB.out)
   have p223 : 0 ≤ (x8_1 : Int) := of_decide_eq_true (by first | (with_reducible assumption) | assumption)
   have q223 : x8_1 < (l0.length : Int) := of_decide_eq_true (by first | (with_reducible assumption) | assumption)
   obtain ⟨ad223, A223_0, c223_0, e223, hx223_0, hl223_0, hi223_0⟩ := at_L3 HR0.out x8_1 p223 q223; have hw223_0 := hx223_0
   cases e223
   replace hx223_0 := cell_go HB hx223_0; have HR223_0 := mk0 hi223_0; have HC223_0 := mk0 hl223_0; clear hi223_0 hl223_0; replace p223 := eq_true p223; replace q223 := eq_true q223
   refine start_ (n := 9) (S := fun w' => w'.cell? ⟨gb222, 0, none⟩ = some (.int .i64 a2_0) ∧ w'.cell? ⟨gb222, 1, none⟩ = some (.int .i64 a2_1) ∧ w'.cell? (ad223.add (x8_1).toNat) = some (.slice A223_0 (rd_L3 l0 x8_1).length c223_0)) (ds := []) #[false, false, false, false, false, false, false, false, false] (by kernel_rfl) rfl rfl ⟨(blk_cell BK222.out 0).trans rfl, (blk_cell BK222.out 1).trans rfl, ((HB.out.cell (World.block_lt_of_cell? w _ hw223_0)).trans hw223_0)⟩ (fun hHeld => ?_); refine with_tabW spec_Covers.tab5 spec_Covers.bits5 (fun HT_ HW_ => ?_)
   generalize wr.drew = w8 at BK222 HB HR223_0 hx223_0 hHeld ⊢
   refine pzx (i := 0) (N := 15) (bA 9 1) HT_ ?_; refine pzx (i := 1) (N := 16) (bA 9 3) HT_ ?_; refine pzx (i := 2) (N := 17) (bA 9 7) HT_ ?_; refine pzx (i := 3) (N := 18) (bA 9 15) HT_ ?_
   refine take_ (i := 4) (N := some 19) (v := ?_) (a' := ?_) (bA 9 31) rfl rfl (take_ofW HT_.out HW_.out (by kernel_rfl)) (fun _ _ _ h => h) (Or.inl ⟨by rfl, ?_⟩) hHeld ?_ ?_
   rotate_left
   ·rintro w' ⟨s0, s1, s2⟩
    go_simp; with_reducible rfl
   rotate_left
   ·exact x10_put
   refine take_ (i := 5) (N := some 20) (v := ?_) (a' := ?_) (bA 9 63) rfl rfl (take_ofW HT_.out HW_.out (by kernel_rfl)) (fun _ _ _ h => h) (Or.inl ⟨by rfl, ?_⟩) hHeld ?_ ?_
   rotate_left
   ·rintro w' ⟨s0, s1, s2⟩
    go_simp; with_reducible rfl
   rotate_left
   ·exact x10_put
   refine one_ (i := 6) (N := some 21) (bA 9 127) rfl rfl (one_of HT_.out (by kernel_rfl)) (by decide) (fun K hK => ?_)
   refine goes_ Try.func142 (by kernel_rfl) rfl #[.slice A223_0 (rd_L3 l0 x8_1).length c223_0, .agg #[.int .i64 a2_0, .int .i64 a2_1]] (by rfl) rfl rfl q_0 ?_
   with_reducible refine (spec_WindOf.calls k1 _ _ (rd_L3 l0 x8_1) a2_0 a2_1 t224 _ ?side1 ?side2 A7.out).mono ?_
   (case side1 => repeat (first | exact (Kd.C_below HR223_0.out HB.out) | (with_reducible refine Kd.C_alloc ?_ _) | (with_reducible refine Kd.C_drewN ?_ _) | (with_reducible refine Kd.C_drew ?_)))
   (case side2 => exact HC223_0.out)
   rintro e w9 ⟨rfl, hb⟩
   refine ⟨_, rfl, ?_⟩
   replace BK222 := bB BK222 hb; replace HB := bS z10_6 hb; (try clear hb); (try clear hb2); (try clear hk); (try clear hi); refine hK.out _ _ ⟨(blk_cell BK222.out 0).trans rfl, (blk_cell BK222.out 1).trans rfl, ((HB.out.cell (World.block_lt_of_cell? w _ hw223_0)).trans hw223_0)⟩ (fun hHeld => ?_); clear hK K
   refine norm_ (a' := ?_) ?_ ?_
   rotate_left
   ·show Act.put _ (some 21) _ = _
    simp only [Act.put, List.setIfInBounds_toArray, List.set_cons_zero, List.set_cons_succ, i64_w, i32_w]
    rfl
   refine pzx (i := 7) (N := 22) (bA 9 255) HT_ ?_; refine pzx (i := 8) (N := 7) (bA 9 511) HT_ ?_
   refine done_ (done_of HT_.out (by kernel_rfl)) ?_
   try go_wp2
   go_roundg k1
   case measure => have := HK1.out; omega
   case rel => exact ⟨(wrap64 (x7_1 + t224)), (wrap64 (x8_1 + 1)), rs0, rs0, H', ⟨(by have := HK1.out; omega)⟩, ⟨pkb BK222⟩, ⟨z10_6⟩⟩

/-! ### spec_MaskAt: function 34 -/
mutual
def spec_MaskAt.j0 : Nat → List (List (S52)) → Bool → Int → Int → Bool → Option (Int)
 | 0, _, _, _, _, _ => none
 | k + 1, x0, x1, x2, x3, x19 => if x19 = true then (some 0) else (spec_MaskAt.l0 k x0 x1 x2 x3 0 0)
def spec_MaskAt.l0 : Nat → List (List (S52)) → Bool → Int → Int → Int → Int → Option (Int)
 | 0, _, _, _, _, _, _ => none
 | k + 1, x0, x1, x2, x3, x9, x10 => if x10 < 4 then ((spec_Covers.f k x0 x1 (wrap64 ((wrap64 ((wrap64 (256 * x2)) + 64)) + (wrap64 (128 * (Int.tmod x10 2))))) (wrap64 ((wrap64 ((wrap64 (256 * x3)) + 64)) + (wrap64 (128 * (wrap64 (Int.tdiv x10 2))))))).bind fun t228 => (if t228 = true then ((some (([1, 2, 4, 8] : List Int) : List Int)).bind fun y229 => (if 0 ≤ x10 then (if x10 < (y229.length : Int) then (spec_MaskAt.l0 k x0 x1 x2 x3 (wrap64 (x9 + (rd y229 x10))) (wrap64 (x10 + 1))) else (none)) else (none))) else (spec_MaskAt.l0 k x0 x1 x2 x3 x9 (wrap64 (x10 + 1))))) else (some x9)
end
def spec_MaskAt.f (k : Nat) (l0 : List (List (S52))) (a1 : Bool) (a2 : Int) (a3 : Int) : Option (Int) := (spec_l01In.f a2 (-2000) 2000).bind fun t225 => (if t225 = true then ((spec_l01In.f a3 (-2000) 2000).bind fun t226 => (spec_MaskAt.j0 k l0 a1 a2 a3 (!t226))) else (spec_MaskAt.j0 k l0 a1 a2 a3 true))
theorem spec_MaskAt.mono_l : ∀ k, (∀ y0 y1 y2 y3 y4, LeO (spec_MaskAt.j0 k y0 y1 y2 y3 y4) (spec_MaskAt.j0 (k + 1) y0 y1 y2 y3 y4)) ∧ (∀ y0 y1 y2 y3 y4 y5, LeO (spec_MaskAt.l0 k y0 y1 y2 y3 y4 y5) (spec_MaskAt.l0 (k + 1) y0 y1 y2 y3 y4 y5))
 | 0 => ⟨fun _ _ _ _ _ r h => by simp [spec_MaskAt.j0] at h, fun _ _ _ _ _ _ r h => by simp [spec_MaskAt.l0] at h⟩
 | k + 1 => by
  obtain ⟨ih0, ih1⟩ := spec_MaskAt.mono_l k
  refine ⟨?_, ?_⟩
  ·intro y0 y1 y2 y3 y4
   unfold spec_MaskAt.j0
   with_reducible repeat' first | apply ih0 | apply ih1 | apply spec_Covers.mono | exact LeO.refl _ | exact LeO.none _ | refine LeO.ite ?_ ?_ | refine LeO.bind ?_ (fun _ => ?_)
  ·intro y0 y1 y2 y3 y4 y5
   unfold spec_MaskAt.l0
   with_reducible repeat' first | apply ih0 | apply ih1 | apply spec_Covers.mono | exact LeO.refl _ | exact LeO.none _ | refine LeO.ite ?_ ?_ | refine LeO.bind ?_ (fun _ => ?_)
theorem spec_MaskAt.mono : ∀ a0 a1 a2 a3 k, LeO (spec_MaskAt.f k a0 a1 a2 a3) (spec_MaskAt.f (k + 1) a0 a1 a2 a3) := by
 intro a0 a1 a2 a3 k; obtain ⟨ih0, ih1⟩ := spec_MaskAt.mono_l k
 unfold spec_MaskAt.f
 with_reducible repeat' first | apply ih0 | apply ih1 | apply spec_Covers.mono | exact LeO.refl _ | exact LeO.none _ | refine LeO.ite ?_ ?_ | refine LeO.bind ?_ (fun _ => ?_)
set_option maxHeartbeats 8000000 in
set_option maxRecDepth 100000 in
theorem spec_MaskAt.calls (k : Nat) (A0 : Option Addr) (c0 : Nat) (l0 : List (List (S52))) (a1 : Bool) (a2 : Int) (a3 : Int) (r : Int) (w : World) (hr0 : Kd.C (Kd.slice 52 k52) w A0 l0.length l0) (hc0 : l0.length ≤ c0) (h : spec_MaskAt.f k l0 a1 a2 a3 = some r) :
  Calls Try.prog 34 #[.slice A0 l0.length c0, .bool a1, .int .i64 a2, .int .i64 a3] w fun e w' => e = .returned (.int .i64 r) ∧ Below w.heap.size w w' := by
 have hu52 := Try.underlying52; have HR0 := mk0 hr0; have HC0 := mk0 hc0; clear hr0 hc0; have HB := mk0 (Below.refl w.heap.size w)
 have H := h; unfold spec_MaskAt.f at H
 clear h; have HC5 := mk0 H; clear H; go_enter Try.func34, Try.ntmps34
 go_upto_region 1 with (fail)
 go_cut [19] (fun v19 wc => ∃ (kq : Nat) (x19_4 : Bool), v19 = .bool x19_4 ∧ Aside0 (spec_MaskAt.j0 kq l0 a1 a2 a3 x19_4 = some r) ∧ Aside0 (kq ≤ k) ∧ Aside0 (Below w.heap.size w wc))
 case first =>
  have H := HC5.out; clear HC5; obtain ⟨t225, A6, H⟩ := bnd H
  try dsimp only at H
  by_cases c7 : t225 = true
  rotate_left
  ·replace c7 := Bool.eq_false_iff.mpr c7; subst c7; rw [if_neg (show ¬ (false = true) by decide)] at H
   have H' := mk0 H
   clear H
   go_wp2_with (first | ((with_reducible refine gate_callee (f := 64) rfl ?_); refine gl_ (some 13) Try.func64 #[.int .i64 a2, .int .i64 (-2000), .int .i64 2000] rfl q_0 ?_; (with_reducible refine (spec_l01In.calls a2 (-2000) 2000 false _ A6.out).mono ?_); rintro e w' ⟨rfl, ⟨nd, rfl⟩⟩; refine ⟨_, rfl, ?_⟩))
   go_meet
   case rel => exact ⟨_, (true), rs0, H', ⟨(by first | omega | exact Nat.le_refl _)⟩, ⟨q_149⟩⟩
  subst c7; rw [if_pos rfl] at H; obtain ⟨t226, A8, H⟩ := bnd H
  try dsimp only at H
  have H' := mk0 H
  clear H
  go_wp2_with (first | ((with_reducible refine gate_callee (f := 64) rfl ?_); refine gl_ (some 13) Try.func64 #[.int .i64 a2, .int .i64 (-2000), .int .i64 2000] rfl q_0 ?_; (with_reducible refine (spec_l01In.calls a2 (-2000) 2000 true _ A6.out).mono ?_); rintro e w' ⟨rfl, ⟨nd, rfl⟩⟩; refine ⟨_, rfl, ?_⟩) | (go_at_call 64; (with_reducible refine (spec_l01In.calls a3 (-2000) 2000 t226 _ A8.out).mono ?_); rintro e w' ⟨rfl, ⟨nd, rfl⟩⟩))
  go_meet
  case rel => exact ⟨_, (!t226), rs0, H', ⟨(by first | omega | exact Nat.le_refl _)⟩, ⟨q_149⟩⟩
 case rest =>
  clear HC5; try clear p2
  obtain ⟨kq, x19_4, rfl, HA, HJ4, HB⟩ := hcut
  cases kq with
  | zero => exact absurd HA.out (by simp [spec_MaskAt.j0])
  | succ kj4 =>
   have H := HA.out; clear HA; simp only [spec_MaskAt.j0] at H
   by_cases c9 : x19_4 = true
   ·subst c9; rw [if_pos rfl] at H
    obtain rfl := Option.some.inj H
    simp only [Option.some.injEq, Prod.mk.injEq] at H; obtain ⟨rfl⟩ := H
    go_wp2
    go_ret
    exact ⟨q_71, q_149⟩
   replace c9 := Bool.eq_false_iff.mpr c9; subst c9; rw [if_neg (show ¬ (false = true) by decide)] at H
   have H' := mk0 H
   clear H
   go_wp2
   go_loopg [9, 10] kj4 (fun kq v9 v10 w' => ∃ (x9_2 : Int) (x10_2 : Int), v9 = .int .i64 x9_2 ∧ v10 = .int .i64 x10_2 ∧ Aside0 (spec_MaskAt.l0 kq l0 a1 a2 a3 x9_2 x10_2 = some r) ∧ Aside0 (kq ≤ kj4) ∧ Aside0 (Below w.heap.size w w'))
   case atStart => exact ⟨(0), (0), rs0, rs0, H', ⟨Nat.le_refl _⟩, ⟨q_149⟩⟩
   case round =>
    clear H'; (try clear c9); obtain ⟨x9_2, x10_2, rfl, rfl, HA, HK2, HB⟩ := hrel
    cases gk with
    | zero => exact absurd HA.out (by simp [spec_MaskAt.l0])
    | succ k2 =>
     have H := HA.out; clear HA; simp only [spec_MaskAt.l0] at H
     by_cases c10 : x10_2 < 4
     rotate_left
     ·rw [if_neg c10] at H; have c10b0 := decide_eq_false c10; clear c10
      obtain rfl := Option.some.inj H
      simp only [Option.some.injEq, Prod.mk.injEq] at H; obtain ⟨rfl⟩ := H
      go_wp2
      go_ret
      exact ⟨q_71, q_149⟩
     rw [if_pos c10] at H; have c10b0 := decide_eq_true c10; clear c10; obtain ⟨t228, A11, H⟩ := bnd H
     try dsimp only at H
     by_cases c12 : t228 = true
     rotate_left
     ·replace c12 := Bool.eq_false_iff.mpr c12; subst c12; rw [if_neg (show ¬ (false = true) by decide)] at H
      have H' := mk0 H
      clear H
      go_wp2_with (first | ((with_reducible refine gate_dst (N := 11) rfl ?_); refine boxz (cs := #[.int .i64 0, .int .i64 0]) (t := 52) rfl ?_; intro gb227 hg w21 hbox hb; have GW227 := mk0 (ge_go (a := w.heap.size) hg (below_size q_149)); have GE227 := GW227; replace HB := bS q_149 hb; have BK227 := mk0 (hbox); clear hb hbox hg; obtain ⟨_, _, _, _⟩ := be_2 BK227.out) | ((with_reducible refine gate_callee (f := 101) rfl ?_); refine gl_ (some 42) Try.func101 #[.slice A0 l0.length c0, .bool a1, .agg #[.int .i64 (wrap64 ((wrap64 ((wrap64 (256 * a2)) + 64)) + (wrap64 (128 * (Int.tmod x10_2 2))))), .int .i64 (wrap64 ((wrap64 ((wrap64 (256 * a3)) + 64)) + (wrap64 (128 * (wrap64 (Int.tdiv x10_2 2))))))]] rfl q_0 ?_; (with_reducible refine (spec_Covers.calls k2 _ _ l0 a1 (wrap64 ((wrap64 ((wrap64 (256 * a2)) + 64)) + (wrap64 (128 * (Int.tmod x10_2 2))))) (wrap64 ((wrap64 ((wrap64 (256 * a3)) + 64)) + (wrap64 (128 * (wrap64 (Int.tdiv x10_2 2)))))) false _ ?side1 ?side2 A11.out).mono ?_); (case side1 => exact Kd.C_below HR0.out z10_5); (case side2 => exact HC0.out); rintro e w23 ⟨rfl, hb⟩; refine ⟨_, rfl, ?_⟩; replace BK227 := mk0 (blk_below (g := gb227) (o := .cells #[.int .i64 (wrap64 ((wrap64 ((wrap64 (256 * a2)) + 64)) + (wrap64 (128 * (Int.tmod x10_2 2))))), .int .i64 (wrap64 ((wrap64 ((wrap64 (256 * a3)) + 64)) + (wrap64 (128 * (wrap64 (Int.tdiv x10_2 2))))))] 52 (0, 0)) z10_7 hb); replace HB := bS z10_5 hb; clear hb))
      go_roundg k2
      case measure => have := HJ4.out; have := HK2.out; omega
      case rel => exact ⟨(x9_2), (wrap64 (x10_2 + 1)), rs0, rs0, H', ⟨(by have := HJ4.out; have := HK2.out; omega)⟩, ⟨z10_5⟩⟩
     subst c12; rw [if_pos rfl] at H
     obtain ⟨y229, hy_⟩ : ∃ y_ : List Int, y_ = (([1, 2, 4, 8] : List Int)) := ⟨_, rfl⟩
     replace H : (if 0 ≤ x10_2 then (if x10_2 < (y229.length : Int) then (spec_MaskAt.l0 k2 l0 a1 a2 a3 (wrap64 (x9_2 + (rd y229 x10_2))) (wrap64 (x10_2 + 1))) else (none)) else (none)) = some r := (by first | (rw [hy_]; with_reducible exact H) | (have H2_ := (Option.bind_some _ _).symm.trans H; rw [hy_]; with_reducible exact H2_) | (have H2_ := (Option.bind_some _ _).symm.trans H; with_reducible exact H2_) | with_reducible exact H | (rw [hy_]; exact H) | exact H)
     have Ny229 := mk0 hy_; clear hy_
     by_cases c13 : 0 ≤ x10_2
     rotate_left
     ·rw [if_neg c13] at H
      exact absurd H (by simp)
     rw [if_pos c13] at H; have c13b0 := decide_eq_true c13; clear c13
     by_cases c14 : x10_2 < (y229.length : Int)
     rotate_left
     ·rw [if_neg c14] at H
      exact absurd H (by simp)
     rw [if_pos c14] at H; have c14b0 := decide_eq_true c14; clear c14
     have H' := mk0 H
     clear H
     go_wp2_with (first | ((with_reducible refine gate_dst (N := 11) rfl ?_); refine boxz (cs := #[.int .i64 0, .int .i64 0]) (t := 52) rfl ?_; intro gb227 hg w15 hbox hb; have GW227 := mk0 (ge_go (a := w.heap.size) hg (below_size q_149)); have GE227 := GW227; replace HB := bS q_149 hb; have BK227 := mk0 (hbox); clear hb hbox hg; obtain ⟨_, _, _, _⟩ := be_2 BK227.out) | ((with_reducible refine gate_callee (f := 101) rfl ?_); refine gl_ (some 42) Try.func101 #[.slice A0 l0.length c0, .bool a1, .agg #[.int .i64 (wrap64 ((wrap64 ((wrap64 (256 * a2)) + 64)) + (wrap64 (128 * (Int.tmod x10_2 2))))), .int .i64 (wrap64 ((wrap64 ((wrap64 (256 * a3)) + 64)) + (wrap64 (128 * (wrap64 (Int.tdiv x10_2 2))))))]] rfl q_0 ?_; (with_reducible refine (spec_Covers.calls k2 _ _ l0 a1 (wrap64 ((wrap64 ((wrap64 (256 * a2)) + 64)) + (wrap64 (128 * (Int.tmod x10_2 2))))) (wrap64 ((wrap64 ((wrap64 (256 * a3)) + 64)) + (wrap64 (128 * (wrap64 (Int.tdiv x10_2 2)))))) true _ ?side1 ?side2 A11.out).mono ?_); (case side1 => exact Kd.C_below HR0.out z10_5); (case side2 => exact HC0.out); rintro e w17 ⟨rfl, hb⟩; refine ⟨_, rfl, ?_⟩; replace BK227 := mk0 (blk_below (g := gb227) (o := .cells #[.int .i64 (wrap64 ((wrap64 ((wrap64 (256 * a2)) + 64)) + (wrap64 (128 * (Int.tmod x10_2 2))))), .int .i64 (wrap64 ((wrap64 ((wrap64 (256 * a3)) + 64)) + (wrap64 (128 * (wrap64 (Int.tdiv x10_2 2))))))] 52 (0, 0)) z10_7 hb); replace HB := bS z10_5 hb; clear hb; (try clear hk)) | ((with_reducible refine gate_dst (N := 44) rfl ?_); refine Kd.R_lit (Kd.int .i64) _ 3 ?hg (N := 44) ?hd (xs := ([1, 2, 4, 8] : List Int)) (inner := [.int .i64 1, .int .i64 2, .int .i64 4, .int .i64 8]) (ok := fun _ => True) (okp := fun _ => True) ?hr ?hp (fun _ hk => hk) trivial (Below.refl _ _) (Nat.le_refl _) (by simp) ?_; (case hd => rfl); (case hg => rfl); (case hr => first | (go_simp; done) | (go_simp; rfl)); (case hp => exact (Reps.one (show Kd.M (Kd.int .i64) _ _ _ 1 [.int .i64 1] from rfl) (Reps.one (show Kd.M (Kd.int .i64) _ _ _ 2 [.int .i64 2] from rfl) (Reps.one (show Kd.M (Kd.int .i64) _ _ _ 4 [.int .i64 4] from rfl) (Reps.one (show Kd.M (Kd.int .i64) _ _ _ 8 [.int .i64 8] from rfl) (Reps.none _ _)))))); intro v230 w18 ho19 hb hg_ hnew_; clear hg_ hnew_; (first | rw [← Ny229.out] at ho19 | (simp only [Int.reduceToNat] at ho19; rw [← Ny229.out] at ho19)); have HO231 := mk0 (Kd.R_lower ho19 (below_size z10_5)); replace BK227 := bB BK227 hb; replace HB := bS z10_5 hb; clear hb ho19; obtain ⟨Ao20, co20, eo20⟩ := Kd.R_slice HO231.out; subst eo20; have p232 : 0 ≤ (x10_2 : Int) := of_decide_eq_true (by first | (with_reducible assumption) | assumption); have q232 : x10_2 < (y229.length : Int) := of_decide_eq_true (by first | (with_reducible assumption) | assumption); obtain ⟨ad232, e232, hx232_0⟩ := Kd.at_int (Kd.R_reads' HO231.out).2.2 x10_2 p232 q232; cases e232; replace p232 := eq_true p232; replace q232 := eq_true q232))
     go_roundg k2
     case measure => have := HJ4.out; have := HK2.out; omega
     case rel => exact ⟨(wrap64 (x9_2 + (rd y229 x10_2))), (wrap64 (x10_2 + 1)), rs0, rs0, H', ⟨(by have := HJ4.out; have := HK2.out; omega)⟩, ⟨z10_5⟩⟩

/-! ### spec_Empty: function 134 -/
def spec_Empty.f (a0_0 : Int) (a0_1 : Int) (a0_2 : Int) (a0_3 : Int) : Option (Bool) := if a0_0 ≥ a0_2 then (some true) else (some (decide (a0_1 ≥ a0_3)))
set_option maxHeartbeats 8000000 in
set_option maxRecDepth 100000 in
theorem spec_Empty.calls (a0_0 : Int) (a0_1 : Int) (a0_2 : Int) (a0_3 : Int) (r : Bool) (w : World) (h : spec_Empty.f a0_0 a0_1 a0_2 a0_3 = some r) :
  Calls Try.prog 134 #[.agg #[.int .i64 a0_0, .int .i64 a0_1, .int .i64 a0_2, .int .i64 a0_3]] w fun e w' => e = .returned (.bool r) ∧ Below w.heap.size w w' := by
 have hu63 := Try.underlying63; have HB := mk0 (Below.refl w.heap.size w)
 have H := h; unfold spec_Empty.f at H
 clear h
 by_cases c2 : a0_0 ≥ a0_2
 ·rw [if_pos c2] at H; have c2b0 := decide_eq_true c2; clear c2
  obtain rfl := Option.some.inj H
  simp only [Option.some.injEq, Prod.mk.injEq] at H; obtain ⟨rfl⟩ := H
  go_enter Try.func134, Try.ntmps134
  go_wp2_with (first | ((with_reducible refine gate_dst (N := 1) rfl ?_); refine boxz (cs := #[.int .i64 a0_0, .int .i64 a0_1, .int .i64 a0_2, .int .i64 a0_3]) (t := 63) rfl ?_; intro gb233 hg w3 hbox hb; have GW233 := mk0 (ge_go (a := w.heap.size) hg (below_size q_149)); have GE233 := GW233; replace HB := bS q_149 hb; have BK233 := mk0 (hbox); clear hb hbox hg; obtain ⟨_, _, _, _, _, _, _, _⟩ := be_4 BK233.out))
  go_ret
  exact ⟨q_71, z10_8⟩
 rw [if_neg c2] at H; have c2b0 := decide_eq_false c2; clear c2
 obtain rfl := Option.some.inj H
 simp only [Option.some.injEq, Prod.mk.injEq] at H; obtain ⟨rfl⟩ := H
 go_enter Try.func134, Try.ntmps134
 go_wp2_with (first | ((with_reducible refine gate_dst (N := 1) rfl ?_); refine boxz (cs := #[.int .i64 a0_0, .int .i64 a0_1, .int .i64 a0_2, .int .i64 a0_3]) (t := 63) rfl ?_; intro gb233 hg w5 hbox hb; have GW233 := mk0 (ge_go (a := w.heap.size) hg (below_size q_149)); have GE233 := GW233; replace HB := bS q_149 hb; have BK233 := mk0 (hbox); clear hb hbox hg; obtain ⟨_, _, _, _, _, _, _, _⟩ := be_4 BK233.out))
 go_ret
 exact ⟨q_71, z10_8⟩

/-! ### spec_l11Box: function 100 -/
def spec_l11Box.f (a0_0 : Int) (a0_1 : Int) (a0_2 : Int) (a0_3 : Int) : Option (Bool) := (spec_Empty.f a0_0 a0_1 a0_2 a0_3).bind fun t235 => (if t235 = true then (some false) else ((spec_l01In.f a0_0 (-2000) 2000).bind fun t236 => (if t236 = true then ((spec_l01In.f a0_1 (-2000) 2000).bind fun t237 => (if t237 = true then ((spec_l01In.f a0_2 (-2000) 2000).bind fun t238 => (if t238 = true then ((spec_l01In.f a0_3 (-2000) 2000).bind fun t239 => (if t239 = true then (if (wrap64 (a0_2 - a0_0)) ≤ 60 then (some (decide ((wrap64 (a0_3 - a0_1)) ≤ 60))) else (some false)) else (some false))) else (some false))) else (some false))) else (some false))))
set_option maxHeartbeats 8000000 in
set_option maxRecDepth 100000 in
theorem spec_l11Box.calls (a0_0 : Int) (a0_1 : Int) (a0_2 : Int) (a0_3 : Int) (r : Bool) (w : World) (h : spec_l11Box.f a0_0 a0_1 a0_2 a0_3 = some r) :
  Calls Try.prog 100 #[.agg #[.int .i64 a0_0, .int .i64 a0_1, .int .i64 a0_2, .int .i64 a0_3]] w fun e w' => e = .returned (.bool r) ∧ Below w.heap.size w w' := by
 have hu63 := Try.underlying63; have HB := mk0 (Below.refl w.heap.size w)
 have H := h; unfold spec_l11Box.f at H
 clear h; obtain ⟨t235, A2, H⟩ := bnd H
 try dsimp only at H
 by_cases c3 : t235 = true
 ·subst c3; rw [if_pos rfl] at H
  obtain rfl := Option.some.inj H
  simp only [Option.some.injEq, Prod.mk.injEq] at H; obtain ⟨rfl⟩ := H
  go_enter Try.func100, Try.ntmps100
  go_wp2_with (first | ((with_reducible refine gate_dst (N := 1) rfl ?_); refine boxz (cs := #[.int .i64 a0_0, .int .i64 a0_1, .int .i64 a0_2, .int .i64 a0_3]) (t := 63) rfl ?_; intro gb234 hg w4 hbox hb; have GW234 := mk0 (ge_go (a := w.heap.size) hg (below_size q_149)); have GE234 := GW234; replace HB := bS q_149 hb; have BK234 := mk0 (hbox); clear hb hbox hg; obtain ⟨_, _, _, _, _, _, _, _⟩ := be_4 BK234.out) | ((with_reducible refine gate_callee (f := 134) rfl ?_); refine gl_ (some 4) Try.func134 #[.agg #[.int .i64 a0_0, .int .i64 a0_1, .int .i64 a0_2, .int .i64 a0_3]] rfl q_0 ?_; (with_reducible refine (spec_Empty.calls a0_0 a0_1 a0_2 a0_3 true _ A2.out).mono ?_); rintro e w6 ⟨rfl, hb⟩; refine ⟨_, rfl, ?_⟩; replace BK234 := bB BK234 hb; replace HB := bS z10_2 hb; clear hb))
  go_ret
  exact ⟨q_71, z10_2⟩
 replace c3 := Bool.eq_false_iff.mpr c3; subst c3; rw [if_neg (show ¬ (false = true) by decide)] at H
 obtain ⟨t236, A7, H⟩ := bnd H
 try dsimp only at H
 by_cases c8 : t236 = true
 rotate_left
 ·replace c8 := Bool.eq_false_iff.mpr c8; subst c8; rw [if_neg (show ¬ (false = true) by decide)] at H
  obtain rfl := Option.some.inj H
  simp only [Option.some.injEq, Prod.mk.injEq] at H; obtain ⟨rfl⟩ := H
  go_enter Try.func100, Try.ntmps100
  go_wp2_with (first | ((with_reducible refine gate_dst (N := 1) rfl ?_); refine boxz (cs := #[.int .i64 a0_0, .int .i64 a0_1, .int .i64 a0_2, .int .i64 a0_3]) (t := 63) rfl ?_; intro gb234 hg w36 hbox hb; have GW234 := mk0 (ge_go (a := w.heap.size) hg (below_size q_149)); have GE234 := GW234; replace HB := bS q_149 hb; have BK234 := mk0 (hbox); clear hb hbox hg; obtain ⟨_, _, _, _, _, _, _, _⟩ := be_4 BK234.out) | ((with_reducible refine gate_callee (f := 134) rfl ?_); refine gl_ (some 4) Try.func134 #[.agg #[.int .i64 a0_0, .int .i64 a0_1, .int .i64 a0_2, .int .i64 a0_3]] rfl q_0 ?_; (with_reducible refine (spec_Empty.calls a0_0 a0_1 a0_2 a0_3 false _ A2.out).mono ?_); rintro e w38 ⟨rfl, hb⟩; refine ⟨_, rfl, ?_⟩; replace BK234 := bB BK234 hb; replace HB := bS z10_2 hb; clear hb; obtain ⟨_, _, _, _, _, _, _, _⟩ := be_4 BK234.out) | (go_at_call 64; (with_reducible refine (spec_l01In.calls a0_0 (-2000) 2000 false _ A7.out).mono ?_); rintro e w' ⟨rfl, ⟨nd, rfl⟩⟩))
  go_ret
  exact ⟨q_71, z10_2⟩
 subst c8; rw [if_pos rfl] at H; obtain ⟨t237, A9, H⟩ := bnd H
 try dsimp only at H
 by_cases c10 : t237 = true
 rotate_left
 ·replace c10 := Bool.eq_false_iff.mpr c10; subst c10; rw [if_neg (show ¬ (false = true) by decide)] at H
  obtain rfl := Option.some.inj H
  simp only [Option.some.injEq, Prod.mk.injEq] at H; obtain ⟨rfl⟩ := H
  go_enter Try.func100, Try.ntmps100
  go_wp2_with (first | ((with_reducible refine gate_dst (N := 1) rfl ?_); refine boxz (cs := #[.int .i64 a0_0, .int .i64 a0_1, .int .i64 a0_2, .int .i64 a0_3]) (t := 63) rfl ?_; intro gb234 hg w32 hbox hb; have GW234 := mk0 (ge_go (a := w.heap.size) hg (below_size q_149)); have GE234 := GW234; replace HB := bS q_149 hb; have BK234 := mk0 (hbox); clear hb hbox hg; obtain ⟨_, _, _, _, _, _, _, _⟩ := be_4 BK234.out) | ((with_reducible refine gate_callee (f := 134) rfl ?_); refine gl_ (some 4) Try.func134 #[.agg #[.int .i64 a0_0, .int .i64 a0_1, .int .i64 a0_2, .int .i64 a0_3]] rfl q_0 ?_; (with_reducible refine (spec_Empty.calls a0_0 a0_1 a0_2 a0_3 false _ A2.out).mono ?_); rintro e w34 ⟨rfl, hb⟩; refine ⟨_, rfl, ?_⟩; replace BK234 := bB BK234 hb; replace HB := bS z10_2 hb; clear hb; obtain ⟨_, _, _, _, _, _, _, _⟩ := be_4 BK234.out) | (go_at_call 64; (with_reducible refine (spec_l01In.calls a0_0 (-2000) 2000 true _ A7.out).mono ?_); rintro e w' ⟨rfl, ⟨nd, rfl⟩⟩) | (go_at_call 64; (with_reducible refine (spec_l01In.calls a0_1 (-2000) 2000 false _ A9.out).mono ?_); rintro e w' ⟨rfl, ⟨nd, rfl⟩⟩))
  go_ret
  exact ⟨q_71, z10_2⟩
 subst c10; rw [if_pos rfl] at H; obtain ⟨t238, A11, H⟩ := bnd H
 try dsimp only at H
 by_cases c12 : t238 = true
 rotate_left
 ·replace c12 := Bool.eq_false_iff.mpr c12; subst c12; rw [if_neg (show ¬ (false = true) by decide)] at H
  obtain rfl := Option.some.inj H
  simp only [Option.some.injEq, Prod.mk.injEq] at H; obtain ⟨rfl⟩ := H
  go_enter Try.func100, Try.ntmps100
  go_wp2_with (first | ((with_reducible refine gate_dst (N := 1) rfl ?_); refine boxz (cs := #[.int .i64 a0_0, .int .i64 a0_1, .int .i64 a0_2, .int .i64 a0_3]) (t := 63) rfl ?_; intro gb234 hg w28 hbox hb; have GW234 := mk0 (ge_go (a := w.heap.size) hg (below_size q_149)); have GE234 := GW234; replace HB := bS q_149 hb; have BK234 := mk0 (hbox); clear hb hbox hg; obtain ⟨_, _, _, _, _, _, _, _⟩ := be_4 BK234.out) | ((with_reducible refine gate_callee (f := 134) rfl ?_); refine gl_ (some 4) Try.func134 #[.agg #[.int .i64 a0_0, .int .i64 a0_1, .int .i64 a0_2, .int .i64 a0_3]] rfl q_0 ?_; (with_reducible refine (spec_Empty.calls a0_0 a0_1 a0_2 a0_3 false _ A2.out).mono ?_); rintro e w30 ⟨rfl, hb⟩; refine ⟨_, rfl, ?_⟩; replace BK234 := bB BK234 hb; replace HB := bS z10_2 hb; clear hb; obtain ⟨_, _, _, _, _, _, _, _⟩ := be_4 BK234.out) | (go_at_call 64; (with_reducible refine (spec_l01In.calls a0_0 (-2000) 2000 true _ A7.out).mono ?_); rintro e w' ⟨rfl, ⟨nd, rfl⟩⟩) | (go_at_call 64; (with_reducible refine (spec_l01In.calls a0_1 (-2000) 2000 true _ A9.out).mono ?_); rintro e w' ⟨rfl, ⟨nd, rfl⟩⟩) | (go_at_call 64; (with_reducible refine (spec_l01In.calls a0_2 (-2000) 2000 false _ A11.out).mono ?_); rintro e w' ⟨rfl, ⟨nd, rfl⟩⟩))
  go_ret
  exact ⟨q_71, z10_2⟩
 subst c12; rw [if_pos rfl] at H; obtain ⟨t239, A13, H⟩ := bnd H
 try dsimp only at H
 by_cases c14 : t239 = true
 rotate_left
 ·replace c14 := Bool.eq_false_iff.mpr c14; subst c14; rw [if_neg (show ¬ (false = true) by decide)] at H
  obtain rfl := Option.some.inj H
  simp only [Option.some.injEq, Prod.mk.injEq] at H; obtain ⟨rfl⟩ := H
  go_enter Try.func100, Try.ntmps100
  go_wp2_with (first | ((with_reducible refine gate_dst (N := 1) rfl ?_); refine boxz (cs := #[.int .i64 a0_0, .int .i64 a0_1, .int .i64 a0_2, .int .i64 a0_3]) (t := 63) rfl ?_; intro gb234 hg w24 hbox hb; have GW234 := mk0 (ge_go (a := w.heap.size) hg (below_size q_149)); have GE234 := GW234; replace HB := bS q_149 hb; have BK234 := mk0 (hbox); clear hb hbox hg; obtain ⟨_, _, _, _, _, _, _, _⟩ := be_4 BK234.out) | ((with_reducible refine gate_callee (f := 134) rfl ?_); refine gl_ (some 4) Try.func134 #[.agg #[.int .i64 a0_0, .int .i64 a0_1, .int .i64 a0_2, .int .i64 a0_3]] rfl q_0 ?_; (with_reducible refine (spec_Empty.calls a0_0 a0_1 a0_2 a0_3 false _ A2.out).mono ?_); rintro e w26 ⟨rfl, hb⟩; refine ⟨_, rfl, ?_⟩; replace BK234 := bB BK234 hb; replace HB := bS z10_2 hb; clear hb; obtain ⟨_, _, _, _, _, _, _, _⟩ := be_4 BK234.out) | (go_at_call 64; (with_reducible refine (spec_l01In.calls a0_0 (-2000) 2000 true _ A7.out).mono ?_); rintro e w' ⟨rfl, ⟨nd, rfl⟩⟩) | (go_at_call 64; (with_reducible refine (spec_l01In.calls a0_1 (-2000) 2000 true _ A9.out).mono ?_); rintro e w' ⟨rfl, ⟨nd, rfl⟩⟩) | (go_at_call 64; (with_reducible refine (spec_l01In.calls a0_2 (-2000) 2000 true _ A11.out).mono ?_); rintro e w' ⟨rfl, ⟨nd, rfl⟩⟩) | (go_at_call 64; (with_reducible refine (spec_l01In.calls a0_3 (-2000) 2000 false _ A13.out).mono ?_); rintro e w' ⟨rfl, ⟨nd, rfl⟩⟩))
  go_ret
  exact ⟨q_71, z10_2⟩
 subst c14; rw [if_pos rfl] at H
 by_cases c15 : (wrap64 (a0_2 - a0_0)) ≤ 60
 ·rw [if_pos c15] at H; have c15b0 := decide_eq_true c15; clear c15
  obtain rfl := Option.some.inj H
  simp only [Option.some.injEq, Prod.mk.injEq] at H; obtain ⟨rfl⟩ := H
  go_enter Try.func100, Try.ntmps100
  go_wp2_with (first | ((with_reducible refine gate_dst (N := 1) rfl ?_); refine boxz (cs := #[.int .i64 a0_0, .int .i64 a0_1, .int .i64 a0_2, .int .i64 a0_3]) (t := 63) rfl ?_; intro gb234 hg w16 hbox hb; have GW234 := mk0 (ge_go (a := w.heap.size) hg (below_size q_149)); have GE234 := GW234; replace HB := bS q_149 hb; have BK234 := mk0 (hbox); clear hb hbox hg; obtain ⟨_, _, _, _, _, _, _, _⟩ := be_4 BK234.out) | ((with_reducible refine gate_callee (f := 134) rfl ?_); refine gl_ (some 4) Try.func134 #[.agg #[.int .i64 a0_0, .int .i64 a0_1, .int .i64 a0_2, .int .i64 a0_3]] rfl q_0 ?_; (with_reducible refine (spec_Empty.calls a0_0 a0_1 a0_2 a0_3 false _ A2.out).mono ?_); rintro e w18 ⟨rfl, hb⟩; refine ⟨_, rfl, ?_⟩; replace BK234 := bB BK234 hb; replace HB := bS z10_2 hb; clear hb; obtain ⟨_, _, _, _, _, _, _, _⟩ := be_4 BK234.out) | (go_at_call 64; (with_reducible refine (spec_l01In.calls a0_0 (-2000) 2000 true _ A7.out).mono ?_); rintro e w' ⟨rfl, ⟨nd, rfl⟩⟩) | (go_at_call 64; (with_reducible refine (spec_l01In.calls a0_1 (-2000) 2000 true _ A9.out).mono ?_); rintro e w' ⟨rfl, ⟨nd, rfl⟩⟩) | (go_at_call 64; (with_reducible refine (spec_l01In.calls a0_2 (-2000) 2000 true _ A11.out).mono ?_); rintro e w' ⟨rfl, ⟨nd, rfl⟩⟩) | (go_at_call 64; (with_reducible refine (spec_l01In.calls a0_3 (-2000) 2000 true _ A13.out).mono ?_); rintro e w' ⟨rfl, ⟨nd, rfl⟩⟩))
  go_ret
  exact ⟨q_71, z10_2⟩
 rw [if_neg c15] at H; have c15b0 := decide_eq_false c15; clear c15
 obtain rfl := Option.some.inj H
 simp only [Option.some.injEq, Prod.mk.injEq] at H; obtain ⟨rfl⟩ := H
 go_enter Try.func100, Try.ntmps100
 go_wp2_with (first | ((with_reducible refine gate_dst (N := 1) rfl ?_); refine boxz (cs := #[.int .i64 a0_0, .int .i64 a0_1, .int .i64 a0_2, .int .i64 a0_3]) (t := 63) rfl ?_; intro gb234 hg w20 hbox hb; have GW234 := mk0 (ge_go (a := w.heap.size) hg (below_size q_149)); have GE234 := GW234; replace HB := bS q_149 hb; have BK234 := mk0 (hbox); clear hb hbox hg; obtain ⟨_, _, _, _, _, _, _, _⟩ := be_4 BK234.out) | ((with_reducible refine gate_callee (f := 134) rfl ?_); refine gl_ (some 4) Try.func134 #[.agg #[.int .i64 a0_0, .int .i64 a0_1, .int .i64 a0_2, .int .i64 a0_3]] rfl q_0 ?_; (with_reducible refine (spec_Empty.calls a0_0 a0_1 a0_2 a0_3 false _ A2.out).mono ?_); rintro e w22 ⟨rfl, hb⟩; refine ⟨_, rfl, ?_⟩; replace BK234 := bB BK234 hb; replace HB := bS z10_2 hb; clear hb; obtain ⟨_, _, _, _, _, _, _, _⟩ := be_4 BK234.out) | (go_at_call 64; (with_reducible refine (spec_l01In.calls a0_0 (-2000) 2000 true _ A7.out).mono ?_); rintro e w' ⟨rfl, ⟨nd, rfl⟩⟩) | (go_at_call 64; (with_reducible refine (spec_l01In.calls a0_1 (-2000) 2000 true _ A9.out).mono ?_); rintro e w' ⟨rfl, ⟨nd, rfl⟩⟩) | (go_at_call 64; (with_reducible refine (spec_l01In.calls a0_2 (-2000) 2000 true _ A11.out).mono ?_); rintro e w' ⟨rfl, ⟨nd, rfl⟩⟩) | (go_at_call 64; (with_reducible refine (spec_l01In.calls a0_3 (-2000) 2000 true _ A13.out).mono ?_); rintro e w' ⟨rfl, ⟨nd, rfl⟩⟩))
 go_ret
 exact ⟨q_71, z10_2⟩

end Go.Proofs.Ytghbenapnhcllaa.MFnMasks
