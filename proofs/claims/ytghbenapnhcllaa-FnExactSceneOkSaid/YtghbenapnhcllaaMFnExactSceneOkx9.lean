/- Functions of the program as Lean functions, and the proof that a call comes to just these: machine text of this session's own program (myprint.py). -/
import Derived.Test.YtghbenapnhcllaaMFnExactSceneOkx0
import Derived.Test.YtghbenapnhcllaaMFnExactSceneOkx1
import Derived.Test.YtghbenapnhcllaaMFnExactSceneOkx2
import Derived.Test.YtghbenapnhcllaaMFnExactSceneOkx3
import Derived.Test.YtghbenapnhcllaaMFnExactSceneOkx7
import Derived.Test.YtghbenapnhcllaaMFnExactSceneOkx8
namespace Go.Proofs.Ytghbenapnhcllaa.MFnExactSceneOk
open Go.RowKit Go.Proofs.YtghbenapnhcllaaW.PrintWords Go.Proofs.YtghbenapnhcllaaW.PrintLast Go.Proofs.YtghbenapnhcllaaW.PrintMore
attribute [local go_sem] max2_int min2_int max_two min_two max_three min_three max_four min_four   -- for this text's walks alone
set_option linter.unusedVariables false
set_option linter.unusedSimpArgs false

attribute [local go_sem high] eqA51 eqA52 eqA54
theorem z9_0 {P : Prop} (h : P := by (with_reducible repeat (first | refine blk_drewN ?_ _ | refine blk_drew ?_ | refine blk_alloc ?_ _)); refine blk_far ?_ NB312_313.out _; (with_reducible repeat (first | refine blk_drewN ?_ _ | refine blk_drew ?_ | refine blk_alloc ?_ _)); refine blk_far ?_ NB312_313.out _; (with_reducible repeat (first | refine blk_drewN ?_ _ | refine blk_drew ?_ | refine blk_alloc ?_ _)); refine blk_far ?_ NB312_313.out _; (with_reducible repeat (first | refine blk_drewN ?_ _ | refine blk_drew ?_ | refine blk_alloc ?_ _)); refine blk_far ?_ NB312_313.out _; (with_reducible repeat (first | refine blk_drewN ?_ _ | refine blk_drew ?_ | refine blk_alloc ?_ _)); exact BK312.out) : P := h
theorem z9_1 {P : Prop} (h : P := by apply blk_fin; (focus ((with_reducible repeat (first | apply blk_putQ | refine blk_drewN ?_ _ | refine blk_drew ?_ | refine blk_alloc ?_ _)); exact BK313.out)); first | (simp only [List.setIfInBounds_toArray, List.set_cons_zero, List.set_cons_succ]; done) | rfl) : P := h
theorem z9_2 {P : Prop} (h : P := by repeat (first | (with_reducible first | exact HB.out | apply below_alloc | apply pw_below_drewN | apply below_drew1) | exact HB.out)) : P := h
theorem z9_3 {P : Prop} (h : P := by repeat (first | (with_reducible first | exact HB.out | apply below_alloc | apply pw_below_drewN | apply below_drew1 | refine below_set ?_ GE312.out | refine below_set ?_ GE313.out | refine below_set ?_ GE314.out) | exact HB.out)) : P := h
theorem z9_4 {P : Prop} (h : P := by repeat (first | (with_reducible first | exact HB.out | apply below_alloc | apply pw_below_drewN | apply below_drew1 | refine below_set ?_ GE312.out | refine below_set ?_ GE313.out) | exact HB.out)) : P := h
theorem z9_5 {P : Prop} (h : P := by repeat (first | (with_reducible first | exact HB.out | apply below_alloc | apply pw_below_drewN | apply below_drew1 | refine below_set ?_ GE312.out) | exact HB.out)) : P := h
theorem z9_6 {P : Prop} (h : P := by (with_reducible repeat (first | refine blk_drewN ?_ _ | refine blk_drew ?_ | refine blk_alloc ?_ _)); exact BK312.out) : P := h
theorem z9_7 {P : Prop} (h : P := by (with_reducible repeat (first | refine blk_drewN ?_ _ | refine blk_drew ?_ | refine blk_alloc ?_ _)); refine blk_far ?_ NB312_314.out _; (with_reducible repeat (first | refine blk_drewN ?_ _ | refine blk_drew ?_ | refine blk_alloc ?_ _)); refine blk_far ?_ NB312_314.out _; (with_reducible repeat (first | refine blk_drewN ?_ _ | refine blk_drew ?_ | refine blk_alloc ?_ _)); exact BK312.out) : P := h
theorem z9_8 {P : Prop} (h : P := by (with_reducible repeat (first | refine blk_drewN ?_ _ | refine blk_drew ?_ | refine blk_alloc ?_ _)); refine blk_far ?_ NB313_314.out _; (with_reducible repeat (first | refine blk_drewN ?_ _ | refine blk_drew ?_ | refine blk_alloc ?_ _)); refine blk_far ?_ NB313_314.out _; (with_reducible repeat (first | refine blk_drewN ?_ _ | refine blk_drew ?_ | refine blk_alloc ?_ _)); exact BK313.out) : P := h
theorem z9_9 {P : Prop} (h : P := by apply blk_fin; (focus ((with_reducible repeat (first | apply blk_putQ | refine blk_drewN ?_ _ | refine blk_drew ?_ | refine blk_alloc ?_ _)); exact BK314.out)); first | (simp only [List.setIfInBounds_toArray, List.set_cons_zero, List.set_cons_succ]; done) | rfl) : P := h
theorem z9_10 {P : Prop} (h : P := by (try simp only [List.map_toArray, List.map_cons, List.map_nil]); first | done | rfl | (simp only [List.length_drop, List.length_take]; rfl)) : P := h
theorem z9_11 {P : Prop} (h : P := by first | rfl | (simp [errW_none, errW_some] <;> rfl) | (simp [*, errW_none, errW_some] <;> rfl)) : P := h
theorem z9_12 {P : Prop} (h : P := by (with_reducible repeat (first | refine blk_drewN ?_ _ | refine blk_drew ?_ | refine blk_alloc ?_ _)); exact BK313.out) : P := h
theorem z9_13 {P : Prop} (h : P := by (with_reducible repeat (first | refine blk_drewN ?_ _ | refine blk_drew ?_ | refine blk_alloc ?_ _)); exact BK314.out) : P := h
theorem z9_14 {P : Prop} (h : P := by repeat (first | (with_reducible first | exact HB.out | apply below_alloc | apply pw_below_drewN | apply below_drew1 | refine below_set ?_ GE307.out) | exact HB.out)) : P := h
theorem z9_15 {P : Prop} (h : P := by repeat (first | exact Drawn0.refl _ | apply Drawn0.step)) : P := h
theorem z9_16 {P : Prop} (h : P := by repeat (first | (with_reducible first | exact HB.out | apply below_alloc | apply pw_below_drewN | apply below_drew1 | refine below_set ?_ GE305.out) | exact HB.out)) : P := h
/-! ### spec_DashOk: function 66 -/
def spec_DashOk.l0 : Nat → List Int → Int → Option (Bool)
 | 0, _, _ => none
 | k + 1, x0, x3 => if x3 < (x0.length : Int) then (if 0 ≤ x3 then ((spec_l01In.f (rd x0 x3) 1 20000).bind fun t304 => (if t304 = true then (spec_DashOk.l0 k x0 (wrap64 (x3 + 1))) else (some false))) else (none)) else (if ((x0.length : Int) % 2) = 0 then (some (decide ((x0.length : Int) ≤ 4))) else (some false))
def spec_DashOk.f (k : Nat) (l0 : List Int) : Option (Bool) := spec_DashOk.l0 k l0 0
theorem spec_DashOk.mono_l : ∀ k, (∀ y0 y1, LeO (spec_DashOk.l0 k y0 y1) (spec_DashOk.l0 (k + 1) y0 y1))
 | 0 => fun _ _ r h => by simp [spec_DashOk.l0] at h
 | k + 1 => by
  have ih0 := spec_DashOk.mono_l k
  ·intro y0 y1
   unfold spec_DashOk.l0
   repeat' first
   | (with_reducible exact ih0 _ _)
   | (with_reducible exact LeO.refl _)
   | (with_reducible exact LeO.none _)
   | (with_reducible refine LeO.ite ?_ ?_)
   | (with_reducible refine LeO.bind ?_ (fun _ => ?_))
   | exact ih0 _ _
   | exact LeO.none _
   | refine LeO.ite ?_ ?_
   | refine LeO.bind ?_ (fun _ => ?_)
theorem spec_DashOk.mono : ∀ a0 k, LeO (spec_DashOk.f k a0) (spec_DashOk.f (k + 1) a0) := by
 intro a0 k
 have ih0 := spec_DashOk.mono_l k
 unfold spec_DashOk.f
 repeat' first
   | (with_reducible exact ih0 _ _)
   | (with_reducible exact LeO.refl _)
   | (with_reducible exact LeO.none _)
   | (with_reducible refine LeO.ite ?_ ?_)
   | (with_reducible refine LeO.bind ?_ (fun _ => ?_))
   | exact ih0 _ _
   | exact LeO.none _
   | refine LeO.ite ?_ ?_
   | refine LeO.bind ?_ (fun _ => ?_)
set_option maxHeartbeats 8000000 in
set_option maxRecDepth 100000 in
theorem spec_DashOk.calls (k : Nat) (A0 : Option Addr) (c0 : Nat) (l0 : List Int) (r : Bool) (w : World) (hr0 : Kd.C (Kd.int .i64) w A0 l0.length l0) (hc0 : l0.length ≤ c0) (h : spec_DashOk.f k l0 = some r) :
  Calls Try.prog 66 #[.slice A0 l0.length c0] w fun e w' => e = .returned (.bool r) ∧ Drawn0 w w' := by
 have HR0 := Aside0.mk hr0
 have HC0 := Aside0.mk hc0
 clear hr0 hc0
 have H : (spec_DashOk.l0 k l0 0) = some r := h
 clear h
 have H' := Aside0.mk H
 clear H
 go_enter Try.func66, Try.ntmps66
 go_wp2
 go_loopg [3] k (fun kq v3 w' => ∃ (x3_1 : Int), v3 = .int .i64 x3_1 ∧ Aside0 (spec_DashOk.l0 kq l0 x3_1 = some r) ∧ Aside0 (kq ≤ k) ∧ Drawn0 w w')
 case atStart => exact ⟨(0), (by first | rfl | (simp; done) | (simp [*]; done)), H', ⟨Nat.le_refl _⟩, z9_15⟩
 case round =>
  clear H'
  obtain ⟨x3_1, rfl, HA, HK1, ⟨m1, rfl⟩⟩ := hrel
  cases gk with
  | zero => exact absurd HA.out (by simp [spec_DashOk.l0])
  | succ k1 =>
   have H := HA.out; clear HA
   simp only [spec_DashOk.l0] at H
   by_cases c2 : x3_1 < (l0.length : Int)
   ·rw [if_pos c2] at H
    have c2b0 : decide (x3_1 < (l0.length : Int)) = true := decide_eq_true c2
    clear c2
    by_cases c3 : 0 ≤ x3_1
    ·rw [if_pos c3] at H
     have c3b0 : decide (0 ≤ x3_1) = true := decide_eq_true c3
     clear c3
     replace H := Option.bind_eq_some_iff.mp H
     obtain ⟨t304, A40, H⟩ := H
     try dsimp only at H
     have A4 := Aside0.mk A40
     clear A40
     by_cases c5 : t304 = true
     ·subst c5
      have H1 : (spec_DashOk.l0 k1 l0 (wrap64 (x3_1 + 1))) = some r := by rw [if_pos rfl] at H; exact H
      clear H; have H := H1; clear H1
      have H' := Aside0.mk H
      clear H
      have p303 : 0 ≤ (x3_1 : Int) := of_decide_eq_true (by first | (with_reducible assumption) | assumption)
      have q303 : x3_1 < (l0.length : Int) := of_decide_eq_true (by first | (with_reducible assumption) | assumption)
      obtain ⟨ad303, e303, hx303_0⟩ := Kd.at_int HR0.out x3_1 p303 q303
      cases e303
      replace p303 := eq_true p303
      replace q303 := eq_true q303
      go_wp2_with (first | ((with_reducible refine gate_callee (f := 64) rfl ?_); refine goesL_ (some 14) rfl rfl Try.func64 (by kernel_rfl) rfl #[.int .i64 (rd l0 x3_1), .int .i64 1, .int .i64 20000] rfl z9_10 ?_; (with_reducible refine (spec_l01In.calls (rd l0 x3_1) 1 20000 true _ A4.out).mono ?_); rintro e w' ⟨rfl, ⟨nd, rfl⟩⟩; refine ⟨_, rfl, ?_⟩))
      go_roundg k1
      case measure => have := HK1.out; omega
      case rel => exact ⟨(wrap64 (x3_1 + 1)), (by first | rfl | (simp; done) | (simp [*]; done)), H', ⟨by have := HK1.out; omega⟩, z9_15⟩
     ·replace c5 := Bool.eq_false_iff.mpr c5
      subst c5
      have H1 : (some false) = some r := by rw [if_neg (show ¬ (false = true) by decide)] at H; exact H
      clear H; have H := H1; clear H1
      obtain rfl := Option.some.inj H
      simp only [Option.some.injEq, Prod.mk.injEq] at H
      obtain ⟨rfl⟩ := H
      have p303 : 0 ≤ (x3_1 : Int) := of_decide_eq_true (by first | (with_reducible assumption) | assumption)
      have q303 : x3_1 < (l0.length : Int) := of_decide_eq_true (by first | (with_reducible assumption) | assumption)
      obtain ⟨ad303, e303, hx303_0⟩ := Kd.at_int HR0.out x3_1 p303 q303
      cases e303
      replace p303 := eq_true p303
      replace q303 := eq_true q303
      go_wp2_with (first | ((with_reducible refine gate_callee (f := 64) rfl ?_); refine goesL_ (some 14) rfl rfl Try.func64 (by kernel_rfl) rfl #[.int .i64 (rd l0 x3_1), .int .i64 1, .int .i64 20000] rfl z9_10 ?_; (with_reducible refine (spec_l01In.calls (rd l0 x3_1) 1 20000 false _ A4.out).mono ?_); rintro e w' ⟨rfl, ⟨nd, rfl⟩⟩; refine ⟨_, rfl, ?_⟩))
      go_ret
      exact ⟨(by first | rfl | (simp; done) | (simp [*]; done)), z9_15⟩
    ·rw [if_neg c3] at H
     exact absurd H (by simp)
   ·rw [if_neg c2] at H
    have c2b0 : decide (x3_1 < (l0.length : Int)) = false := decide_eq_false c2
    clear c2
    by_cases c6 : ((l0.length : Int) % 2) = 0
    ·rw [if_pos c6] at H
     have c6b0 : (((l0.length : Int) % 2) == 0) = true := beq_iff_eq.mpr c6
     have c6b1 : (((l0.length : Int) % 2) != 0) = false := bne_eq_false_iff_eq.mpr c6
     clear c6
     obtain rfl := Option.some.inj H
     simp only [Option.some.injEq, Prod.mk.injEq] at H
     obtain ⟨rfl⟩ := H
     go_wp2
     go_ret
     exact ⟨(by first | rfl | (simp; done) | (simp [*]; done)), z9_15⟩
    ·rw [if_neg c6] at H
     have c6b0 : (((l0.length : Int) % 2) == 0) = false := beq_eq_false_iff_ne.mpr c6
     have c6b1 : (((l0.length : Int) % 2) != 0) = true := bne_iff_ne.mpr c6
     obtain rfl := Option.some.inj H
     simp only [Option.some.injEq, Prod.mk.injEq] at H
     obtain ⟨rfl⟩ := H
     go_wp2
     go_ret
     exact ⟨(by first | rfl | (simp; done) | (simp [*]; done)), z9_15⟩

/-! ### spec_l15NoPath: function 67 -/
def spec_l15NoPath.f (l0_0 : List Int) (l0_1 : List (S52)) : Option (Bool) := if (l0_0.length : Int) = 0 then (some ((l0_1.length : Int) == 0)) else (some false)
set_option maxHeartbeats 8000000 in
set_option maxRecDepth 100000 in
theorem spec_l15NoPath.calls (A0_0 : Option Addr) (c0_0 : Nat) (l0_0 : List Int) (A0_1 : Option Addr) (c0_1 : Nat) (l0_1 : List (S52)) (r : Bool) (w : World) (hr0_0 : Kd.C (Kd.int .i64) w A0_0 l0_0.length l0_0) (hc0_0 : l0_0.length ≤ c0_0) (hr0_1 : Kd.C k52 w A0_1 l0_1.length l0_1) (hc0_1 : l0_1.length ≤ c0_1) (h : spec_l15NoPath.f l0_0 l0_1 = some r) :
  Calls Try.prog 67 #[.agg #[.slice A0_0 l0_0.length c0_0, .slice A0_1 l0_1.length c0_1]] w fun e w' => e = .returned (.bool r) ∧ Below w.heap.size w w' := by
 have hu31 := Try.underlying31
 have HR0_0 := Aside0.mk hr0_0
 have HC0_0 := Aside0.mk hc0_0
 clear hr0_0 hc0_0
 have HR0_1 := Aside0.mk hr0_1
 have HC0_1 := Aside0.mk hc0_1
 clear hr0_1 hc0_1
 have HB := Aside0.mk (Below.refl w.heap.size w)
 have H : (if (l0_0.length : Int) = 0 then (some ((l0_1.length : Int) == 0)) else (some false)) = some r := h
 clear h
 by_cases c2 : (l0_0.length : Int) = 0
 ·rw [if_pos c2] at H
  have c2b0 : ((l0_0.length : Int) == 0) = true := beq_iff_eq.mpr c2
  have c2b1 : ((l0_0.length : Int) != 0) = false := bne_eq_false_iff_eq.mpr c2
  clear c2
  obtain rfl := Option.some.inj H
  simp only [Option.some.injEq, Prod.mk.injEq] at H
  obtain ⟨rfl⟩ := H
  go_enter Try.func67, Try.ntmps67
  go_wp2_with (first | ((with_reducible refine gate_dst (N := 1) rfl ?_); (try (refine gate_guard (by rfl) ?_; dsimp only)); refine boxz (cs := #[.slice A0_0 l0_0.length c0_0, .slice A0_1 l0_1.length c0_1]) (t := 31) rfl ?_; intro gb305 hg w3 hbox hb; have n0_ := Aside0.mk (below_step z9_2 hb); have n1_ := Aside0.mk (hbox); have n2_ := Aside0.mk (ge_go (a := w.heap.size) hg (below_size z9_2)); have n3_ := Aside0.mk (ge_go (a := w.heap.size) hg (below_size z9_2)); clear HB; have HB := n0_; have BK305 := n1_; have GW305 := n2_; have GE305 := n3_; clear n0_ n1_ n2_ n3_; clear hb hbox hg; obtain ⟨_, _, _, _⟩ := be_2 BK305.out))
  go_ret
  exact ⟨z9_11, z9_16⟩
 ·rw [if_neg c2] at H
  have c2b0 : ((l0_0.length : Int) == 0) = false := beq_eq_false_iff_ne.mpr c2
  have c2b1 : ((l0_0.length : Int) != 0) = true := bne_iff_ne.mpr c2
  have c2b2 : ¬ (l0_0 = []) := fun h_ => c2 (by rw [h_]; rfl)
  obtain rfl := Option.some.inj H
  simp only [Option.some.injEq, Prod.mk.injEq] at H
  obtain ⟨rfl⟩ := H
  go_enter Try.func67, Try.ntmps67
  go_wp2_with (first | ((with_reducible refine gate_dst (N := 1) rfl ?_); (try (refine gate_guard (by rfl) ?_; dsimp only)); refine boxz (cs := #[.slice A0_0 l0_0.length c0_0, .slice A0_1 l0_1.length c0_1]) (t := 31) rfl ?_; intro gb305 hg w5 hbox hb; have n0_ := Aside0.mk (below_step z9_2 hb); have n1_ := Aside0.mk (hbox); have n2_ := Aside0.mk (ge_go (a := w.heap.size) hg (below_size z9_2)); have n3_ := Aside0.mk (ge_go (a := w.heap.size) hg (below_size z9_2)); clear HB; have HB := n0_; have BK305 := n1_; have GW305 := n2_; have GE305 := n3_; clear n0_ n1_ n2_ n3_; clear hb hbox hg; obtain ⟨_, _, _, _⟩ := be_2 BK305.out))
  go_ret
  exact ⟨z9_11, z9_16⟩

/-! ### spec_l15NoPaint: function 68 -/
def spec_l15NoPaint.f (a0_0 : Int) (a0_1 : Int) (a0_2 : Int) (a0_3 : Int) (a0_4 : Int) (a0_5 : Int) (a0_6 : Int) (a0_7 : Int) (a0_8 : Int) (a0_9 : Int) (a0_10 : Int) (a0_11 : Int) (a0_12 : Int) : Option (Bool) := some (a0_0 == 0 && ((a0_1 == 0 && (a0_2 == 0 && (a0_3 == 0 && (a0_4 == 0)))) && ((a0_5 == 0 && (a0_6 == 0 && (a0_7 == 0 && (a0_8 == 0)))) && ((a0_9 == 0 && (a0_10 == 0)) && ((a0_11 == 0 && (a0_12 == 0)))))))
set_option maxHeartbeats 8000000 in
set_option maxRecDepth 100000 in
theorem spec_l15NoPaint.calls (a0_0 : Int) (a0_1 : Int) (a0_2 : Int) (a0_3 : Int) (a0_4 : Int) (a0_5 : Int) (a0_6 : Int) (a0_7 : Int) (a0_8 : Int) (a0_9 : Int) (a0_10 : Int) (a0_11 : Int) (a0_12 : Int) (r : Bool) (w : World) (h : spec_l15NoPaint.f a0_0 a0_1 a0_2 a0_3 a0_4 a0_5 a0_6 a0_7 a0_8 a0_9 a0_10 a0_11 a0_12 = some r) :
  Calls Try.prog 68 #[.agg #[.int .i64 a0_0, .int .i64 a0_1, .int .i64 a0_2, .int .i64 a0_3, .int .i64 a0_4, .int .i64 a0_5, .int .i64 a0_6, .int .i64 a0_7, .int .i64 a0_8, .int .i64 a0_9, .int .i64 a0_10, .int .i64 a0_11, .int .i64 a0_12]] w fun e w' => e = .returned (.bool r) ∧ Below w.heap.size w w' := by
 have hu54 := Try.underlying54
 have HB := Aside0.mk (Below.refl w.heap.size w)
 have H : (some (a0_0 == 0 && ((a0_1 == 0 && (a0_2 == 0 && (a0_3 == 0 && (a0_4 == 0)))) && ((a0_5 == 0 && (a0_6 == 0 && (a0_7 == 0 && (a0_8 == 0)))) && ((a0_9 == 0 && (a0_10 == 0)) && ((a0_11 == 0 && (a0_12 == 0)))))))) = some r := h
 clear h
 obtain rfl := Option.some.inj H
 simp only [Option.some.injEq, Prod.mk.injEq] at H
 obtain ⟨rfl⟩ := H
 go_enter Try.func68, Try.ntmps68
 go_wp2_with (first | ((with_reducible refine gate_dst (N := 1) rfl ?_); refine boxz (cs := #[.int .i64 a0_0, .int .i64 a0_1, .int .i64 a0_2, .int .i64 a0_3, .int .i64 a0_4, .int .i64 a0_5, .int .i64 a0_6, .int .i64 a0_7, .int .i64 a0_8, .int .i64 a0_9, .int .i64 a0_10, .int .i64 a0_11, .int .i64 a0_12]) (t := 54) rfl ?_; intro gb306 hg w2 hbox hb; have n0_ := Aside0.mk (below_step z9_2 hb); have n1_ := Aside0.mk (hbox); have n2_ := Aside0.mk (ge_go (a := w.heap.size) hg (below_size z9_2)); have n3_ := Aside0.mk (ge_go (a := w.heap.size) hg (below_size z9_2)); clear HB; have HB := n0_; have BK306 := n1_; have GW306 := n2_; have GE306 := n3_; clear n0_ n1_ n2_ n3_; clear hb hbox hg; obtain ⟨_, _, _, _, _, _, _, _, _, _, _, _, _, _, _, _, _, _, _, _, _, _, _, _, _, _⟩ := be_13 BK306.out) | ((with_reducible refine gate_load (t := 54) rfl ?_); refine load_blk (t := 54) rfl rfl BK306 rfl (by (with_reducible repeat (first | refine blk_drewN ?_ _ | refine blk_drew ?_ | refine blk_alloc ?_ _)); with_reducible exact BK306.out) Try.underlying54 rfl (show (Try.prog.info? 54).map (·.size) = some 13 by kernel_rfl) rfl ?_))
 go_ret
 exact ⟨z9_11, (by repeat (first | (with_reducible first | exact HB.out | apply below_alloc | apply pw_below_drewN | apply below_drew1 | refine below_set ?_ GE306.out) | exact HB.out))⟩

/-! ### spec_ColorOk: function 125 -/
def spec_ColorOk.f (a0_0 : Int) (a0_1 : Int) (a0_2 : Int) (a0_3 : Int) : Option (Bool) := (spec_l01In.f a0_0 0 255).bind fun t308 => (if t308 = true then ((spec_l01In.f a0_1 0 255).bind fun t309 => (if t309 = true then ((spec_l01In.f a0_2 0 255).bind fun t310 => (if t310 = true then ((spec_l01In.f a0_3 0 255).bind fun t311 => (some t311)) else (some false))) else (some false))) else (some false))
set_option maxHeartbeats 8000000 in
set_option maxRecDepth 100000 in
theorem spec_ColorOk.calls (a0_0 : Int) (a0_1 : Int) (a0_2 : Int) (a0_3 : Int) (r : Bool) (w : World) (h : spec_ColorOk.f a0_0 a0_1 a0_2 a0_3 = some r) :
  Calls Try.prog 125 #[.agg #[.int .i64 a0_0, .int .i64 a0_1, .int .i64 a0_2, .int .i64 a0_3]] w fun e w' => e = .returned (.bool r) ∧ Below w.heap.size w w' := by
 have hu51 := Try.underlying51
 have HB := Aside0.mk (Below.refl w.heap.size w)
 have H : ((spec_l01In.f a0_0 0 255).bind fun t308 => (if t308 = true then ((spec_l01In.f a0_1 0 255).bind fun t309 => (if t309 = true then ((spec_l01In.f a0_2 0 255).bind fun t310 => (if t310 = true then ((spec_l01In.f a0_3 0 255).bind fun t311 => (some t311)) else (some false))) else (some false))) else (some false))) = some r := h
 clear h
 replace H := Option.bind_eq_some_iff.mp H
 obtain ⟨t308, A20, H⟩ := H
 try dsimp only at H
 have A2 := Aside0.mk A20
 clear A20
 by_cases c3 : t308 = true
 ·subst c3
  have H1 : ((spec_l01In.f a0_1 0 255).bind fun t309 => (if t309 = true then ((spec_l01In.f a0_2 0 255).bind fun t310 => (if t310 = true then ((spec_l01In.f a0_3 0 255).bind fun t311 => (some t311)) else (some false))) else (some false))) = some r := by rw [if_pos rfl] at H; exact H
  clear H; have H := H1; clear H1
  replace H := Option.bind_eq_some_iff.mp H
  obtain ⟨t309, A40, H⟩ := H
  try dsimp only at H
  have A4 := Aside0.mk A40
  clear A40
  by_cases c5 : t309 = true
  ·subst c5
   have H1 : ((spec_l01In.f a0_2 0 255).bind fun t310 => (if t310 = true then ((spec_l01In.f a0_3 0 255).bind fun t311 => (some t311)) else (some false))) = some r := by rw [if_pos rfl] at H; exact H
   clear H; have H := H1; clear H1
   replace H := Option.bind_eq_some_iff.mp H
   obtain ⟨t310, A60, H⟩ := H
   try dsimp only at H
   have A6 := Aside0.mk A60
   clear A60
   by_cases c7 : t310 = true
   ·subst c7
    have H1 : ((spec_l01In.f a0_3 0 255).bind fun t311 => (some t311)) = some r := by rw [if_pos rfl] at H; exact H
    clear H; have H := H1; clear H1
    replace H := Option.bind_eq_some_iff.mp H
    obtain ⟨t311, A80, H⟩ := H
    try dsimp only at H
    have A8 := Aside0.mk A80
    clear A80
    obtain rfl := Option.some.inj H
    simp only [Option.some.injEq, Prod.mk.injEq] at H
    obtain ⟨rfl⟩ := H
    go_enter Try.func125, Try.ntmps125
    go_wp2_with (first | ((with_reducible refine gate_dst (N := 1) rfl ?_); refine boxz (cs := #[.int .i64 a0_0, .int .i64 a0_1, .int .i64 a0_2, .int .i64 a0_3]) (t := 51) rfl ?_; intro gb307 hg w9 hbox hb; have n0_ := Aside0.mk (below_step z9_2 hb); have n1_ := Aside0.mk (hbox); have n2_ := Aside0.mk (ge_go (a := w.heap.size) hg (below_size z9_2)); have n3_ := Aside0.mk (ge_go (a := w.heap.size) hg (below_size z9_2)); clear HB; have HB := n0_; have BK307 := n1_; have GW307 := n2_; have GE307 := n3_; clear n0_ n1_ n2_ n3_; clear hb hbox hg; obtain ⟨_, _, _, _, _, _, _, _⟩ := be_4 BK307.out) | ((with_reducible refine gate_callee (f := 64) rfl ?_); refine goesL_ (some 5) rfl rfl Try.func64 (by kernel_rfl) rfl #[.int .i64 a0_0, .int .i64 0, .int .i64 255] rfl z9_10 ?_; (with_reducible refine (spec_l01In.calls a0_0 0 255 true _ A2.out).mono ?_); rintro e w' ⟨rfl, ⟨nd, rfl⟩⟩; refine ⟨_, rfl, ?_⟩) | (go_at_call 64; (with_reducible refine (spec_l01In.calls a0_1 0 255 true _ A4.out).mono ?_); rintro e w' ⟨rfl, ⟨nd, rfl⟩⟩) | (go_at_call 64; (with_reducible refine (spec_l01In.calls a0_2 0 255 true _ A6.out).mono ?_); rintro e w' ⟨rfl, ⟨nd, rfl⟩⟩) | (go_at_call 64; (with_reducible refine (spec_l01In.calls a0_3 0 255 t311 _ A8.out).mono ?_); rintro e w' ⟨rfl, ⟨nd, rfl⟩⟩))
    go_ret
    exact ⟨z9_11, z9_14⟩
   ·replace c7 := Bool.eq_false_iff.mpr c7
    subst c7
    have H1 : (some false) = some r := by rw [if_neg (show ¬ (false = true) by decide)] at H; exact H
    clear H; have H := H1; clear H1
    obtain rfl := Option.some.inj H
    simp only [Option.some.injEq, Prod.mk.injEq] at H
    obtain ⟨rfl⟩ := H
    go_enter Try.func125, Try.ntmps125
    go_wp2_with (first | ((with_reducible refine gate_dst (N := 1) rfl ?_); refine boxz (cs := #[.int .i64 a0_0, .int .i64 a0_1, .int .i64 a0_2, .int .i64 a0_3]) (t := 51) rfl ?_; intro gb307 hg w11 hbox hb; have n0_ := Aside0.mk (below_step z9_2 hb); have n1_ := Aside0.mk (hbox); have n2_ := Aside0.mk (ge_go (a := w.heap.size) hg (below_size z9_2)); have n3_ := Aside0.mk (ge_go (a := w.heap.size) hg (below_size z9_2)); clear HB; have HB := n0_; have BK307 := n1_; have GW307 := n2_; have GE307 := n3_; clear n0_ n1_ n2_ n3_; clear hb hbox hg; obtain ⟨_, _, _, _, _, _, _, _⟩ := be_4 BK307.out) | ((with_reducible refine gate_callee (f := 64) rfl ?_); refine goesL_ (some 5) rfl rfl Try.func64 (by kernel_rfl) rfl #[.int .i64 a0_0, .int .i64 0, .int .i64 255] rfl z9_10 ?_; (with_reducible refine (spec_l01In.calls a0_0 0 255 true _ A2.out).mono ?_); rintro e w' ⟨rfl, ⟨nd, rfl⟩⟩; refine ⟨_, rfl, ?_⟩) | (go_at_call 64; (with_reducible refine (spec_l01In.calls a0_1 0 255 true _ A4.out).mono ?_); rintro e w' ⟨rfl, ⟨nd, rfl⟩⟩) | (go_at_call 64; (with_reducible refine (spec_l01In.calls a0_2 0 255 false _ A6.out).mono ?_); rintro e w' ⟨rfl, ⟨nd, rfl⟩⟩))
    go_ret
    exact ⟨z9_11, z9_14⟩
  ·replace c5 := Bool.eq_false_iff.mpr c5
   subst c5
   have H1 : (some false) = some r := by rw [if_neg (show ¬ (false = true) by decide)] at H; exact H
   clear H; have H := H1; clear H1
   obtain rfl := Option.some.inj H
   simp only [Option.some.injEq, Prod.mk.injEq] at H
   obtain ⟨rfl⟩ := H
   go_enter Try.func125, Try.ntmps125
   go_wp2_with (first | ((with_reducible refine gate_dst (N := 1) rfl ?_); refine boxz (cs := #[.int .i64 a0_0, .int .i64 a0_1, .int .i64 a0_2, .int .i64 a0_3]) (t := 51) rfl ?_; intro gb307 hg w13 hbox hb; have n0_ := Aside0.mk (below_step z9_2 hb); have n1_ := Aside0.mk (hbox); have n2_ := Aside0.mk (ge_go (a := w.heap.size) hg (below_size z9_2)); have n3_ := Aside0.mk (ge_go (a := w.heap.size) hg (below_size z9_2)); clear HB; have HB := n0_; have BK307 := n1_; have GW307 := n2_; have GE307 := n3_; clear n0_ n1_ n2_ n3_; clear hb hbox hg; obtain ⟨_, _, _, _, _, _, _, _⟩ := be_4 BK307.out) | ((with_reducible refine gate_callee (f := 64) rfl ?_); refine goesL_ (some 5) rfl rfl Try.func64 (by kernel_rfl) rfl #[.int .i64 a0_0, .int .i64 0, .int .i64 255] rfl z9_10 ?_; (with_reducible refine (spec_l01In.calls a0_0 0 255 true _ A2.out).mono ?_); rintro e w' ⟨rfl, ⟨nd, rfl⟩⟩; refine ⟨_, rfl, ?_⟩) | (go_at_call 64; (with_reducible refine (spec_l01In.calls a0_1 0 255 false _ A4.out).mono ?_); rintro e w' ⟨rfl, ⟨nd, rfl⟩⟩))
   go_ret
   exact ⟨z9_11, z9_14⟩
 ·replace c3 := Bool.eq_false_iff.mpr c3
  subst c3
  have H1 : (some false) = some r := by rw [if_neg (show ¬ (false = true) by decide)] at H; exact H
  clear H; have H := H1; clear H1
  obtain rfl := Option.some.inj H
  simp only [Option.some.injEq, Prod.mk.injEq] at H
  obtain ⟨rfl⟩ := H
  go_enter Try.func125, Try.ntmps125
  go_wp2_with (first | ((with_reducible refine gate_dst (N := 1) rfl ?_); refine boxz (cs := #[.int .i64 a0_0, .int .i64 a0_1, .int .i64 a0_2, .int .i64 a0_3]) (t := 51) rfl ?_; intro gb307 hg w15 hbox hb; have n0_ := Aside0.mk (below_step z9_2 hb); have n1_ := Aside0.mk (hbox); have n2_ := Aside0.mk (ge_go (a := w.heap.size) hg (below_size z9_2)); have n3_ := Aside0.mk (ge_go (a := w.heap.size) hg (below_size z9_2)); clear HB; have HB := n0_; have BK307 := n1_; have GW307 := n2_; have GE307 := n3_; clear n0_ n1_ n2_ n3_; clear hb hbox hg; obtain ⟨_, _, _, _, _, _, _, _⟩ := be_4 BK307.out) | ((with_reducible refine gate_callee (f := 64) rfl ?_); refine goesL_ (some 5) rfl rfl Try.func64 (by kernel_rfl) rfl #[.int .i64 a0_0, .int .i64 0, .int .i64 255] rfl z9_10 ?_; (with_reducible refine (spec_l01In.calls a0_0 0 255 false _ A2.out).mono ?_); rintro e w' ⟨rfl, ⟨nd, rfl⟩⟩; refine ⟨_, rfl, ?_⟩))
  go_ret
  exact ⟨z9_11, z9_14⟩

/-! ### spec_PaintOk: function 69 -/
def spec_PaintOk.f (a0_0 : Int) (a0_1 : Int) (a0_2 : Int) (a0_3 : Int) (a0_4 : Int) (a0_5 : Int) (a0_6 : Int) (a0_7 : Int) (a0_8 : Int) (a0_9 : Int) (a0_10 : Int) (a0_11 : Int) (a0_12 : Int) : Option (Bool) := (spec_ColorOk.f a0_1 a0_2 a0_3 a0_4).bind fun t315 => (if t315 = true then (if a0_0 = 1 then (if (a0_5 == 0 && (a0_6 == 0 && (a0_7 == 0 && (a0_8 == 0)))) = true then (if (a0_9 == 0 && (a0_10 == 0)) = true then (some (a0_11 == 0 && (a0_12 == 0))) else (some false)) else (some false)) else (if a0_0 = 2 then ((spec_ColorOk.f a0_5 a0_6 a0_7 a0_8).bind fun t316 => (if t316 = true then ((spec_PointOk.f a0_9 a0_10).bind fun t317 => (if t317 = true then ((spec_PointOk.f a0_11 a0_12).bind fun t318 => (if t318 = true then (some (!(a0_9 == a0_11) || (!(a0_10 == a0_12)))) else (some false))) else (some false))) else (some false))) else (some false))) else (some false))
set_option maxHeartbeats 8000000 in
set_option maxRecDepth 100000 in
theorem spec_PaintOk.calls (a0_0 : Int) (a0_1 : Int) (a0_2 : Int) (a0_3 : Int) (a0_4 : Int) (a0_5 : Int) (a0_6 : Int) (a0_7 : Int) (a0_8 : Int) (a0_9 : Int) (a0_10 : Int) (a0_11 : Int) (a0_12 : Int) (r : Bool) (w : World) (h : spec_PaintOk.f a0_0 a0_1 a0_2 a0_3 a0_4 a0_5 a0_6 a0_7 a0_8 a0_9 a0_10 a0_11 a0_12 = some r) :
  Calls Try.prog 69 #[.agg #[.int .i64 a0_0, .int .i64 a0_1, .int .i64 a0_2, .int .i64 a0_3, .int .i64 a0_4, .int .i64 a0_5, .int .i64 a0_6, .int .i64 a0_7, .int .i64 a0_8, .int .i64 a0_9, .int .i64 a0_10, .int .i64 a0_11, .int .i64 a0_12]] w fun e w' => e = .returned (.bool r) ∧ Below w.heap.size w w' := by
 have hu54 := Try.underlying54
 have hu51 := Try.underlying51
 have hu52 := Try.underlying52
 have HB := Aside0.mk (Below.refl w.heap.size w)
 have H : ((spec_ColorOk.f a0_1 a0_2 a0_3 a0_4).bind fun t315 => (if t315 = true then (if a0_0 = 1 then (if (a0_5 == 0 && (a0_6 == 0 && (a0_7 == 0 && (a0_8 == 0)))) = true then (if (a0_9 == 0 && (a0_10 == 0)) = true then (some (a0_11 == 0 && (a0_12 == 0))) else (some false)) else (some false)) else (if a0_0 = 2 then ((spec_ColorOk.f a0_5 a0_6 a0_7 a0_8).bind fun t316 => (if t316 = true then ((spec_PointOk.f a0_9 a0_10).bind fun t317 => (if t317 = true then ((spec_PointOk.f a0_11 a0_12).bind fun t318 => (if t318 = true then (some (!(a0_9 == a0_11) || (!(a0_10 == a0_12)))) else (some false))) else (some false))) else (some false))) else (some false))) else (some false))) = some r := h
 clear h
 replace H := Option.bind_eq_some_iff.mp H
 obtain ⟨t315, A20, H⟩ := H
 try dsimp only at H
 have A2 := Aside0.mk A20
 clear A20
 by_cases c3 : t315 = true
 ·subst c3
  have H1 : (if a0_0 = 1 then (if (a0_5 == 0 && (a0_6 == 0 && (a0_7 == 0 && (a0_8 == 0)))) = true then (if (a0_9 == 0 && (a0_10 == 0)) = true then (some (a0_11 == 0 && (a0_12 == 0))) else (some false)) else (some false)) else (if a0_0 = 2 then ((spec_ColorOk.f a0_5 a0_6 a0_7 a0_8).bind fun t316 => (if t316 = true then ((spec_PointOk.f a0_9 a0_10).bind fun t317 => (if t317 = true then ((spec_PointOk.f a0_11 a0_12).bind fun t318 => (if t318 = true then (some (!(a0_9 == a0_11) || (!(a0_10 == a0_12)))) else (some false))) else (some false))) else (some false))) else (some false))) = some r := by rw [if_pos rfl] at H; exact H
  clear H; have H := H1; clear H1
  by_cases c4 : a0_0 = 1
  ·rw [if_pos c4] at H
   have c4b0 : (a0_0 == 1) = true := beq_iff_eq.mpr c4
   have c4b1 : (a0_0 != 1) = false := bne_eq_false_iff_eq.mpr c4
   clear c4
   by_cases c5 : (a0_5 == 0 && (a0_6 == 0 && (a0_7 == 0 && (a0_8 == 0)))) = true
   ·rw [if_pos c5] at H
    have c5b0 : (a0_5 == 0 && (a0_6 == 0 && (a0_7 == 0 && (a0_8 == 0)))) = true := c5
    (try (have c5b1 : decide (a0_5 = 0 && (a0_6 == 0 && (a0_7 == 0 && (a0_8 == 0)))) = true := by simpa using c5))
    (try (have c5b2 : (a0_5 == 0 && (a0_6 == 0 && (a0_7 == 0 && (a0_8 == 0)))) = true := by simpa using c5))
    clear c5
    by_cases c6 : (a0_9 == 0 && (a0_10 == 0)) = true
    ·rw [if_pos c6] at H
     have c6b0 : (a0_9 == 0 && (a0_10 == 0)) = true := c6
     (try (have c6b1 : decide (a0_9 = 0 && (a0_10 == 0)) = true := by simpa using c6))
     (try (have c6b2 : (a0_9 == 0 && (a0_10 == 0)) = true := by simpa using c6))
     clear c6
     obtain rfl := Option.some.inj H
     simp only [Option.some.injEq, Prod.mk.injEq] at H
     obtain ⟨rfl⟩ := H
     go_enter Try.func69, Try.ntmps69
     go_wp2_with (first | ((with_reducible refine gate_dst (N := 1) rfl ?_); refine boxz (cs := #[.int .i64 a0_0, .int .i64 a0_1, .int .i64 a0_2, .int .i64 a0_3, .int .i64 a0_4, .int .i64 a0_5, .int .i64 a0_6, .int .i64 a0_7, .int .i64 a0_8, .int .i64 a0_9, .int .i64 a0_10, .int .i64 a0_11, .int .i64 a0_12]) (t := 54) rfl ?_; intro gb312 hg w7 hbox hb; have n0_ := Aside0.mk (below_step z9_2 hb); have n1_ := Aside0.mk (hbox); have n2_ := Aside0.mk (ge_go (a := w.heap.size) hg (below_size z9_2)); have n3_ := Aside0.mk (ge_go (a := w.heap.size) hg (below_size z9_2)); clear HB; have HB := n0_; have BK312 := n1_; have GW312 := n2_; have GE312 := n3_; clear n0_ n1_ n2_ n3_; clear hb hbox hg) | ((with_reducible refine gate_dst (N := 3) rfl ?_); refine boxz (cs := #[.int .i64 0, .int .i64 0, .int .i64 0, .int .i64 0]) (t := 51) rfl ?_; intro gb313 hg w8 hbox hb; have n0_ := Aside0.mk (blk_belowB BK312 z9_6 hb); have n1_ := Aside0.mk (below_step z9_5 hb); have n2_ := Aside0.mk (hbox); have n3_ := Aside0.mk (ge_go (a := w.heap.size) hg (below_size z9_5)); have n4_ := Aside0.mk (ge_go (a := w.heap.size) hg (below_size z9_5)); have n5_ := Aside0.mk (nb_lt hg (blk_ltB BK312 z9_6)); have n6_ := Aside0.mk (nb_gt hg (blk_ltB BK312 z9_6)); clear BK312; clear HB; have BK312 := n0_; have HB := n1_; have BK313 := n2_; have GW313 := n3_; have GE313 := n4_; have NB312_313 := n5_; have NB313_312 := n6_; clear n0_ n1_ n2_ n3_ n4_ n5_ n6_; clear hb hbox hg; have hnb9 := NB313_312.out; have hnc9 := NB312_313.out; obtain ⟨_, _, _, _, _, _, _, _⟩ := be_4 BK313.out) | ((with_reducible refine gate_dst (N := 4) rfl ?_); refine boxz (cs := #[.int .i64 0, .int .i64 0]) (t := 52) rfl ?_; intro gb314 hg w11 hbox hb; have n0_ := Aside0.mk (blk_belowB BK312 z9_0 hb); have n1_ := Aside0.mk (blk_below (g := gb313) (o := .cells #[.int .i64 0, .int .i64 0, .int .i64 0, .int .i64 0] 51 (0, 0)) z9_1 hb); have n2_ := Aside0.mk (below_step z9_4 hb); have n3_ := Aside0.mk (hbox); have n4_ := Aside0.mk (ge_go (a := w.heap.size) hg (below_size z9_4)); have n5_ := Aside0.mk (ge_go (a := w.heap.size) hg (below_size z9_4)); have n6_ := Aside0.mk (nb_lt hg (blk_ltB BK312 z9_0)); have n7_ := Aside0.mk (nb_gt hg (blk_ltB BK312 z9_0)); have n8_ := Aside0.mk ((by rw [hg]; exact Nat.ne_of_lt (blk_lt (g := gb313) (o := .cells #[.int .i64 0, .int .i64 0, .int .i64 0, .int .i64 0] 51 (0, 0)) z9_1) : gb313 ≠ gb314)); have n9_ := Aside0.mk ((by rw [hg]; exact Nat.ne_of_gt (blk_lt (g := gb313) (o := .cells #[.int .i64 0, .int .i64 0, .int .i64 0, .int .i64 0] 51 (0, 0)) z9_1) : gb314 ≠ gb313)); clear BK312; clear BK313; clear HB; have BK312 := n0_; have BK313 := n1_; have HB := n2_; have BK314 := n3_; have GW314 := n4_; have GE314 := n5_; have NB312_314 := n6_; have NB314_312 := n7_; have NB313_314 := n8_; have NB314_313 := n9_; clear n0_ n1_ n2_ n3_ n4_ n5_ n6_ n7_ n8_ n9_; clear hb hbox hg; have hnb12 := NB314_312.out; have hnc12 := NB312_314.out; have hnb13 := NB314_313.out; have hnc13 := NB313_314.out; obtain ⟨_, _, _, _⟩ := be_2 BK314.out; obtain ⟨_, _, _, _, _, _, _, _, _, _, _, _, _, _, _, _, _, _, _, _, _, _, _, _, _, _⟩ := be_13 BK312.out) | ((with_reducible refine gate_callee (f := 125) rfl ?_); refine goesL_ (some 9) rfl rfl Try.func125 (by kernel_rfl) rfl #[.agg #[.int .i64 a0_1, .int .i64 a0_2, .int .i64 a0_3, .int .i64 a0_4]] rfl z9_10 ?_; (with_reducible refine (spec_ColorOk.calls a0_1 a0_2 a0_3 a0_4 true _ A2.out).mono ?_); rintro e w16 ⟨rfl, hb⟩; refine ⟨_, rfl, ?_⟩; have n0_ := Aside0.mk (blk_belowB BK312 z9_7 hb); have n1_ := Aside0.mk (blk_belowB BK313 z9_8 hb); have n2_ := Aside0.mk (blk_below (g := gb314) (o := .cells #[.int .i64 0, .int .i64 0] 52 (0, 0)) z9_9 hb); have n3_ := Aside0.mk (below_step z9_3 hb); clear BK312; clear BK313; clear BK314; clear HB; have BK312 := n0_; have BK313 := n1_; have BK314 := n2_; have HB := n3_; clear n0_ n1_ n2_ n3_; (try clear hb); obtain ⟨_, _, _, _, _, _, _, _, _, _, _, _, _, _, _, _, _, _, _, _, _, _, _, _, _, _⟩ := be_13 BK312.out; obtain ⟨_, _, _, _, _, _, _, _⟩ := be_4 BK313.out; obtain ⟨_, _, _, _⟩ := be_2 BK314.out))
     go_ret
     exact ⟨z9_11, z9_3⟩
    ·rw [if_neg c6] at H
     have c6b0 : (a0_9 == 0 && (a0_10 == 0)) = false := by simpa using c6
     (try (have c6b1 : decide (a0_9 = 0 && (a0_10 == 0)) = false := by simpa using c6))
     (try (have c6b2 : (a0_9 == 0 && (a0_10 == 0)) = false := by simpa using c6))
     (try (have c6b3 : ¬ (a0_9 = 0 && (a0_10 == 0)) := by simpa using c6))
     clear c6
     obtain rfl := Option.some.inj H
     simp only [Option.some.injEq, Prod.mk.injEq] at H
     obtain ⟨rfl⟩ := H
     go_enter Try.func69, Try.ntmps69
     go_wp2_with (first | ((with_reducible refine gate_dst (N := 1) rfl ?_); refine boxz (cs := #[.int .i64 a0_0, .int .i64 a0_1, .int .i64 a0_2, .int .i64 a0_3, .int .i64 a0_4, .int .i64 a0_5, .int .i64 a0_6, .int .i64 a0_7, .int .i64 a0_8, .int .i64 a0_9, .int .i64 a0_10, .int .i64 a0_11, .int .i64 a0_12]) (t := 54) rfl ?_; intro gb312 hg w20 hbox hb; have n0_ := Aside0.mk (below_step z9_2 hb); have n1_ := Aside0.mk (hbox); have n2_ := Aside0.mk (ge_go (a := w.heap.size) hg (below_size z9_2)); have n3_ := Aside0.mk (ge_go (a := w.heap.size) hg (below_size z9_2)); clear HB; have HB := n0_; have BK312 := n1_; have GW312 := n2_; have GE312 := n3_; clear n0_ n1_ n2_ n3_; clear hb hbox hg) | ((with_reducible refine gate_dst (N := 3) rfl ?_); refine boxz (cs := #[.int .i64 0, .int .i64 0, .int .i64 0, .int .i64 0]) (t := 51) rfl ?_; intro gb313 hg w21 hbox hb; have n0_ := Aside0.mk (blk_belowB BK312 z9_6 hb); have n1_ := Aside0.mk (below_step z9_5 hb); have n2_ := Aside0.mk (hbox); have n3_ := Aside0.mk (ge_go (a := w.heap.size) hg (below_size z9_5)); have n4_ := Aside0.mk (ge_go (a := w.heap.size) hg (below_size z9_5)); have n5_ := Aside0.mk (nb_lt hg (blk_ltB BK312 z9_6)); have n6_ := Aside0.mk (nb_gt hg (blk_ltB BK312 z9_6)); clear BK312; clear HB; have BK312 := n0_; have HB := n1_; have BK313 := n2_; have GW313 := n3_; have GE313 := n4_; have NB312_313 := n5_; have NB313_312 := n6_; clear n0_ n1_ n2_ n3_ n4_ n5_ n6_; clear hb hbox hg; have hnb22 := NB313_312.out; have hnc22 := NB312_313.out; obtain ⟨_, _, _, _, _, _, _, _⟩ := be_4 BK313.out) | ((with_reducible refine gate_dst (N := 4) rfl ?_); refine boxz (cs := #[.int .i64 0, .int .i64 0]) (t := 52) rfl ?_; intro gb314 hg w24 hbox hb; have n0_ := Aside0.mk (blk_belowB BK312 z9_0 hb); have n1_ := Aside0.mk (blk_below (g := gb313) (o := .cells #[.int .i64 0, .int .i64 0, .int .i64 0, .int .i64 0] 51 (0, 0)) z9_1 hb); have n2_ := Aside0.mk (below_step z9_4 hb); have n3_ := Aside0.mk (hbox); have n4_ := Aside0.mk (ge_go (a := w.heap.size) hg (below_size z9_4)); have n5_ := Aside0.mk (ge_go (a := w.heap.size) hg (below_size z9_4)); have n6_ := Aside0.mk (nb_lt hg (blk_ltB BK312 z9_0)); have n7_ := Aside0.mk (nb_gt hg (blk_ltB BK312 z9_0)); have n8_ := Aside0.mk ((by rw [hg]; exact Nat.ne_of_lt (blk_lt (g := gb313) (o := .cells #[.int .i64 0, .int .i64 0, .int .i64 0, .int .i64 0] 51 (0, 0)) z9_1) : gb313 ≠ gb314)); have n9_ := Aside0.mk ((by rw [hg]; exact Nat.ne_of_gt (blk_lt (g := gb313) (o := .cells #[.int .i64 0, .int .i64 0, .int .i64 0, .int .i64 0] 51 (0, 0)) z9_1) : gb314 ≠ gb313)); clear BK312; clear BK313; clear HB; have BK312 := n0_; have BK313 := n1_; have HB := n2_; have BK314 := n3_; have GW314 := n4_; have GE314 := n5_; have NB312_314 := n6_; have NB314_312 := n7_; have NB313_314 := n8_; have NB314_313 := n9_; clear n0_ n1_ n2_ n3_ n4_ n5_ n6_ n7_ n8_ n9_; clear hb hbox hg; have hnb25 := NB314_312.out; have hnc25 := NB312_314.out; have hnb26 := NB314_313.out; have hnc26 := NB313_314.out; obtain ⟨_, _, _, _⟩ := be_2 BK314.out; obtain ⟨_, _, _, _, _, _, _, _, _, _, _, _, _, _, _, _, _, _, _, _, _, _, _, _, _, _⟩ := be_13 BK312.out) | ((with_reducible refine gate_callee (f := 125) rfl ?_); refine goesL_ (some 9) rfl rfl Try.func125 (by kernel_rfl) rfl #[.agg #[.int .i64 a0_1, .int .i64 a0_2, .int .i64 a0_3, .int .i64 a0_4]] rfl z9_10 ?_; (with_reducible refine (spec_ColorOk.calls a0_1 a0_2 a0_3 a0_4 true _ A2.out).mono ?_); rintro e w29 ⟨rfl, hb⟩; refine ⟨_, rfl, ?_⟩; have n0_ := Aside0.mk (blk_belowB BK312 z9_7 hb); have n1_ := Aside0.mk (blk_belowB BK313 z9_8 hb); have n2_ := Aside0.mk (blk_below (g := gb314) (o := .cells #[.int .i64 0, .int .i64 0] 52 (0, 0)) z9_9 hb); have n3_ := Aside0.mk (below_step z9_3 hb); clear BK312; clear BK313; clear BK314; clear HB; have BK312 := n0_; have BK313 := n1_; have BK314 := n2_; have HB := n3_; clear n0_ n1_ n2_ n3_; (try clear hb); obtain ⟨_, _, _, _, _, _, _, _, _, _, _, _, _, _, _, _, _, _, _, _, _, _, _, _, _, _⟩ := be_13 BK312.out; obtain ⟨_, _, _, _, _, _, _, _⟩ := be_4 BK313.out; obtain ⟨_, _, _, _⟩ := be_2 BK314.out))
     go_ret
     exact ⟨z9_11, z9_3⟩
   ·rw [if_neg c5] at H
    have c5b0 : (a0_5 == 0 && (a0_6 == 0 && (a0_7 == 0 && (a0_8 == 0)))) = false := by simpa using c5
    (try (have c5b1 : decide (a0_5 = 0 && (a0_6 == 0 && (a0_7 == 0 && (a0_8 == 0)))) = false := by simpa using c5))
    (try (have c5b2 : (a0_5 == 0 && (a0_6 == 0 && (a0_7 == 0 && (a0_8 == 0)))) = false := by simpa using c5))
    (try (have c5b3 : ¬ (a0_5 = 0 && (a0_6 == 0 && (a0_7 == 0 && (a0_8 == 0)))) := by simpa using c5))
    clear c5
    obtain rfl := Option.some.inj H
    simp only [Option.some.injEq, Prod.mk.injEq] at H
    obtain ⟨rfl⟩ := H
    go_enter Try.func69, Try.ntmps69
    go_wp2_with (first | ((with_reducible refine gate_dst (N := 1) rfl ?_); refine boxz (cs := #[.int .i64 a0_0, .int .i64 a0_1, .int .i64 a0_2, .int .i64 a0_3, .int .i64 a0_4, .int .i64 a0_5, .int .i64 a0_6, .int .i64 a0_7, .int .i64 a0_8, .int .i64 a0_9, .int .i64 a0_10, .int .i64 a0_11, .int .i64 a0_12]) (t := 54) rfl ?_; intro gb312 hg w33 hbox hb; have n0_ := Aside0.mk (below_step z9_2 hb); have n1_ := Aside0.mk (hbox); have n2_ := Aside0.mk (ge_go (a := w.heap.size) hg (below_size z9_2)); have n3_ := Aside0.mk (ge_go (a := w.heap.size) hg (below_size z9_2)); clear HB; have HB := n0_; have BK312 := n1_; have GW312 := n2_; have GE312 := n3_; clear n0_ n1_ n2_ n3_; clear hb hbox hg) | ((with_reducible refine gate_dst (N := 3) rfl ?_); refine boxz (cs := #[.int .i64 0, .int .i64 0, .int .i64 0, .int .i64 0]) (t := 51) rfl ?_; intro gb313 hg w34 hbox hb; have n0_ := Aside0.mk (blk_belowB BK312 z9_6 hb); have n1_ := Aside0.mk (below_step z9_5 hb); have n2_ := Aside0.mk (hbox); have n3_ := Aside0.mk (ge_go (a := w.heap.size) hg (below_size z9_5)); have n4_ := Aside0.mk (ge_go (a := w.heap.size) hg (below_size z9_5)); have n5_ := Aside0.mk (nb_lt hg (blk_ltB BK312 z9_6)); have n6_ := Aside0.mk (nb_gt hg (blk_ltB BK312 z9_6)); clear BK312; clear HB; have BK312 := n0_; have HB := n1_; have BK313 := n2_; have GW313 := n3_; have GE313 := n4_; have NB312_313 := n5_; have NB313_312 := n6_; clear n0_ n1_ n2_ n3_ n4_ n5_ n6_; clear hb hbox hg; have hnb35 := NB313_312.out; have hnc35 := NB312_313.out; obtain ⟨_, _, _, _, _, _, _, _⟩ := be_4 BK313.out) | ((with_reducible refine gate_dst (N := 4) rfl ?_); refine boxz (cs := #[.int .i64 0, .int .i64 0]) (t := 52) rfl ?_; intro gb314 hg w37 hbox hb; have n0_ := Aside0.mk (blk_belowB BK312 z9_0 hb); have n1_ := Aside0.mk (blk_below (g := gb313) (o := .cells #[.int .i64 0, .int .i64 0, .int .i64 0, .int .i64 0] 51 (0, 0)) z9_1 hb); have n2_ := Aside0.mk (below_step z9_4 hb); have n3_ := Aside0.mk (hbox); have n4_ := Aside0.mk (ge_go (a := w.heap.size) hg (below_size z9_4)); have n5_ := Aside0.mk (ge_go (a := w.heap.size) hg (below_size z9_4)); have n6_ := Aside0.mk (nb_lt hg (blk_ltB BK312 z9_0)); have n7_ := Aside0.mk (nb_gt hg (blk_ltB BK312 z9_0)); have n8_ := Aside0.mk ((by rw [hg]; exact Nat.ne_of_lt (blk_lt (g := gb313) (o := .cells #[.int .i64 0, .int .i64 0, .int .i64 0, .int .i64 0] 51 (0, 0)) z9_1) : gb313 ≠ gb314)); have n9_ := Aside0.mk ((by rw [hg]; exact Nat.ne_of_gt (blk_lt (g := gb313) (o := .cells #[.int .i64 0, .int .i64 0, .int .i64 0, .int .i64 0] 51 (0, 0)) z9_1) : gb314 ≠ gb313)); clear BK312; clear BK313; clear HB; have BK312 := n0_; have BK313 := n1_; have HB := n2_; have BK314 := n3_; have GW314 := n4_; have GE314 := n5_; have NB312_314 := n6_; have NB314_312 := n7_; have NB313_314 := n8_; have NB314_313 := n9_; clear n0_ n1_ n2_ n3_ n4_ n5_ n6_ n7_ n8_ n9_; clear hb hbox hg; have hnb38 := NB314_312.out; have hnc38 := NB312_314.out; have hnb39 := NB314_313.out; have hnc39 := NB313_314.out; obtain ⟨_, _, _, _⟩ := be_2 BK314.out; obtain ⟨_, _, _, _, _, _, _, _, _, _, _, _, _, _, _, _, _, _, _, _, _, _, _, _, _, _⟩ := be_13 BK312.out) | ((with_reducible refine gate_callee (f := 125) rfl ?_); refine goesL_ (some 9) rfl rfl Try.func125 (by kernel_rfl) rfl #[.agg #[.int .i64 a0_1, .int .i64 a0_2, .int .i64 a0_3, .int .i64 a0_4]] rfl z9_10 ?_; (with_reducible refine (spec_ColorOk.calls a0_1 a0_2 a0_3 a0_4 true _ A2.out).mono ?_); rintro e w42 ⟨rfl, hb⟩; refine ⟨_, rfl, ?_⟩; have n0_ := Aside0.mk (blk_belowB BK312 z9_7 hb); have n1_ := Aside0.mk (blk_belowB BK313 z9_8 hb); have n2_ := Aside0.mk (blk_below (g := gb314) (o := .cells #[.int .i64 0, .int .i64 0] 52 (0, 0)) z9_9 hb); have n3_ := Aside0.mk (below_step z9_3 hb); clear BK312; clear BK313; clear BK314; clear HB; have BK312 := n0_; have BK313 := n1_; have BK314 := n2_; have HB := n3_; clear n0_ n1_ n2_ n3_; (try clear hb); obtain ⟨_, _, _, _, _, _, _, _, _, _, _, _, _, _, _, _, _, _, _, _, _, _, _, _, _, _⟩ := be_13 BK312.out; obtain ⟨_, _, _, _, _, _, _, _⟩ := be_4 BK313.out))
    go_ret
    exact ⟨z9_11, z9_3⟩
  ·rw [if_neg c4] at H
   have c4b0 : (a0_0 == 1) = false := beq_eq_false_iff_ne.mpr c4
   have c4b1 : (a0_0 != 1) = true := bne_iff_ne.mpr c4
   by_cases c45 : a0_0 = 2
   ·rw [if_pos c45] at H
    have c45b0 : (a0_0 == 2) = true := beq_iff_eq.mpr c45
    have c45b1 : (a0_0 != 2) = false := bne_eq_false_iff_eq.mpr c45
    clear c45
    replace H := Option.bind_eq_some_iff.mp H
    obtain ⟨t316, A460, H⟩ := H
    try dsimp only at H
    have A46 := Aside0.mk A460
    clear A460
    by_cases c47 : t316 = true
    ·subst c47
     have H1 : ((spec_PointOk.f a0_9 a0_10).bind fun t317 => (if t317 = true then ((spec_PointOk.f a0_11 a0_12).bind fun t318 => (if t318 = true then (some (!(a0_9 == a0_11) || (!(a0_10 == a0_12)))) else (some false))) else (some false))) = some r := by rw [if_pos rfl] at H; exact H
     clear H; have H := H1; clear H1
     replace H := Option.bind_eq_some_iff.mp H
     obtain ⟨t317, A480, H⟩ := H
     try dsimp only at H
     have A48 := Aside0.mk A480
     clear A480
     by_cases c49 : t317 = true
     ·subst c49
      have H1 : ((spec_PointOk.f a0_11 a0_12).bind fun t318 => (if t318 = true then (some (!(a0_9 == a0_11) || (!(a0_10 == a0_12)))) else (some false))) = some r := by rw [if_pos rfl] at H; exact H
      clear H; have H := H1; clear H1
      replace H := Option.bind_eq_some_iff.mp H
      obtain ⟨t318, A500, H⟩ := H
      try dsimp only at H
      have A50 := Aside0.mk A500
      clear A500
      by_cases c51 : t318 = true
      ·subst c51
       have H1 : (some (!(a0_9 == a0_11) || (!(a0_10 == a0_12)))) = some r := by rw [if_pos rfl] at H; exact H
       clear H; have H := H1; clear H1
       obtain rfl := Option.some.inj H
       simp only [Option.some.injEq, Prod.mk.injEq] at H
       obtain ⟨rfl⟩ := H
       go_enter Try.func69, Try.ntmps69
       go_wp2_with (first | ((with_reducible refine gate_dst (N := 1) rfl ?_); refine boxz (cs := #[.int .i64 a0_0, .int .i64 a0_1, .int .i64 a0_2, .int .i64 a0_3, .int .i64 a0_4, .int .i64 a0_5, .int .i64 a0_6, .int .i64 a0_7, .int .i64 a0_8, .int .i64 a0_9, .int .i64 a0_10, .int .i64 a0_11, .int .i64 a0_12]) (t := 54) rfl ?_; intro gb312 hg w52 hbox hb; have n0_ := Aside0.mk (below_step z9_2 hb); have n1_ := Aside0.mk (hbox); have n2_ := Aside0.mk (ge_go (a := w.heap.size) hg (below_size z9_2)); have n3_ := Aside0.mk (ge_go (a := w.heap.size) hg (below_size z9_2)); clear HB; have HB := n0_; have BK312 := n1_; have GW312 := n2_; have GE312 := n3_; clear n0_ n1_ n2_ n3_; clear hb hbox hg) | ((with_reducible refine gate_dst (N := 3) rfl ?_); refine boxz (cs := #[.int .i64 0, .int .i64 0, .int .i64 0, .int .i64 0]) (t := 51) rfl ?_; intro gb313 hg w53 hbox hb; have n0_ := Aside0.mk (blk_belowB BK312 z9_6 hb); have n1_ := Aside0.mk (below_step z9_5 hb); have n2_ := Aside0.mk (hbox); have n3_ := Aside0.mk (ge_go (a := w.heap.size) hg (below_size z9_5)); have n4_ := Aside0.mk (ge_go (a := w.heap.size) hg (below_size z9_5)); have n5_ := Aside0.mk (nb_lt hg (blk_ltB BK312 z9_6)); have n6_ := Aside0.mk (nb_gt hg (blk_ltB BK312 z9_6)); clear BK312; clear HB; have BK312 := n0_; have HB := n1_; have BK313 := n2_; have GW313 := n3_; have GE313 := n4_; have NB312_313 := n5_; have NB313_312 := n6_; clear n0_ n1_ n2_ n3_ n4_ n5_ n6_; clear hb hbox hg; have hnb54 := NB313_312.out; have hnc54 := NB312_313.out; obtain ⟨_, _, _, _, _, _, _, _⟩ := be_4 BK313.out) | ((with_reducible refine gate_dst (N := 4) rfl ?_); refine boxz (cs := #[.int .i64 0, .int .i64 0]) (t := 52) rfl ?_; intro gb314 hg w56 hbox hb; have n0_ := Aside0.mk (blk_belowB BK312 z9_0 hb); have n1_ := Aside0.mk (blk_below (g := gb313) (o := .cells #[.int .i64 0, .int .i64 0, .int .i64 0, .int .i64 0] 51 (0, 0)) z9_1 hb); have n2_ := Aside0.mk (below_step z9_4 hb); have n3_ := Aside0.mk (hbox); have n4_ := Aside0.mk (ge_go (a := w.heap.size) hg (below_size z9_4)); have n5_ := Aside0.mk (ge_go (a := w.heap.size) hg (below_size z9_4)); have n6_ := Aside0.mk (nb_lt hg (blk_ltB BK312 z9_0)); have n7_ := Aside0.mk (nb_gt hg (blk_ltB BK312 z9_0)); have n8_ := Aside0.mk ((by rw [hg]; exact Nat.ne_of_lt (blk_lt (g := gb313) (o := .cells #[.int .i64 0, .int .i64 0, .int .i64 0, .int .i64 0] 51 (0, 0)) z9_1) : gb313 ≠ gb314)); have n9_ := Aside0.mk ((by rw [hg]; exact Nat.ne_of_gt (blk_lt (g := gb313) (o := .cells #[.int .i64 0, .int .i64 0, .int .i64 0, .int .i64 0] 51 (0, 0)) z9_1) : gb314 ≠ gb313)); clear BK312; clear BK313; clear HB; have BK312 := n0_; have BK313 := n1_; have HB := n2_; have BK314 := n3_; have GW314 := n4_; have GE314 := n5_; have NB312_314 := n6_; have NB314_312 := n7_; have NB313_314 := n8_; have NB314_313 := n9_; clear n0_ n1_ n2_ n3_ n4_ n5_ n6_ n7_ n8_ n9_; clear hb hbox hg; have hnb57 := NB314_312.out; have hnc57 := NB312_314.out; have hnb58 := NB314_313.out; have hnc58 := NB313_314.out; obtain ⟨_, _, _, _⟩ := be_2 BK314.out; obtain ⟨_, _, _, _, _, _, _, _, _, _, _, _, _, _, _, _, _, _, _, _, _, _, _, _, _, _⟩ := be_13 BK312.out) | ((with_reducible refine gate_callee (f := 125) rfl ?_); refine goesL_ (some 9) rfl rfl Try.func125 (by kernel_rfl) rfl #[.agg #[.int .i64 a0_1, .int .i64 a0_2, .int .i64 a0_3, .int .i64 a0_4]] rfl z9_10 ?_; (with_reducible refine (spec_ColorOk.calls a0_1 a0_2 a0_3 a0_4 true _ A2.out).mono ?_); rintro e w61 ⟨rfl, hb⟩; refine ⟨_, rfl, ?_⟩; have n0_ := Aside0.mk (blk_belowB BK312 z9_7 hb); have n1_ := Aside0.mk (blk_belowB BK313 z9_8 hb); have n2_ := Aside0.mk (blk_below (g := gb314) (o := .cells #[.int .i64 0, .int .i64 0] 52 (0, 0)) z9_9 hb); have n3_ := Aside0.mk (below_step z9_3 hb); clear BK312; clear BK313; clear BK314; clear HB; have BK312 := n0_; have BK313 := n1_; have BK314 := n2_; have HB := n3_; clear n0_ n1_ n2_ n3_; (try clear hb); obtain ⟨_, _, _, _, _, _, _, _, _, _, _, _, _, _, _, _, _, _, _, _, _, _, _, _, _, _⟩ := be_13 BK312.out) | (go_at_call 125; (with_reducible refine (spec_ColorOk.calls a0_5 a0_6 a0_7 a0_8 true _ A46.out).mono ?_); rintro e w63 ⟨rfl, hb⟩; have n0_ := Aside0.mk (blk_belowB BK312 z9_6 hb); have n1_ := Aside0.mk (blk_belowB BK313 z9_12 hb); have n2_ := Aside0.mk (blk_belowB BK314 z9_13 hb); have n3_ := Aside0.mk (below_step z9_3 hb); clear BK312; clear BK313; clear BK314; clear HB; have BK312 := n0_; have BK313 := n1_; have BK314 := n2_; have HB := n3_; clear n0_ n1_ n2_ n3_; (try clear hb); obtain ⟨_, _, _, _, _, _, _, _, _, _, _, _, _, _, _, _, _, _, _, _, _, _, _, _, _, _⟩ := be_13 BK312.out) | (go_at_call 117; (with_reducible refine (spec_PointOk.calls a0_9 a0_10 true _ A48.out).mono ?_); rintro e w65 ⟨rfl, hb⟩; have n0_ := Aside0.mk (blk_belowB BK312 z9_6 hb); have n1_ := Aside0.mk (blk_belowB BK313 z9_12 hb); have n2_ := Aside0.mk (blk_belowB BK314 z9_13 hb); have n3_ := Aside0.mk (below_step z9_3 hb); clear BK312; clear BK313; clear BK314; clear HB; have BK312 := n0_; have BK313 := n1_; have BK314 := n2_; have HB := n3_; clear n0_ n1_ n2_ n3_; (try clear hb); obtain ⟨_, _, _, _, _, _, _, _, _, _, _, _, _, _, _, _, _, _, _, _, _, _, _, _, _, _⟩ := be_13 BK312.out) | (go_at_call 117; (with_reducible refine (spec_PointOk.calls a0_11 a0_12 true _ A50.out).mono ?_); rintro e w67 ⟨rfl, hb⟩; have n0_ := Aside0.mk (blk_belowB BK312 z9_6 hb); have n1_ := Aside0.mk (blk_belowB BK313 z9_12 hb); have n2_ := Aside0.mk (blk_belowB BK314 z9_13 hb); have n3_ := Aside0.mk (below_step z9_3 hb); clear BK312; clear BK313; clear BK314; clear HB; have BK312 := n0_; have BK313 := n1_; have BK314 := n2_; have HB := n3_; clear n0_ n1_ n2_ n3_; (try clear hb); obtain ⟨_, _, _, _, _, _, _, _, _, _, _, _, _, _, _, _, _, _, _, _, _, _, _, _, _, _⟩ := be_13 BK312.out))
       go_ret
       exact ⟨z9_11, z9_3⟩
      ·replace c51 := Bool.eq_false_iff.mpr c51
       subst c51
       have H1 : (some false) = some r := by rw [if_neg (show ¬ (false = true) by decide)] at H; exact H
       clear H; have H := H1; clear H1
       obtain rfl := Option.some.inj H
       simp only [Option.some.injEq, Prod.mk.injEq] at H
       obtain ⟨rfl⟩ := H
       go_enter Try.func69, Try.ntmps69
       go_wp2_with (first | ((with_reducible refine gate_dst (N := 1) rfl ?_); refine boxz (cs := #[.int .i64 a0_0, .int .i64 a0_1, .int .i64 a0_2, .int .i64 a0_3, .int .i64 a0_4, .int .i64 a0_5, .int .i64 a0_6, .int .i64 a0_7, .int .i64 a0_8, .int .i64 a0_9, .int .i64 a0_10, .int .i64 a0_11, .int .i64 a0_12]) (t := 54) rfl ?_; intro gb312 hg w69 hbox hb; have n0_ := Aside0.mk (below_step z9_2 hb); have n1_ := Aside0.mk (hbox); have n2_ := Aside0.mk (ge_go (a := w.heap.size) hg (below_size z9_2)); have n3_ := Aside0.mk (ge_go (a := w.heap.size) hg (below_size z9_2)); clear HB; have HB := n0_; have BK312 := n1_; have GW312 := n2_; have GE312 := n3_; clear n0_ n1_ n2_ n3_; clear hb hbox hg) | ((with_reducible refine gate_dst (N := 3) rfl ?_); refine boxz (cs := #[.int .i64 0, .int .i64 0, .int .i64 0, .int .i64 0]) (t := 51) rfl ?_; intro gb313 hg w70 hbox hb; have n0_ := Aside0.mk (blk_belowB BK312 z9_6 hb); have n1_ := Aside0.mk (below_step z9_5 hb); have n2_ := Aside0.mk (hbox); have n3_ := Aside0.mk (ge_go (a := w.heap.size) hg (below_size z9_5)); have n4_ := Aside0.mk (ge_go (a := w.heap.size) hg (below_size z9_5)); have n5_ := Aside0.mk (nb_lt hg (blk_ltB BK312 z9_6)); have n6_ := Aside0.mk (nb_gt hg (blk_ltB BK312 z9_6)); clear BK312; clear HB; have BK312 := n0_; have HB := n1_; have BK313 := n2_; have GW313 := n3_; have GE313 := n4_; have NB312_313 := n5_; have NB313_312 := n6_; clear n0_ n1_ n2_ n3_ n4_ n5_ n6_; clear hb hbox hg; have hnb71 := NB313_312.out; have hnc71 := NB312_313.out; obtain ⟨_, _, _, _, _, _, _, _⟩ := be_4 BK313.out) | ((with_reducible refine gate_dst (N := 4) rfl ?_); refine boxz (cs := #[.int .i64 0, .int .i64 0]) (t := 52) rfl ?_; intro gb314 hg w73 hbox hb; have n0_ := Aside0.mk (blk_belowB BK312 z9_0 hb); have n1_ := Aside0.mk (blk_below (g := gb313) (o := .cells #[.int .i64 0, .int .i64 0, .int .i64 0, .int .i64 0] 51 (0, 0)) z9_1 hb); have n2_ := Aside0.mk (below_step z9_4 hb); have n3_ := Aside0.mk (hbox); have n4_ := Aside0.mk (ge_go (a := w.heap.size) hg (below_size z9_4)); have n5_ := Aside0.mk (ge_go (a := w.heap.size) hg (below_size z9_4)); have n6_ := Aside0.mk (nb_lt hg (blk_ltB BK312 z9_0)); have n7_ := Aside0.mk (nb_gt hg (blk_ltB BK312 z9_0)); have n8_ := Aside0.mk ((by rw [hg]; exact Nat.ne_of_lt (blk_lt (g := gb313) (o := .cells #[.int .i64 0, .int .i64 0, .int .i64 0, .int .i64 0] 51 (0, 0)) z9_1) : gb313 ≠ gb314)); have n9_ := Aside0.mk ((by rw [hg]; exact Nat.ne_of_gt (blk_lt (g := gb313) (o := .cells #[.int .i64 0, .int .i64 0, .int .i64 0, .int .i64 0] 51 (0, 0)) z9_1) : gb314 ≠ gb313)); clear BK312; clear BK313; clear HB; have BK312 := n0_; have BK313 := n1_; have HB := n2_; have BK314 := n3_; have GW314 := n4_; have GE314 := n5_; have NB312_314 := n6_; have NB314_312 := n7_; have NB313_314 := n8_; have NB314_313 := n9_; clear n0_ n1_ n2_ n3_ n4_ n5_ n6_ n7_ n8_ n9_; clear hb hbox hg; have hnb74 := NB314_312.out; have hnc74 := NB312_314.out; have hnb75 := NB314_313.out; have hnc75 := NB313_314.out; obtain ⟨_, _, _, _⟩ := be_2 BK314.out; obtain ⟨_, _, _, _, _, _, _, _, _, _, _, _, _, _, _, _, _, _, _, _, _, _, _, _, _, _⟩ := be_13 BK312.out) | ((with_reducible refine gate_callee (f := 125) rfl ?_); refine goesL_ (some 9) rfl rfl Try.func125 (by kernel_rfl) rfl #[.agg #[.int .i64 a0_1, .int .i64 a0_2, .int .i64 a0_3, .int .i64 a0_4]] rfl z9_10 ?_; (with_reducible refine (spec_ColorOk.calls a0_1 a0_2 a0_3 a0_4 true _ A2.out).mono ?_); rintro e w78 ⟨rfl, hb⟩; refine ⟨_, rfl, ?_⟩; have n0_ := Aside0.mk (blk_belowB BK312 z9_7 hb); have n1_ := Aside0.mk (blk_belowB BK313 z9_8 hb); have n2_ := Aside0.mk (blk_below (g := gb314) (o := .cells #[.int .i64 0, .int .i64 0] 52 (0, 0)) z9_9 hb); have n3_ := Aside0.mk (below_step z9_3 hb); clear BK312; clear BK313; clear BK314; clear HB; have BK312 := n0_; have BK313 := n1_; have BK314 := n2_; have HB := n3_; clear n0_ n1_ n2_ n3_; (try clear hb); obtain ⟨_, _, _, _, _, _, _, _, _, _, _, _, _, _, _, _, _, _, _, _, _, _, _, _, _, _⟩ := be_13 BK312.out) | (go_at_call 125; (with_reducible refine (spec_ColorOk.calls a0_5 a0_6 a0_7 a0_8 true _ A46.out).mono ?_); rintro e w80 ⟨rfl, hb⟩; have n0_ := Aside0.mk (blk_belowB BK312 z9_6 hb); have n1_ := Aside0.mk (blk_belowB BK313 z9_12 hb); have n2_ := Aside0.mk (blk_belowB BK314 z9_13 hb); have n3_ := Aside0.mk (below_step z9_3 hb); clear BK312; clear BK313; clear BK314; clear HB; have BK312 := n0_; have BK313 := n1_; have BK314 := n2_; have HB := n3_; clear n0_ n1_ n2_ n3_; (try clear hb); obtain ⟨_, _, _, _, _, _, _, _, _, _, _, _, _, _, _, _, _, _, _, _, _, _, _, _, _, _⟩ := be_13 BK312.out) | (go_at_call 117; (with_reducible refine (spec_PointOk.calls a0_9 a0_10 true _ A48.out).mono ?_); rintro e w82 ⟨rfl, hb⟩; have n0_ := Aside0.mk (blk_belowB BK312 z9_6 hb); have n1_ := Aside0.mk (blk_belowB BK313 z9_12 hb); have n2_ := Aside0.mk (blk_belowB BK314 z9_13 hb); have n3_ := Aside0.mk (below_step z9_3 hb); clear BK312; clear BK313; clear BK314; clear HB; have BK312 := n0_; have BK313 := n1_; have BK314 := n2_; have HB := n3_; clear n0_ n1_ n2_ n3_; (try clear hb); obtain ⟨_, _, _, _, _, _, _, _, _, _, _, _, _, _, _, _, _, _, _, _, _, _, _, _, _, _⟩ := be_13 BK312.out) | (go_at_call 117; (with_reducible refine (spec_PointOk.calls a0_11 a0_12 false _ A50.out).mono ?_); rintro e w84 ⟨rfl, hb⟩; have n0_ := Aside0.mk (blk_belowB BK312 z9_6 hb); have n1_ := Aside0.mk (blk_belowB BK313 z9_12 hb); have n2_ := Aside0.mk (blk_belowB BK314 z9_13 hb); have n3_ := Aside0.mk (below_step z9_3 hb); clear BK312; clear BK313; clear BK314; clear HB; have BK312 := n0_; have BK313 := n1_; have BK314 := n2_; have HB := n3_; clear n0_ n1_ n2_ n3_; (try clear hb)))
       go_ret
       exact ⟨z9_11, z9_3⟩
     ·replace c49 := Bool.eq_false_iff.mpr c49
      subst c49
      have H1 : (some false) = some r := by rw [if_neg (show ¬ (false = true) by decide)] at H; exact H
      clear H; have H := H1; clear H1
      obtain rfl := Option.some.inj H
      simp only [Option.some.injEq, Prod.mk.injEq] at H
      obtain ⟨rfl⟩ := H
      go_enter Try.func69, Try.ntmps69
      go_wp2_with (first | ((with_reducible refine gate_dst (N := 1) rfl ?_); refine boxz (cs := #[.int .i64 a0_0, .int .i64 a0_1, .int .i64 a0_2, .int .i64 a0_3, .int .i64 a0_4, .int .i64 a0_5, .int .i64 a0_6, .int .i64 a0_7, .int .i64 a0_8, .int .i64 a0_9, .int .i64 a0_10, .int .i64 a0_11, .int .i64 a0_12]) (t := 54) rfl ?_; intro gb312 hg w85 hbox hb; have n0_ := Aside0.mk (below_step z9_2 hb); have n1_ := Aside0.mk (hbox); have n2_ := Aside0.mk (ge_go (a := w.heap.size) hg (below_size z9_2)); have n3_ := Aside0.mk (ge_go (a := w.heap.size) hg (below_size z9_2)); clear HB; have HB := n0_; have BK312 := n1_; have GW312 := n2_; have GE312 := n3_; clear n0_ n1_ n2_ n3_; clear hb hbox hg) | ((with_reducible refine gate_dst (N := 3) rfl ?_); refine boxz (cs := #[.int .i64 0, .int .i64 0, .int .i64 0, .int .i64 0]) (t := 51) rfl ?_; intro gb313 hg w86 hbox hb; have n0_ := Aside0.mk (blk_belowB BK312 z9_6 hb); have n1_ := Aside0.mk (below_step z9_5 hb); have n2_ := Aside0.mk (hbox); have n3_ := Aside0.mk (ge_go (a := w.heap.size) hg (below_size z9_5)); have n4_ := Aside0.mk (ge_go (a := w.heap.size) hg (below_size z9_5)); have n5_ := Aside0.mk (nb_lt hg (blk_ltB BK312 z9_6)); have n6_ := Aside0.mk (nb_gt hg (blk_ltB BK312 z9_6)); clear BK312; clear HB; have BK312 := n0_; have HB := n1_; have BK313 := n2_; have GW313 := n3_; have GE313 := n4_; have NB312_313 := n5_; have NB313_312 := n6_; clear n0_ n1_ n2_ n3_ n4_ n5_ n6_; clear hb hbox hg; have hnb87 := NB313_312.out; have hnc87 := NB312_313.out; obtain ⟨_, _, _, _, _, _, _, _⟩ := be_4 BK313.out) | ((with_reducible refine gate_dst (N := 4) rfl ?_); refine boxz (cs := #[.int .i64 0, .int .i64 0]) (t := 52) rfl ?_; intro gb314 hg w89 hbox hb; have n0_ := Aside0.mk (blk_belowB BK312 z9_0 hb); have n1_ := Aside0.mk (blk_below (g := gb313) (o := .cells #[.int .i64 0, .int .i64 0, .int .i64 0, .int .i64 0] 51 (0, 0)) z9_1 hb); have n2_ := Aside0.mk (below_step z9_4 hb); have n3_ := Aside0.mk (hbox); have n4_ := Aside0.mk (ge_go (a := w.heap.size) hg (below_size z9_4)); have n5_ := Aside0.mk (ge_go (a := w.heap.size) hg (below_size z9_4)); have n6_ := Aside0.mk (nb_lt hg (blk_ltB BK312 z9_0)); have n7_ := Aside0.mk (nb_gt hg (blk_ltB BK312 z9_0)); have n8_ := Aside0.mk ((by rw [hg]; exact Nat.ne_of_lt (blk_lt (g := gb313) (o := .cells #[.int .i64 0, .int .i64 0, .int .i64 0, .int .i64 0] 51 (0, 0)) z9_1) : gb313 ≠ gb314)); have n9_ := Aside0.mk ((by rw [hg]; exact Nat.ne_of_gt (blk_lt (g := gb313) (o := .cells #[.int .i64 0, .int .i64 0, .int .i64 0, .int .i64 0] 51 (0, 0)) z9_1) : gb314 ≠ gb313)); clear BK312; clear BK313; clear HB; have BK312 := n0_; have BK313 := n1_; have HB := n2_; have BK314 := n3_; have GW314 := n4_; have GE314 := n5_; have NB312_314 := n6_; have NB314_312 := n7_; have NB313_314 := n8_; have NB314_313 := n9_; clear n0_ n1_ n2_ n3_ n4_ n5_ n6_ n7_ n8_ n9_; clear hb hbox hg; have hnb90 := NB314_312.out; have hnc90 := NB312_314.out; have hnb91 := NB314_313.out; have hnc91 := NB313_314.out; obtain ⟨_, _, _, _⟩ := be_2 BK314.out; obtain ⟨_, _, _, _, _, _, _, _, _, _, _, _, _, _, _, _, _, _, _, _, _, _, _, _, _, _⟩ := be_13 BK312.out) | ((with_reducible refine gate_callee (f := 125) rfl ?_); refine goesL_ (some 9) rfl rfl Try.func125 (by kernel_rfl) rfl #[.agg #[.int .i64 a0_1, .int .i64 a0_2, .int .i64 a0_3, .int .i64 a0_4]] rfl z9_10 ?_; (with_reducible refine (spec_ColorOk.calls a0_1 a0_2 a0_3 a0_4 true _ A2.out).mono ?_); rintro e w94 ⟨rfl, hb⟩; refine ⟨_, rfl, ?_⟩; have n0_ := Aside0.mk (blk_belowB BK312 z9_7 hb); have n1_ := Aside0.mk (blk_belowB BK313 z9_8 hb); have n2_ := Aside0.mk (blk_below (g := gb314) (o := .cells #[.int .i64 0, .int .i64 0] 52 (0, 0)) z9_9 hb); have n3_ := Aside0.mk (below_step z9_3 hb); clear BK312; clear BK313; clear BK314; clear HB; have BK312 := n0_; have BK313 := n1_; have BK314 := n2_; have HB := n3_; clear n0_ n1_ n2_ n3_; (try clear hb); obtain ⟨_, _, _, _, _, _, _, _, _, _, _, _, _, _, _, _, _, _, _, _, _, _, _, _, _, _⟩ := be_13 BK312.out) | (go_at_call 125; (with_reducible refine (spec_ColorOk.calls a0_5 a0_6 a0_7 a0_8 true _ A46.out).mono ?_); rintro e w96 ⟨rfl, hb⟩; have n0_ := Aside0.mk (blk_belowB BK312 z9_6 hb); have n1_ := Aside0.mk (blk_belowB BK313 z9_12 hb); have n2_ := Aside0.mk (blk_belowB BK314 z9_13 hb); have n3_ := Aside0.mk (below_step z9_3 hb); clear BK312; clear BK313; clear BK314; clear HB; have BK312 := n0_; have BK313 := n1_; have BK314 := n2_; have HB := n3_; clear n0_ n1_ n2_ n3_; (try clear hb); obtain ⟨_, _, _, _, _, _, _, _, _, _, _, _, _, _, _, _, _, _, _, _, _, _, _, _, _, _⟩ := be_13 BK312.out) | (go_at_call 117; (with_reducible refine (spec_PointOk.calls a0_9 a0_10 false _ A48.out).mono ?_); rintro e w98 ⟨rfl, hb⟩; have n0_ := Aside0.mk (blk_belowB BK312 z9_6 hb); have n1_ := Aside0.mk (blk_belowB BK313 z9_12 hb); have n2_ := Aside0.mk (blk_belowB BK314 z9_13 hb); have n3_ := Aside0.mk (below_step z9_3 hb); clear BK312; clear BK313; clear BK314; clear HB; have BK312 := n0_; have BK313 := n1_; have BK314 := n2_; have HB := n3_; clear n0_ n1_ n2_ n3_; (try clear hb)))
      go_ret
      exact ⟨z9_11, z9_3⟩
    ·replace c47 := Bool.eq_false_iff.mpr c47
     subst c47
     have H1 : (some false) = some r := by rw [if_neg (show ¬ (false = true) by decide)] at H; exact H
     clear H; have H := H1; clear H1
     obtain rfl := Option.some.inj H
     simp only [Option.some.injEq, Prod.mk.injEq] at H
     obtain ⟨rfl⟩ := H
     go_enter Try.func69, Try.ntmps69
     go_wp2_with (first | ((with_reducible refine gate_dst (N := 1) rfl ?_); refine boxz (cs := #[.int .i64 a0_0, .int .i64 a0_1, .int .i64 a0_2, .int .i64 a0_3, .int .i64 a0_4, .int .i64 a0_5, .int .i64 a0_6, .int .i64 a0_7, .int .i64 a0_8, .int .i64 a0_9, .int .i64 a0_10, .int .i64 a0_11, .int .i64 a0_12]) (t := 54) rfl ?_; intro gb312 hg w99 hbox hb; have n0_ := Aside0.mk (below_step z9_2 hb); have n1_ := Aside0.mk (hbox); have n2_ := Aside0.mk (ge_go (a := w.heap.size) hg (below_size z9_2)); have n3_ := Aside0.mk (ge_go (a := w.heap.size) hg (below_size z9_2)); clear HB; have HB := n0_; have BK312 := n1_; have GW312 := n2_; have GE312 := n3_; clear n0_ n1_ n2_ n3_; clear hb hbox hg) | ((with_reducible refine gate_dst (N := 3) rfl ?_); refine boxz (cs := #[.int .i64 0, .int .i64 0, .int .i64 0, .int .i64 0]) (t := 51) rfl ?_; intro gb313 hg w100 hbox hb; have n0_ := Aside0.mk (blk_belowB BK312 z9_6 hb); have n1_ := Aside0.mk (below_step z9_5 hb); have n2_ := Aside0.mk (hbox); have n3_ := Aside0.mk (ge_go (a := w.heap.size) hg (below_size z9_5)); have n4_ := Aside0.mk (ge_go (a := w.heap.size) hg (below_size z9_5)); have n5_ := Aside0.mk (nb_lt hg (blk_ltB BK312 z9_6)); have n6_ := Aside0.mk (nb_gt hg (blk_ltB BK312 z9_6)); clear BK312; clear HB; have BK312 := n0_; have HB := n1_; have BK313 := n2_; have GW313 := n3_; have GE313 := n4_; have NB312_313 := n5_; have NB313_312 := n6_; clear n0_ n1_ n2_ n3_ n4_ n5_ n6_; clear hb hbox hg; have hnb101 := NB313_312.out; have hnc101 := NB312_313.out; obtain ⟨_, _, _, _, _, _, _, _⟩ := be_4 BK313.out) | ((with_reducible refine gate_dst (N := 4) rfl ?_); refine boxz (cs := #[.int .i64 0, .int .i64 0]) (t := 52) rfl ?_; intro gb314 hg w103 hbox hb; have n0_ := Aside0.mk (blk_belowB BK312 z9_0 hb); have n1_ := Aside0.mk (blk_below (g := gb313) (o := .cells #[.int .i64 0, .int .i64 0, .int .i64 0, .int .i64 0] 51 (0, 0)) z9_1 hb); have n2_ := Aside0.mk (below_step z9_4 hb); have n3_ := Aside0.mk (hbox); have n4_ := Aside0.mk (ge_go (a := w.heap.size) hg (below_size z9_4)); have n5_ := Aside0.mk (ge_go (a := w.heap.size) hg (below_size z9_4)); have n6_ := Aside0.mk (nb_lt hg (blk_ltB BK312 z9_0)); have n7_ := Aside0.mk (nb_gt hg (blk_ltB BK312 z9_0)); have n8_ := Aside0.mk ((by rw [hg]; exact Nat.ne_of_lt (blk_lt (g := gb313) (o := .cells #[.int .i64 0, .int .i64 0, .int .i64 0, .int .i64 0] 51 (0, 0)) z9_1) : gb313 ≠ gb314)); have n9_ := Aside0.mk ((by rw [hg]; exact Nat.ne_of_gt (blk_lt (g := gb313) (o := .cells #[.int .i64 0, .int .i64 0, .int .i64 0, .int .i64 0] 51 (0, 0)) z9_1) : gb314 ≠ gb313)); clear BK312; clear BK313; clear HB; have BK312 := n0_; have BK313 := n1_; have HB := n2_; have BK314 := n3_; have GW314 := n4_; have GE314 := n5_; have NB312_314 := n6_; have NB314_312 := n7_; have NB313_314 := n8_; have NB314_313 := n9_; clear n0_ n1_ n2_ n3_ n4_ n5_ n6_ n7_ n8_ n9_; clear hb hbox hg; have hnb104 := NB314_312.out; have hnc104 := NB312_314.out; have hnb105 := NB314_313.out; have hnc105 := NB313_314.out; obtain ⟨_, _, _, _⟩ := be_2 BK314.out; obtain ⟨_, _, _, _, _, _, _, _, _, _, _, _, _, _, _, _, _, _, _, _, _, _, _, _, _, _⟩ := be_13 BK312.out) | ((with_reducible refine gate_callee (f := 125) rfl ?_); refine goesL_ (some 9) rfl rfl Try.func125 (by kernel_rfl) rfl #[.agg #[.int .i64 a0_1, .int .i64 a0_2, .int .i64 a0_3, .int .i64 a0_4]] rfl z9_10 ?_; (with_reducible refine (spec_ColorOk.calls a0_1 a0_2 a0_3 a0_4 true _ A2.out).mono ?_); rintro e w108 ⟨rfl, hb⟩; refine ⟨_, rfl, ?_⟩; have n0_ := Aside0.mk (blk_belowB BK312 z9_7 hb); have n1_ := Aside0.mk (blk_belowB BK313 z9_8 hb); have n2_ := Aside0.mk (blk_below (g := gb314) (o := .cells #[.int .i64 0, .int .i64 0] 52 (0, 0)) z9_9 hb); have n3_ := Aside0.mk (below_step z9_3 hb); clear BK312; clear BK313; clear BK314; clear HB; have BK312 := n0_; have BK313 := n1_; have BK314 := n2_; have HB := n3_; clear n0_ n1_ n2_ n3_; (try clear hb); obtain ⟨_, _, _, _, _, _, _, _, _, _, _, _, _, _, _, _, _, _, _, _, _, _, _, _, _, _⟩ := be_13 BK312.out) | (go_at_call 125; (with_reducible refine (spec_ColorOk.calls a0_5 a0_6 a0_7 a0_8 false _ A46.out).mono ?_); rintro e w110 ⟨rfl, hb⟩; have n0_ := Aside0.mk (blk_belowB BK312 z9_6 hb); have n1_ := Aside0.mk (blk_belowB BK313 z9_12 hb); have n2_ := Aside0.mk (blk_belowB BK314 z9_13 hb); have n3_ := Aside0.mk (below_step z9_3 hb); clear BK312; clear BK313; clear BK314; clear HB; have BK312 := n0_; have BK313 := n1_; have BK314 := n2_; have HB := n3_; clear n0_ n1_ n2_ n3_; (try clear hb)))
     go_ret
     exact ⟨z9_11, z9_3⟩
   ·rw [if_neg c45] at H
    have c45b0 : (a0_0 == 2) = false := beq_eq_false_iff_ne.mpr c45
    have c45b1 : (a0_0 != 2) = true := bne_iff_ne.mpr c45
    obtain rfl := Option.some.inj H
    simp only [Option.some.injEq, Prod.mk.injEq] at H
    obtain ⟨rfl⟩ := H
    go_enter Try.func69, Try.ntmps69
    go_wp2_with (first | ((with_reducible refine gate_dst (N := 1) rfl ?_); refine boxz (cs := #[.int .i64 a0_0, .int .i64 a0_1, .int .i64 a0_2, .int .i64 a0_3, .int .i64 a0_4, .int .i64 a0_5, .int .i64 a0_6, .int .i64 a0_7, .int .i64 a0_8, .int .i64 a0_9, .int .i64 a0_10, .int .i64 a0_11, .int .i64 a0_12]) (t := 54) rfl ?_; intro gb312 hg w111 hbox hb; have n0_ := Aside0.mk (below_step z9_2 hb); have n1_ := Aside0.mk (hbox); have n2_ := Aside0.mk (ge_go (a := w.heap.size) hg (below_size z9_2)); have n3_ := Aside0.mk (ge_go (a := w.heap.size) hg (below_size z9_2)); clear HB; have HB := n0_; have BK312 := n1_; have GW312 := n2_; have GE312 := n3_; clear n0_ n1_ n2_ n3_; clear hb hbox hg) | ((with_reducible refine gate_dst (N := 3) rfl ?_); refine boxz (cs := #[.int .i64 0, .int .i64 0, .int .i64 0, .int .i64 0]) (t := 51) rfl ?_; intro gb313 hg w112 hbox hb; have n0_ := Aside0.mk (blk_belowB BK312 z9_6 hb); have n1_ := Aside0.mk (below_step z9_5 hb); have n2_ := Aside0.mk (hbox); have n3_ := Aside0.mk (ge_go (a := w.heap.size) hg (below_size z9_5)); have n4_ := Aside0.mk (ge_go (a := w.heap.size) hg (below_size z9_5)); have n5_ := Aside0.mk (nb_lt hg (blk_ltB BK312 z9_6)); have n6_ := Aside0.mk (nb_gt hg (blk_ltB BK312 z9_6)); clear BK312; clear HB; have BK312 := n0_; have HB := n1_; have BK313 := n2_; have GW313 := n3_; have GE313 := n4_; have NB312_313 := n5_; have NB313_312 := n6_; clear n0_ n1_ n2_ n3_ n4_ n5_ n6_; clear hb hbox hg; have hnb113 := NB313_312.out; have hnc113 := NB312_313.out; obtain ⟨_, _, _, _, _, _, _, _⟩ := be_4 BK313.out) | ((with_reducible refine gate_dst (N := 4) rfl ?_); refine boxz (cs := #[.int .i64 0, .int .i64 0]) (t := 52) rfl ?_; intro gb314 hg w115 hbox hb; have n0_ := Aside0.mk (blk_belowB BK312 z9_0 hb); have n1_ := Aside0.mk (blk_below (g := gb313) (o := .cells #[.int .i64 0, .int .i64 0, .int .i64 0, .int .i64 0] 51 (0, 0)) z9_1 hb); have n2_ := Aside0.mk (below_step z9_4 hb); have n3_ := Aside0.mk (hbox); have n4_ := Aside0.mk (ge_go (a := w.heap.size) hg (below_size z9_4)); have n5_ := Aside0.mk (ge_go (a := w.heap.size) hg (below_size z9_4)); have n6_ := Aside0.mk (nb_lt hg (blk_ltB BK312 z9_0)); have n7_ := Aside0.mk (nb_gt hg (blk_ltB BK312 z9_0)); have n8_ := Aside0.mk ((by rw [hg]; exact Nat.ne_of_lt (blk_lt (g := gb313) (o := .cells #[.int .i64 0, .int .i64 0, .int .i64 0, .int .i64 0] 51 (0, 0)) z9_1) : gb313 ≠ gb314)); have n9_ := Aside0.mk ((by rw [hg]; exact Nat.ne_of_gt (blk_lt (g := gb313) (o := .cells #[.int .i64 0, .int .i64 0, .int .i64 0, .int .i64 0] 51 (0, 0)) z9_1) : gb314 ≠ gb313)); clear BK312; clear BK313; clear HB; have BK312 := n0_; have BK313 := n1_; have HB := n2_; have BK314 := n3_; have GW314 := n4_; have GE314 := n5_; have NB312_314 := n6_; have NB314_312 := n7_; have NB313_314 := n8_; have NB314_313 := n9_; clear n0_ n1_ n2_ n3_ n4_ n5_ n6_ n7_ n8_ n9_; clear hb hbox hg; have hnb116 := NB314_312.out; have hnc116 := NB312_314.out; have hnb117 := NB314_313.out; have hnc117 := NB313_314.out; obtain ⟨_, _, _, _⟩ := be_2 BK314.out; obtain ⟨_, _, _, _, _, _, _, _, _, _, _, _, _, _, _, _, _, _, _, _, _, _, _, _, _, _⟩ := be_13 BK312.out) | ((with_reducible refine gate_callee (f := 125) rfl ?_); refine goesL_ (some 9) rfl rfl Try.func125 (by kernel_rfl) rfl #[.agg #[.int .i64 a0_1, .int .i64 a0_2, .int .i64 a0_3, .int .i64 a0_4]] rfl z9_10 ?_; (with_reducible refine (spec_ColorOk.calls a0_1 a0_2 a0_3 a0_4 true _ A2.out).mono ?_); rintro e w120 ⟨rfl, hb⟩; refine ⟨_, rfl, ?_⟩; have n0_ := Aside0.mk (blk_belowB BK312 z9_7 hb); have n1_ := Aside0.mk (blk_belowB BK313 z9_8 hb); have n2_ := Aside0.mk (blk_below (g := gb314) (o := .cells #[.int .i64 0, .int .i64 0] 52 (0, 0)) z9_9 hb); have n3_ := Aside0.mk (below_step z9_3 hb); clear BK312; clear BK313; clear BK314; clear HB; have BK312 := n0_; have BK313 := n1_; have BK314 := n2_; have HB := n3_; clear n0_ n1_ n2_ n3_; (try clear hb); obtain ⟨_, _, _, _, _, _, _, _, _, _, _, _, _, _, _, _, _, _, _, _, _, _, _, _, _, _⟩ := be_13 BK312.out))
    go_ret
    exact ⟨z9_11, z9_3⟩
 ·replace c3 := Bool.eq_false_iff.mpr c3
  subst c3
  have H1 : (some false) = some r := by rw [if_neg (show ¬ (false = true) by decide)] at H; exact H
  clear H; have H := H1; clear H1
  obtain rfl := Option.some.inj H
  simp only [Option.some.injEq, Prod.mk.injEq] at H
  obtain ⟨rfl⟩ := H
  go_enter Try.func69, Try.ntmps69
  go_wp2_with (first | ((with_reducible refine gate_dst (N := 1) rfl ?_); refine boxz (cs := #[.int .i64 a0_0, .int .i64 a0_1, .int .i64 a0_2, .int .i64 a0_3, .int .i64 a0_4, .int .i64 a0_5, .int .i64 a0_6, .int .i64 a0_7, .int .i64 a0_8, .int .i64 a0_9, .int .i64 a0_10, .int .i64 a0_11, .int .i64 a0_12]) (t := 54) rfl ?_; intro gb312 hg w122 hbox hb; have n0_ := Aside0.mk (below_step z9_2 hb); have n1_ := Aside0.mk (hbox); have n2_ := Aside0.mk (ge_go (a := w.heap.size) hg (below_size z9_2)); have n3_ := Aside0.mk (ge_go (a := w.heap.size) hg (below_size z9_2)); clear HB; have HB := n0_; have BK312 := n1_; have GW312 := n2_; have GE312 := n3_; clear n0_ n1_ n2_ n3_; clear hb hbox hg) | ((with_reducible refine gate_dst (N := 3) rfl ?_); refine boxz (cs := #[.int .i64 0, .int .i64 0, .int .i64 0, .int .i64 0]) (t := 51) rfl ?_; intro gb313 hg w123 hbox hb; have n0_ := Aside0.mk (blk_belowB BK312 z9_6 hb); have n1_ := Aside0.mk (below_step z9_5 hb); have n2_ := Aside0.mk (hbox); have n3_ := Aside0.mk (ge_go (a := w.heap.size) hg (below_size z9_5)); have n4_ := Aside0.mk (ge_go (a := w.heap.size) hg (below_size z9_5)); have n5_ := Aside0.mk (nb_lt hg (blk_ltB BK312 z9_6)); have n6_ := Aside0.mk (nb_gt hg (blk_ltB BK312 z9_6)); clear BK312; clear HB; have BK312 := n0_; have HB := n1_; have BK313 := n2_; have GW313 := n3_; have GE313 := n4_; have NB312_313 := n5_; have NB313_312 := n6_; clear n0_ n1_ n2_ n3_ n4_ n5_ n6_; clear hb hbox hg; have hnb124 := NB313_312.out; have hnc124 := NB312_313.out; obtain ⟨_, _, _, _, _, _, _, _⟩ := be_4 BK313.out) | ((with_reducible refine gate_dst (N := 4) rfl ?_); refine boxz (cs := #[.int .i64 0, .int .i64 0]) (t := 52) rfl ?_; intro gb314 hg w126 hbox hb; have n0_ := Aside0.mk (blk_belowB BK312 z9_0 hb); have n1_ := Aside0.mk (blk_below (g := gb313) (o := .cells #[.int .i64 0, .int .i64 0, .int .i64 0, .int .i64 0] 51 (0, 0)) z9_1 hb); have n2_ := Aside0.mk (below_step z9_4 hb); have n3_ := Aside0.mk (hbox); have n4_ := Aside0.mk (ge_go (a := w.heap.size) hg (below_size z9_4)); have n5_ := Aside0.mk (ge_go (a := w.heap.size) hg (below_size z9_4)); have n6_ := Aside0.mk (nb_lt hg (blk_ltB BK312 z9_0)); have n7_ := Aside0.mk (nb_gt hg (blk_ltB BK312 z9_0)); have n8_ := Aside0.mk ((by rw [hg]; exact Nat.ne_of_lt (blk_lt (g := gb313) (o := .cells #[.int .i64 0, .int .i64 0, .int .i64 0, .int .i64 0] 51 (0, 0)) z9_1) : gb313 ≠ gb314)); have n9_ := Aside0.mk ((by rw [hg]; exact Nat.ne_of_gt (blk_lt (g := gb313) (o := .cells #[.int .i64 0, .int .i64 0, .int .i64 0, .int .i64 0] 51 (0, 0)) z9_1) : gb314 ≠ gb313)); clear BK312; clear BK313; clear HB; have BK312 := n0_; have BK313 := n1_; have HB := n2_; have BK314 := n3_; have GW314 := n4_; have GE314 := n5_; have NB312_314 := n6_; have NB314_312 := n7_; have NB313_314 := n8_; have NB314_313 := n9_; clear n0_ n1_ n2_ n3_ n4_ n5_ n6_ n7_ n8_ n9_; clear hb hbox hg; have hnb127 := NB314_312.out; have hnc127 := NB312_314.out; have hnb128 := NB314_313.out; have hnc128 := NB313_314.out; obtain ⟨_, _, _, _⟩ := be_2 BK314.out; obtain ⟨_, _, _, _, _, _, _, _, _, _, _, _, _, _, _, _, _, _, _, _, _, _, _, _, _, _⟩ := be_13 BK312.out) | ((with_reducible refine gate_callee (f := 125) rfl ?_); refine goesL_ (some 9) rfl rfl Try.func125 (by kernel_rfl) rfl #[.agg #[.int .i64 a0_1, .int .i64 a0_2, .int .i64 a0_3, .int .i64 a0_4]] rfl z9_10 ?_; (with_reducible refine (spec_ColorOk.calls a0_1 a0_2 a0_3 a0_4 false _ A2.out).mono ?_); rintro e w131 ⟨rfl, hb⟩; refine ⟨_, rfl, ?_⟩; have n0_ := Aside0.mk (blk_belowB BK312 z9_7 hb); have n1_ := Aside0.mk (blk_belowB BK313 z9_8 hb); have n2_ := Aside0.mk (blk_below (g := gb314) (o := .cells #[.int .i64 0, .int .i64 0] 52 (0, 0)) z9_9 hb); have n3_ := Aside0.mk (below_step z9_3 hb); clear BK312; clear BK313; clear BK314; clear HB; have BK312 := n0_; have BK313 := n1_; have BK314 := n2_; have HB := n3_; clear n0_ n1_ n2_ n3_; (try clear hb)))
  go_ret
  exact ⟨z9_11, z9_3⟩

end Go.Proofs.Ytghbenapnhcllaa.MFnExactSceneOk
