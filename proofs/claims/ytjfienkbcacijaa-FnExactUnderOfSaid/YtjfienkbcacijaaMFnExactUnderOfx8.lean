/- Functions of the program as Lean functions, and the proof that a call comes to just these: machine text of this session's own program (myprint.py). -/
import Derived.Test.YtjfienkbcacijaaMFnExactUnderOfx0
import Derived.Test.YtjfienkbcacijaaMFnExactUnderOfx7
namespace Go.Proofs.Ytjfienkbcacijaa.MFnExactUnderOf
open Go.RowKit Go.Proofs.YtjfienkbcacijaaW.PrintWords Go.Proofs.YtjfienkbcacijaaW.PrintLast Go.Proofs.YtjfienkbcacijaaW.PrintMore
attribute [local go_sem] max2_int min2_int max_two min_two max_three min_three max_four min_four   -- for this text's walks alone
set_option linter.unusedVariables false
set_option linter.unusedSimpArgs false

theorem z8_0 {P : Prop} (h : P := by (with_reducible repeat (first | refine blk_drewN ?_ _ | refine blk_drew ?_ | refine blk_alloc ?_ _)); refine blk_far ?_ NB308_311.out _; (with_reducible repeat (first | refine blk_drewN ?_ _ | refine blk_drew ?_ | refine blk_alloc ?_ _)); refine blk_far ?_ NB308_311.out _; (with_reducible repeat (first | refine blk_drewN ?_ _ | refine blk_drew ?_ | refine blk_alloc ?_ _)); refine blk_far ?_ NB308_311.out _; (with_reducible repeat (first | refine blk_drewN ?_ _ | refine blk_drew ?_ | refine blk_alloc ?_ _)); refine blk_far ?_ NB308_311.out _; (with_reducible repeat (first | refine blk_drewN ?_ _ | refine blk_drew ?_ | refine blk_alloc ?_ _)); refine blk_far ?_ NB308_311.out _; (with_reducible repeat (first | refine blk_drewN ?_ _ | refine blk_drew ?_ | refine blk_alloc ?_ _)); refine blk_far ?_ NB308_311.out _; (with_reducible repeat (first | refine blk_drewN ?_ _ | refine blk_drew ?_ | refine blk_alloc ?_ _)); refine blk_far ?_ NB308_311.out _; (with_reducible repeat (first | refine blk_drewN ?_ _ | refine blk_drew ?_ | refine blk_alloc ?_ _)); refine blk_far ?_ NB308_311.out _; (with_reducible repeat (first | refine blk_drewN ?_ _ | refine blk_drew ?_ | refine blk_alloc ?_ _)); refine blk_far ?_ NB308_311.out _; (with_reducible repeat (first | refine blk_drewN ?_ _ | refine blk_drew ?_ | refine blk_alloc ?_ _)); refine blk_far ?_ NB308_311.out _; (with_reducible repeat (first | refine blk_drewN ?_ _ | refine blk_drew ?_ | refine blk_alloc ?_ _)); refine blk_far ?_ NB308_311.out _; (with_reducible repeat (first | refine blk_drewN ?_ _ | refine blk_drew ?_ | refine blk_alloc ?_ _)); refine blk_far ?_ NB308_311.out _; (with_reducible repeat (first | refine blk_drewN ?_ _ | refine blk_drew ?_ | refine blk_alloc ?_ _)); refine blk_far ?_ NB308_311.out _; (with_reducible repeat (first | refine blk_drewN ?_ _ | refine blk_drew ?_ | refine blk_alloc ?_ _)); refine blk_far ?_ NB308_311.out _; (with_reducible repeat (first | refine blk_drewN ?_ _ | refine blk_drew ?_ | refine blk_alloc ?_ _)); refine blk_far ?_ NB308_311.out _; (with_reducible repeat (first | refine blk_drewN ?_ _ | refine blk_drew ?_ | refine blk_alloc ?_ _)); refine blk_far ?_ NB308_311.out _; (with_reducible repeat (first | refine blk_drewN ?_ _ | refine blk_drew ?_ | refine blk_alloc ?_ _)); refine blk_far ?_ NB308_311.out _; (with_reducible repeat (first | refine blk_drewN ?_ _ | refine blk_drew ?_ | refine blk_alloc ?_ _)); refine blk_far ?_ NB308_311.out _; (with_reducible repeat (first | refine blk_drewN ?_ _ | refine blk_drew ?_ | refine blk_alloc ?_ _)); refine blk_far ?_ NB308_311.out _; (with_reducible repeat (first | refine blk_drewN ?_ _ | refine blk_drew ?_ | refine blk_alloc ?_ _)); refine blk_far ?_ NB308_311.out _; (with_reducible repeat (first | refine blk_drewN ?_ _ | refine blk_drew ?_ | refine blk_alloc ?_ _)); refine blk_far ?_ NB308_311.out _; (with_reducible repeat (first | refine blk_drewN ?_ _ | refine blk_drew ?_ | refine blk_alloc ?_ _)); refine blk_far ?_ NB308_311.out _; (with_reducible repeat (first | refine blk_drewN ?_ _ | refine blk_drew ?_ | refine blk_alloc ?_ _)); refine blk_far ?_ NB308_311.out _; (with_reducible repeat (first | refine blk_drewN ?_ _ | refine blk_drew ?_ | refine blk_alloc ?_ _)); refine blk_far ?_ NB308_311.out _; (with_reducible repeat (first | refine blk_drewN ?_ _ | refine blk_drew ?_ | refine blk_alloc ?_ _)); refine blk_far ?_ NB308_311.out _; (with_reducible repeat (first | refine blk_drewN ?_ _ | refine blk_drew ?_ | refine blk_alloc ?_ _)); refine blk_far ?_ NB308_311.out _; (with_reducible repeat (first | refine blk_drewN ?_ _ | refine blk_drew ?_ | refine blk_alloc ?_ _)); refine blk_far ?_ NB308_311.out _; (with_reducible repeat (first | refine blk_drewN ?_ _ | refine blk_drew ?_ | refine blk_alloc ?_ _)); refine blk_far ?_ NB308_311.out _; (with_reducible repeat (first | refine blk_drewN ?_ _ | refine blk_drew ?_ | refine blk_alloc ?_ _)); refine blk_far ?_ NB308_311.out _; (with_reducible repeat (first | refine blk_drewN ?_ _ | refine blk_drew ?_ | refine blk_alloc ?_ _)); refine blk_far ?_ NB308_311.out _; (with_reducible repeat (first | refine blk_drewN ?_ _ | refine blk_drew ?_ | refine blk_alloc ?_ _)); refine blk_far ?_ NB308_311.out _; (with_reducible repeat (first | refine blk_drewN ?_ _ | refine blk_drew ?_ | refine blk_alloc ?_ _)); exact BK308.out) : P := h
theorem z8_1 {P : Prop} (h : P := by (with_reducible repeat (first | apply Kd.R_alloc | apply Kd.R_drewN | apply Kd.R_drew)); exact (Kd.R_mono (Kd.R_far (p := ⟨gb311, 30, none⟩) (Kd.R_far (p := ⟨gb311, 29, none⟩) (Kd.R_far (p := ⟨gb311, 28, none⟩) (Kd.R_far (p := ⟨gb311, 27, none⟩) (Kd.R_far (p := ⟨gb311, 26, none⟩) (Kd.R_far (p := ⟨gb311, 25, none⟩) (Kd.R_far (p := ⟨gb311, 24, none⟩) (Kd.R_far (p := ⟨gb311, 23, none⟩) (Kd.R_far (p := ⟨gb311, 22, none⟩) (Kd.R_far (p := ⟨gb311, 21, none⟩) (Kd.R_far (p := ⟨gb311, 20, none⟩) (Kd.R_far (p := ⟨gb311, 19, none⟩) (Kd.R_far (p := ⟨gb311, 18, none⟩) (Kd.R_far (p := ⟨gb311, 17, none⟩) (Kd.R_far (p := ⟨gb311, 16, none⟩) (Kd.R_far (p := ⟨gb311, 15, none⟩) (Kd.R_far (p := ⟨gb311, 14, none⟩) (Kd.R_far (p := ⟨gb311, 13, none⟩) (Kd.R_far (p := ⟨gb311, 12, none⟩) (Kd.R_far (p := ⟨gb311, 11, none⟩) (Kd.R_far (p := ⟨gb311, 10, none⟩) (Kd.R_far (p := ⟨gb311, 9, none⟩) (Kd.R_far (p := ⟨gb311, 8, none⟩) (Kd.R_far (p := ⟨gb311, 7, none⟩) (Kd.R_far (p := ⟨gb311, 6, none⟩) (Kd.R_far (p := ⟨gb311, 5, none⟩) (Kd.R_far (p := ⟨gb311, 4, none⟩) (Kd.R_far (p := ⟨gb311, 3, none⟩) (Kd.R_far (p := ⟨gb311, 2, none⟩) (Kd.R_far (p := ⟨gb311, 1, none⟩) (Kd.R_far (p := ⟨gb311, 0, none⟩) (Kd.R_types HO_5.out BK311.out (by decide)) (fun _ hk => hk.2) (.int .i64 ((rd_T69 l0_0 x15_1).f0))) (fun _ hk => hk.2) (.int .i64 ((rd_T69 l0_0 x15_1).f1))) (fun _ hk => hk.2) (.bool ((rd_T69 l0_0 x15_1).f2))) (fun _ hk => hk.2) (.int .i64 ((rd_T69 l0_0 x15_1).f3.f0))) (fun _ hk => hk.2) (.int .i64 ((rd_T69 l0_0 x15_1).f3.f1))) (fun _ hk => hk.2) (.int .i64 ((rd_T69 l0_0 x15_1).f3.f2))) (fun _ hk => hk.2) (.int .i64 ((rd_T69 l0_0 x15_1).f3.f3))) (fun _ hk => hk.2) (.int .i64 ((rd_T69 l0_0 x15_1).f3.f4))) (fun _ hk => hk.2) (.int .i64 ((rd_T69 l0_0 x15_1).f3.f5))) (fun _ hk => hk.2) (.slice A310_9 ((rd_T69 l0_0 x15_1).f4.f0).length c310_9)) (fun _ hk => hk.2) (.slice A310_10 ((rd_T69 l0_0 x15_1).f4.f1).length c310_10)) (fun _ hk => hk.2) (.bool ((rd_T69 l0_0 x15_1).f5))) (fun _ hk => hk.2) (.int .i64 ((rd_T69 l0_0 x15_1).f6))) (fun _ hk => hk.2) (.slice A310_13 ((rd_T69 l0_0 x15_1).f7).length c310_13)) (fun _ hk => hk.2) (.int .i64 ((rd_T69 l0_0 x15_1).f8.f0))) (fun _ hk => hk.2) (.int .i64 ((rd_T69 l0_0 x15_1).f8.f1.f0))) (fun _ hk => hk.2) (.int .i64 ((rd_T69 l0_0 x15_1).f8.f1.f1))) (fun _ hk => hk.2) (.int .i64 ((rd_T69 l0_0 x15_1).f8.f1.f2))) (fun _ hk => hk.2) (.int .i64 ((rd_T69 l0_0 x15_1).f8.f1.f3))) (fun _ hk => hk.2) (.int .i64 ((rd_T69 l0_0 x15_1).f8.f2.f0))) (fun _ hk => hk.2) (.int .i64 ((rd_T69 l0_0 x15_1).f8.f2.f1))) (fun _ hk => hk.2) (.int .i64 ((rd_T69 l0_0 x15_1).f8.f2.f2))) (fun _ hk => hk.2) (.int .i64 ((rd_T69 l0_0 x15_1).f8.f2.f3))) (fun _ hk => hk.2) (.int .i64 ((rd_T69 l0_0 x15_1).f8.f3.f0))) (fun _ hk => hk.2) (.int .i64 ((rd_T69 l0_0 x15_1).f8.f3.f1))) (fun _ hk => hk.2) (.int .i64 ((rd_T69 l0_0 x15_1).f8.f4.f0))) (fun _ hk => hk.2) (.int .i64 ((rd_T69 l0_0 x15_1).f8.f4.f1))) (fun _ hk => hk.2) (.int .i64 ((rd_T69 l0_0 x15_1).f9))) (fun _ hk => hk.2) (.int .i64 ((rd_T69 l0_0 x15_1).f10))) (fun _ hk => hk.2) (.slice A310_29 ((rd_T69 l0_0 x15_1).f11.f0).length c310_29)) (fun _ hk => hk.2) (.slice A310_30 ((rd_T69 l0_0 x15_1).f11.f1).length c310_30)) (fun _ h_ => h_.1))) : P := h
theorem z8_2 {P : Prop} (h : P := by repeat (first | (with_reducible first | exact HB.out | apply below_alloc | apply pw_below_drewN | apply below_drew1 | refine below_set ?_ GE308.out) | exact HB.out)) : P := h
theorem z8_3 {P : Prop} (h : P := by repeat (first | (with_reducible first | exact HB.out | apply below_alloc | apply pw_below_drewN | apply below_drew1 | refine below_set ?_ GE308.out | refine below_set ?_ GE311.out) | exact HB.out)) : P := h
theorem z8_4 {P : Prop} (h : P := by repeat (first | (with_reducible first | exact HB.out | apply below_alloc | apply pw_below_drewN | apply below_drew1 | refine below_set ?_ GE0.out) | exact HB.out)) : P := h
theorem z8_5 {P : Prop} (h : P := by repeat (first | (with_reducible first | exact HB.out | apply below_alloc | apply pw_below_drewN | apply below_drew1) | exact HB.out)) : P := h
theorem z8_6 {P : Prop} (h : P := by (try simp only [List.map_toArray, List.map_cons, List.map_nil]); first | done | rfl | (simp only [List.length_drop, List.length_take]; rfl)) : P := h
theorem z8_7 {P : Prop} (h : P := by repeat (first | exact (Kd.C_below HR0_0.out HB.out) | (with_reducible refine Kd.C_alloc ?_ _) | (with_reducible refine Kd.C_drewN ?_ _) | (with_reducible refine Kd.C_drew ?_))) : P := h
theorem z8_8 {P : Prop} (h : P := by repeat (first | (with_reducible first | exact HB.out | apply below_alloc | apply pw_below_drewN | apply below_drew1 | refine below_set ?_ GE2.out) | exact HB.out)) : P := h
theorem z8_9 {P : Prop} (h : P := by apply blk_fin; (focus ((with_reducible repeat (first | apply blk_putQ | refine blk_drewN ?_ _ | refine blk_drew ?_ | refine blk_alloc ?_ _)); exact BK311.out)); first | (simp only [List.setIfInBounds_toArray, List.set_cons_zero, List.set_cons_succ]; done) | rfl) : P := h
theorem z8_10 {P : Prop} (h : P := by first | rfl | (simp [errW_none, errW_some] <;> rfl) | (simp [*, errW_none, errW_some] <;> rfl)) : P := h
theorem z8_11 {P : Prop} (h : P := by (with_reducible repeat (first | refine blk_drewN ?_ _ | refine blk_drew ?_ | refine blk_alloc ?_ _)); with_reducible exact BK311.out) : P := h
theorem z8_12 {P : Prop} (h : P := by repeat (first | (with_reducible first | exact HB.out | apply below_alloc | apply pw_below_drewN | apply below_drew1 | refine below_set ?_ GE303.out) | exact HB.out)) : P := h
theorem z8_13 {P : Prop} (h : P := by repeat (first | (with_reducible first | exact HB.out | apply below_alloc | apply pw_below_drewN | apply below_drew1 | refine below_set ?_ GE303.out | refine below_set ?_ GE304.out) | exact HB.out)) : P := h
theorem z8_14 {P : Prop} (h : P := by repeat (first | exact (Kd.C_below HR301_10.out HB.out) | (with_reducible refine Kd.C_alloc ?_ _) | (with_reducible refine Kd.C_drewN ?_ _) | (with_reducible refine Kd.C_drew ?_))) : P := h
theorem z8_15 {P : Prop} (h : P := by repeat (first | exact (Kd.C_below HR301_13.out HB.out) | (with_reducible refine Kd.C_alloc ?_ _) | (with_reducible refine Kd.C_drewN ?_ _) | (with_reducible refine Kd.C_drew ?_))) : P := h
theorem z8_16 {P : Prop} (h : P := by repeat (first | exact (Kd.C_below HR301_29.out HB.out) | (with_reducible refine Kd.C_alloc ?_ _) | (with_reducible refine Kd.C_drewN ?_ _) | (with_reducible refine Kd.C_drew ?_))) : P := h
theorem z8_17 {P : Prop} (h : P := by repeat (first | exact (Kd.C_below HR301_30.out HB.out) | (with_reducible refine Kd.C_alloc ?_ _) | (with_reducible refine Kd.C_drewN ?_ _) | (with_reducible refine Kd.C_drew ?_))) : P := h
theorem z8_18 {P : Prop} (h : P := by repeat (first | exact (Kd.C_below HR301_9.out HB.out) | (with_reducible refine Kd.C_alloc ?_ _) | (with_reducible refine Kd.C_drewN ?_ _) | (with_reducible refine Kd.C_drew ?_))) : P := h
theorem z8_19 {P : Prop} (h : P := by first | exact Kd.R_nil _ _ _ _ _ | exact Kd.N_nil _ _ _ _ _ | exact Kd.V_nil _ _ _ _ _ | exact Kd.Q_nil _ _ _ _ _ | exact Kd.S_nil _ _ _ _ _) : P := h
/-! ### impl_Node_NodeAt_1: function 8300081 -/
def impl_Node_NodeAt_1.l0 : Nat → List (S69) → Int → Int → Int → Option (Int)
 | 0, _, _, _, _ => none
 | k + 1, x0, x7, x8, x3000 => if x8 < x7 then (if 0 ≤ x8 then (if x8 < (x0.length : Int) then ((impl_NodeAt_1.f ((rd_T69 x0 x8).f0) ((rd_T69 x0 x8).f1) ((rd_T69 x0 x8).f2) ((rd_T69 x0 x8).f3.f0) ((rd_T69 x0 x8).f3.f1) ((rd_T69 x0 x8).f3.f2) ((rd_T69 x0 x8).f3.f3) ((rd_T69 x0 x8).f3.f4) ((rd_T69 x0 x8).f3.f5) ((rd_T69 x0 x8).f4.f0) ((rd_T69 x0 x8).f4.f1) ((rd_T69 x0 x8).f5) ((rd_T69 x0 x8).f6) ((rd_T69 x0 x8).f7) ((rd_T69 x0 x8).f8.f0) ((rd_T69 x0 x8).f8.f1.f0) ((rd_T69 x0 x8).f8.f1.f1) ((rd_T69 x0 x8).f8.f1.f2) ((rd_T69 x0 x8).f8.f1.f3) ((rd_T69 x0 x8).f8.f2.f0) ((rd_T69 x0 x8).f8.f2.f1) ((rd_T69 x0 x8).f8.f2.f2) ((rd_T69 x0 x8).f8.f2.f3) ((rd_T69 x0 x8).f8.f3.f0) ((rd_T69 x0 x8).f8.f3.f1) ((rd_T69 x0 x8).f8.f4.f0) ((rd_T69 x0 x8).f8.f4.f1) ((rd_T69 x0 x8).f9) ((rd_T69 x0 x8).f10) ((rd_T69 x0 x8).f11.f0) ((rd_T69 x0 x8).f11.f1) x3000).bind fun t302 => (if t302 = true then (some x8) else (impl_Node_NodeAt_1.l0 k x0 x7 (wrap64 (x8 + 1)) x3000))) else (none)) else (none)) else (some (-1))
def impl_Node_NodeAt_1.f (k : Nat) (l0 : List (S69))  (a2 : Int) : Option (Int) := impl_Node_NodeAt_1.l0 k l0 (l0.length : Int) 0 a2
theorem impl_Node_NodeAt_1.mono_l : ∀ k, (∀ y0 y1 y2 y3, LeO (impl_Node_NodeAt_1.l0 k y0 y1 y2 y3) (impl_Node_NodeAt_1.l0 (k + 1) y0 y1 y2 y3))
 | 0 => fun _ _ _ _ r h => by simp [impl_Node_NodeAt_1.l0] at h
 | k + 1 => by
  have ih0 := impl_Node_NodeAt_1.mono_l k
  ·intro y0 y1 y2 y3
   unfold impl_Node_NodeAt_1.l0
   repeat' first
   | (with_reducible exact ih0 _ _ _ _)
   | (with_reducible exact LeO.refl _)
   | (with_reducible exact LeO.none _)
   | (with_reducible refine LeO.ite ?_ ?_)
   | (with_reducible refine LeO.bind ?_ (fun _ => ?_))
theorem impl_Node_NodeAt_1.mono : ∀ a0 a1 k, LeO (impl_Node_NodeAt_1.f k a0 a1) (impl_Node_NodeAt_1.f (k + 1) a0 a1) := by
 intro a0 a1 k
 have ih0 := impl_Node_NodeAt_1.mono_l k
 unfold impl_Node_NodeAt_1.f
 repeat' first
   | (with_reducible exact ih0 _ _ _ _)
   | (with_reducible exact LeO.refl _)
   | (with_reducible exact LeO.none _)
   | (with_reducible refine LeO.ite ?_ ?_)
   | (with_reducible refine LeO.bind ?_ (fun _ => ?_))
set_option maxHeartbeats 8000000 in
set_option maxRecDepth 100000 in
theorem impl_Node_NodeAt_1.calls (k : Nat) (A0 : Option Addr) (c0 : Nat) (l0 : List (S69))  (g2 : Nat) (a2 : Int) (r : Int) (w : World) (hr0 : Kd.C k69 w A0 l0.length l0) (hc0 : l0.length ≤ c0) (hb2 : w.heap[g2]? = some (.cells #[.int .i64 a2] 3 (0, 0))) (h : impl_Node_NodeAt_1.f k l0 a2 = some r) :
  Calls Try.prog 81 #[.slice A0 l0.length c0, .func (.func 82) #[] #[.pointer (some ⟨g2, 0, none⟩)]] w fun e w' => e = .returned (.int .i64 r) ∧ Below w.heap.size w w' := by
 have hu69 := Try.underlying69
 have HR0 := mk0 hr0
 have HC0 := mk0 hc0
 clear hr0 hc0
 have BK2 := mk0 hb2
 clear hb2
 have HB := mk0 (Below.refl w.heap.size w)
 have H : (impl_Node_NodeAt_1.l0 k l0 (l0.length : Int) 0 a2) = some r := h
 clear h
 have H' := mk0 H
 clear H
 go_enter Try.func81, Try.ntmps81
 go_wp2
 go_loopg [8] k (fun kq v8 w' => ∃ (x8_1 : Int), v8 = .int .i64 x8_1 ∧ Aside0 (impl_Node_NodeAt_1.l0 kq l0 (l0.length : Int) x8_1 a2 = some r) ∧ Aside0 (kq ≤ k) ∧ Aside0 (w'.heap[g2]? = some (.cells #[.int .i64 a2] 3 (0, 0))) ∧ Aside0 (Below w.heap.size w w'))
 case atStart => exact ⟨(0), rs0, H', ⟨Nat.le_refl _⟩, ⟨pkb BK2⟩, ⟨z8_8⟩⟩
 case round =>
  clear H'
  try clear p2
  obtain ⟨x8_1, rfl, HA, HK1, BK2, HB⟩ := hrel
  cases gk with
  | zero => exact absurd HA.out (by simp [impl_Node_NodeAt_1.l0])
  | succ k1 =>
   have H := HA.out; clear HA
   simp only [impl_Node_NodeAt_1.l0] at H
   by_cases c4 : x8_1 < (l0.length : Int)
   rotate_left
   ·rw [if_neg c4] at H
    have c4b0 := decide_eq_false c4
    clear c4
    obtain rfl := Option.some.inj H
    simp only [Option.some.injEq, Prod.mk.injEq] at H
    obtain ⟨rfl⟩ := H
    go_wp2
    go_ret
    exact ⟨z8_10, z8_8⟩
   rw [if_pos c4] at H
   have c4b0 := decide_eq_true c4
   clear c4
   by_cases c5 : 0 ≤ x8_1
   rotate_left
   ·rw [if_neg c5] at H
    exact absurd H (by simp)
   rw [if_pos c5] at H
   have c5b0 := decide_eq_true c5
   clear c5
   by_cases c6 : x8_1 < (l0.length : Int)
   rotate_left
   ·rw [if_neg c6] at H
    exact absurd H (by simp)
   rw [if_pos c6] at H
   have c6b0 := decide_eq_true c6
   clear c6
   replace H := Option.bind_eq_some_iff.mp H
   obtain ⟨t302, A70, H⟩ := H
   try dsimp only at H
   have A7 := mk0 A70
   clear A70
   by_cases c8 : t302 = true
   ·subst c8
    rw [if_pos rfl] at H
    obtain rfl := Option.some.inj H
    simp only [Option.some.injEq, Prod.mk.injEq] at H
    obtain ⟨rfl⟩ := H
    have p301 : 0 ≤ (x8_1 : Int) := of_decide_eq_true (by first | (with_reducible assumption) | assumption)
    have q301 : x8_1 < (l0.length : Int) := of_decide_eq_true (by first | (with_reducible assumption) | assumption)
    obtain ⟨ad301, A301_9, c301_9, A301_10, c301_10, A301_13, c301_13, A301_29, c301_29, A301_30, c301_30, e301, hx301_0, hx301_1, hx301_2, hx301_3, hx301_4, hx301_5, hx301_6, hx301_7, hx301_8, hx301_9, hx301_10, hx301_11, hx301_12, hx301_13, hx301_14, hx301_15, hx301_16, hx301_17, hx301_18, hx301_19, hx301_20, hx301_21, hx301_22, hx301_23, hx301_24, hx301_25, hx301_26, hx301_27, hx301_28, hx301_29, hx301_30, hl301_9, hi301_9, hl301_10, hi301_10, hl301_13, hi301_13, hl301_29, hi301_29, hl301_30, hi301_30⟩ := at_T69 HR0.out x8_1 p301 q301
    have hM301 := lie_zero hx301_0 (lie_n hx301_1 (lie_n hx301_2 (lie_n hx301_3 (lie_n hx301_4 (lie_n hx301_5 (lie_n hx301_6 (lie_n hx301_7 (lie_n hx301_8 (lie_n hx301_9 (lie_n hx301_10 (lie_n hx301_11 (lie_n hx301_12 (lie_n hx301_13 (lie_n hx301_14 (lie_n hx301_15 (lie_n hx301_16 (lie_n hx301_17 (lie_n hx301_18 (lie_n hx301_19 (lie_n hx301_20 (lie_n hx301_21 (lie_n hx301_22 (lie_n hx301_23 (lie_n hx301_24 (lie_n hx301_25 (lie_n hx301_26 (lie_n hx301_27 (lie_n hx301_28 (lie_n hx301_29 (lie_n hx301_30 (lie_nil _ _ _)))))))))))))))))))))))))))))))
    cases e301
    replace hx301_0 := cell_go HB hx301_0
    replace hx301_1 := cell_go HB hx301_1
    replace hx301_2 := cell_go HB hx301_2
    replace hx301_3 := cell_go HB hx301_3
    replace hx301_4 := cell_go HB hx301_4
    replace hx301_5 := cell_go HB hx301_5
    replace hx301_6 := cell_go HB hx301_6
    replace hx301_7 := cell_go HB hx301_7
    replace hx301_8 := cell_go HB hx301_8
    replace hx301_9 := cell_go HB hx301_9
    replace hx301_10 := cell_go HB hx301_10
    replace hx301_11 := cell_go HB hx301_11
    replace hx301_12 := cell_go HB hx301_12
    replace hx301_13 := cell_go HB hx301_13
    replace hx301_14 := cell_go HB hx301_14
    replace hx301_15 := cell_go HB hx301_15
    replace hx301_16 := cell_go HB hx301_16
    replace hx301_17 := cell_go HB hx301_17
    replace hx301_18 := cell_go HB hx301_18
    replace hx301_19 := cell_go HB hx301_19
    replace hx301_20 := cell_go HB hx301_20
    replace hx301_21 := cell_go HB hx301_21
    replace hx301_22 := cell_go HB hx301_22
    replace hx301_23 := cell_go HB hx301_23
    replace hx301_24 := cell_go HB hx301_24
    replace hx301_25 := cell_go HB hx301_25
    replace hx301_26 := cell_go HB hx301_26
    replace hx301_27 := cell_go HB hx301_27
    replace hx301_28 := cell_go HB hx301_28
    replace hx301_29 := cell_go HB hx301_29
    replace hx301_30 := cell_go HB hx301_30
    have HR301_9 := mk0 hi301_9
    have HC301_9 := mk0 hl301_9
    clear hi301_9 hl301_9
    have HR301_10 := mk0 hi301_10
    have HC301_10 := mk0 hl301_10
    clear hi301_10 hl301_10
    have HR301_13 := mk0 hi301_13
    have HC301_13 := mk0 hl301_13
    clear hi301_13 hl301_13
    have HR301_29 := mk0 hi301_29
    have HC301_29 := mk0 hl301_29
    clear hi301_29 hl301_29
    have HR301_30 := mk0 hi301_30
    have HC301_30 := mk0 hl301_30
    clear hi301_30 hl301_30
    replace p301 := eq_true p301
    replace q301 := eq_true q301
    go_wp2_with (first | ((with_reducible refine gate_load (t := 69) rfl ?_); refine load_lie (t := 69) rfl rfl hM301 HB (by with_reducible rfl) rfl Try.underlying69 rfl (show (Try.prog.info? 69).map (·.size) = some 31 by kernel_rfl) rfl ?_) | ((with_reducible refine gate_load (t := 69) rfl ?_); refine load_lie0 (t := 69) rfl rfl hM301 (by with_reducible rfl) rfl Try.underlying69 rfl (show (Try.prog.info? 69).map (·.size) = some 31 by kernel_rfl) rfl ?_) | (go_at_call 82; (with_reducible refine (impl_NodeAt_1.calls ((rd_T69 l0 x8_1).f0) ((rd_T69 l0 x8_1).f1) ((rd_T69 l0 x8_1).f2) ((rd_T69 l0 x8_1).f3.f0) ((rd_T69 l0 x8_1).f3.f1) ((rd_T69 l0 x8_1).f3.f2) ((rd_T69 l0 x8_1).f3.f3) ((rd_T69 l0 x8_1).f3.f4) ((rd_T69 l0 x8_1).f3.f5) _ _ ((rd_T69 l0 x8_1).f4.f0) _ _ ((rd_T69 l0 x8_1).f4.f1) ((rd_T69 l0 x8_1).f5) ((rd_T69 l0 x8_1).f6) _ _ ((rd_T69 l0 x8_1).f7) ((rd_T69 l0 x8_1).f8.f0) ((rd_T69 l0 x8_1).f8.f1.f0) ((rd_T69 l0 x8_1).f8.f1.f1) ((rd_T69 l0 x8_1).f8.f1.f2) ((rd_T69 l0 x8_1).f8.f1.f3) ((rd_T69 l0 x8_1).f8.f2.f0) ((rd_T69 l0 x8_1).f8.f2.f1) ((rd_T69 l0 x8_1).f8.f2.f2) ((rd_T69 l0 x8_1).f8.f2.f3) ((rd_T69 l0 x8_1).f8.f3.f0) ((rd_T69 l0 x8_1).f8.f3.f1) ((rd_T69 l0 x8_1).f8.f4.f0) ((rd_T69 l0 x8_1).f8.f4.f1) ((rd_T69 l0 x8_1).f9) ((rd_T69 l0 x8_1).f10) _ _ ((rd_T69 l0 x8_1).f11.f0) _ _ ((rd_T69 l0 x8_1).f11.f1) g2 a2 true _ ?side1 ?side2 ?side3 ?side4 ?side5 ?side6 ?side7 ?side8 ?side9 ?side10 ?side11 A7.out).mono ?_); (case side1 => exact z8_18); (case side2 => exact HC301_9.out); (case side3 => exact z8_14); (case side4 => exact HC301_10.out); (case side5 => exact z8_15); (case side6 => exact HC301_13.out); (case side7 => exact z8_16); (case side8 => exact HC301_29.out); (case side9 => exact z8_17); (case side10 => exact HC301_30.out); (case side11 => (with_reducible repeat (first | refine blk_drewN ?_ _ | refine blk_drew ?_ | refine blk_alloc ?_ _)); exact BK2.out); rintro e w9 ⟨rfl, hb⟩; have n0_ := mk0 (blk_below (g := g2) (o := .cells #[.int .i64 a2] 3 (0, 0)) (pkb BK2) hb); have n1_ := mk0 (below_step z8_8 hb); clear BK2 HB; have BK2 := n0_; have HB := n1_; clear n0_ n1_; (try clear hb)))
    go_ret
    exact ⟨z8_10, z8_8⟩
   replace c8 := Bool.eq_false_iff.mpr c8
   subst c8
   rw [if_neg (show ¬ (false = true) by decide)] at H
   have H' := mk0 H
   clear H
   have p301 : 0 ≤ (x8_1 : Int) := of_decide_eq_true (by first | (with_reducible assumption) | assumption)
   have q301 : x8_1 < (l0.length : Int) := of_decide_eq_true (by first | (with_reducible assumption) | assumption)
   obtain ⟨ad301, A301_9, c301_9, A301_10, c301_10, A301_13, c301_13, A301_29, c301_29, A301_30, c301_30, e301, hx301_0, hx301_1, hx301_2, hx301_3, hx301_4, hx301_5, hx301_6, hx301_7, hx301_8, hx301_9, hx301_10, hx301_11, hx301_12, hx301_13, hx301_14, hx301_15, hx301_16, hx301_17, hx301_18, hx301_19, hx301_20, hx301_21, hx301_22, hx301_23, hx301_24, hx301_25, hx301_26, hx301_27, hx301_28, hx301_29, hx301_30, hl301_9, hi301_9, hl301_10, hi301_10, hl301_13, hi301_13, hl301_29, hi301_29, hl301_30, hi301_30⟩ := at_T69 HR0.out x8_1 p301 q301
   have hM301 := lie_zero hx301_0 (lie_n hx301_1 (lie_n hx301_2 (lie_n hx301_3 (lie_n hx301_4 (lie_n hx301_5 (lie_n hx301_6 (lie_n hx301_7 (lie_n hx301_8 (lie_n hx301_9 (lie_n hx301_10 (lie_n hx301_11 (lie_n hx301_12 (lie_n hx301_13 (lie_n hx301_14 (lie_n hx301_15 (lie_n hx301_16 (lie_n hx301_17 (lie_n hx301_18 (lie_n hx301_19 (lie_n hx301_20 (lie_n hx301_21 (lie_n hx301_22 (lie_n hx301_23 (lie_n hx301_24 (lie_n hx301_25 (lie_n hx301_26 (lie_n hx301_27 (lie_n hx301_28 (lie_n hx301_29 (lie_n hx301_30 (lie_nil _ _ _)))))))))))))))))))))))))))))))
   cases e301
   replace hx301_0 := cell_go HB hx301_0
   replace hx301_1 := cell_go HB hx301_1
   replace hx301_2 := cell_go HB hx301_2
   replace hx301_3 := cell_go HB hx301_3
   replace hx301_4 := cell_go HB hx301_4
   replace hx301_5 := cell_go HB hx301_5
   replace hx301_6 := cell_go HB hx301_6
   replace hx301_7 := cell_go HB hx301_7
   replace hx301_8 := cell_go HB hx301_8
   replace hx301_9 := cell_go HB hx301_9
   replace hx301_10 := cell_go HB hx301_10
   replace hx301_11 := cell_go HB hx301_11
   replace hx301_12 := cell_go HB hx301_12
   replace hx301_13 := cell_go HB hx301_13
   replace hx301_14 := cell_go HB hx301_14
   replace hx301_15 := cell_go HB hx301_15
   replace hx301_16 := cell_go HB hx301_16
   replace hx301_17 := cell_go HB hx301_17
   replace hx301_18 := cell_go HB hx301_18
   replace hx301_19 := cell_go HB hx301_19
   replace hx301_20 := cell_go HB hx301_20
   replace hx301_21 := cell_go HB hx301_21
   replace hx301_22 := cell_go HB hx301_22
   replace hx301_23 := cell_go HB hx301_23
   replace hx301_24 := cell_go HB hx301_24
   replace hx301_25 := cell_go HB hx301_25
   replace hx301_26 := cell_go HB hx301_26
   replace hx301_27 := cell_go HB hx301_27
   replace hx301_28 := cell_go HB hx301_28
   replace hx301_29 := cell_go HB hx301_29
   replace hx301_30 := cell_go HB hx301_30
   have HR301_9 := mk0 hi301_9
   have HC301_9 := mk0 hl301_9
   clear hi301_9 hl301_9
   have HR301_10 := mk0 hi301_10
   have HC301_10 := mk0 hl301_10
   clear hi301_10 hl301_10
   have HR301_13 := mk0 hi301_13
   have HC301_13 := mk0 hl301_13
   clear hi301_13 hl301_13
   have HR301_29 := mk0 hi301_29
   have HC301_29 := mk0 hl301_29
   clear hi301_29 hl301_29
   have HR301_30 := mk0 hi301_30
   have HC301_30 := mk0 hl301_30
   clear hi301_30 hl301_30
   replace p301 := eq_true p301
   replace q301 := eq_true q301
   go_wp2_with (first | ((with_reducible refine gate_load (t := 69) rfl ?_); refine load_lie (t := 69) rfl rfl hM301 HB (by with_reducible rfl) rfl Try.underlying69 rfl (show (Try.prog.info? 69).map (·.size) = some 31 by kernel_rfl) rfl ?_) | ((with_reducible refine gate_load (t := 69) rfl ?_); refine load_lie0 (t := 69) rfl rfl hM301 (by with_reducible rfl) rfl Try.underlying69 rfl (show (Try.prog.info? 69).map (·.size) = some 31 by kernel_rfl) rfl ?_) | (go_at_call 82; (with_reducible refine (impl_NodeAt_1.calls ((rd_T69 l0 x8_1).f0) ((rd_T69 l0 x8_1).f1) ((rd_T69 l0 x8_1).f2) ((rd_T69 l0 x8_1).f3.f0) ((rd_T69 l0 x8_1).f3.f1) ((rd_T69 l0 x8_1).f3.f2) ((rd_T69 l0 x8_1).f3.f3) ((rd_T69 l0 x8_1).f3.f4) ((rd_T69 l0 x8_1).f3.f5) _ _ ((rd_T69 l0 x8_1).f4.f0) _ _ ((rd_T69 l0 x8_1).f4.f1) ((rd_T69 l0 x8_1).f5) ((rd_T69 l0 x8_1).f6) _ _ ((rd_T69 l0 x8_1).f7) ((rd_T69 l0 x8_1).f8.f0) ((rd_T69 l0 x8_1).f8.f1.f0) ((rd_T69 l0 x8_1).f8.f1.f1) ((rd_T69 l0 x8_1).f8.f1.f2) ((rd_T69 l0 x8_1).f8.f1.f3) ((rd_T69 l0 x8_1).f8.f2.f0) ((rd_T69 l0 x8_1).f8.f2.f1) ((rd_T69 l0 x8_1).f8.f2.f2) ((rd_T69 l0 x8_1).f8.f2.f3) ((rd_T69 l0 x8_1).f8.f3.f0) ((rd_T69 l0 x8_1).f8.f3.f1) ((rd_T69 l0 x8_1).f8.f4.f0) ((rd_T69 l0 x8_1).f8.f4.f1) ((rd_T69 l0 x8_1).f9) ((rd_T69 l0 x8_1).f10) _ _ ((rd_T69 l0 x8_1).f11.f0) _ _ ((rd_T69 l0 x8_1).f11.f1) g2 a2 false _ ?side1 ?side2 ?side3 ?side4 ?side5 ?side6 ?side7 ?side8 ?side9 ?side10 ?side11 A7.out).mono ?_); (case side1 => exact z8_18); (case side2 => exact HC301_9.out); (case side3 => exact z8_14); (case side4 => exact HC301_10.out); (case side5 => exact z8_15); (case side6 => exact HC301_13.out); (case side7 => exact z8_16); (case side8 => exact HC301_29.out); (case side9 => exact z8_17); (case side10 => exact HC301_30.out); (case side11 => (with_reducible repeat (first | refine blk_drewN ?_ _ | refine blk_drew ?_ | refine blk_alloc ?_ _)); exact BK2.out); rintro e w10 ⟨rfl, hb⟩; have n0_ := mk0 (blk_below (g := g2) (o := .cells #[.int .i64 a2] 3 (0, 0)) (pkb BK2) hb); have n1_ := mk0 (below_step z8_8 hb); clear BK2 HB; have BK2 := n0_; have HB := n1_; clear n0_ n1_; (try clear hb)))
   go_roundg k1
   case measure => have := HK1.out; omega
   case rel => exact ⟨(wrap64 (x8_1 + 1)), rs0, H', ⟨(by have := HK1.out; omega)⟩, ⟨pkb BK2⟩, ⟨z8_8⟩⟩

/-! ### impl_NodeAt: function 41 -/
def impl_NodeAt.f (k : Nat) (l0_0 : List (S69)) (a1 : Int) : Option (Int) := (impl_Node_NodeAt_1.f k l0_0 a1).bind fun t305 => (some t305)
theorem impl_NodeAt.mono : ∀ a0 a1 k, LeO (impl_NodeAt.f k a0 a1) (impl_NodeAt.f (k + 1) a0 a1) := by
 intro a0 a1 k
 unfold impl_NodeAt.f
 repeat' first
   | (with_reducible exact impl_Node_NodeAt_1.mono _ _ _)
   | (with_reducible exact LeO.refl _)
   | (with_reducible exact LeO.none _)
   | (with_reducible refine LeO.ite ?_ ?_)
   | (with_reducible refine LeO.bind ?_ (fun _ => ?_))
set_option maxHeartbeats 8000000 in
set_option maxRecDepth 100000 in
theorem impl_NodeAt.calls (k : Nat) (A0_0 : Option Addr) (c0_0 : Nat) (l0_0 : List (S69)) (a1 : Int) (r : Int) (w : World) (hr0_0 : Kd.C k69 w A0_0 l0_0.length l0_0) (hc0_0 : l0_0.length ≤ c0_0) (h : impl_NodeAt.f k l0_0 a1 = some r) :
  Calls Try.prog 41 #[.agg #[.slice A0_0 l0_0.length c0_0], .int .i64 a1] w fun e w' => e = .returned (.int .i64 r) ∧ Below w.heap.size w w' := by
 have hu53 := Try.underlying53
 have hmf : ∀ (fn : Fn) (first cap : Array Value) (w : World), (Instr.makeFunc fn first cap).run Try.prog w = .ok (.func fn first cap) w := fun _ _ _ _ => rfl
 have HR0_0 := mk0 hr0_0
 have HC0_0 := mk0 hc0_0
 clear hr0_0 hc0_0
 have HB := mk0 (Below.refl w.heap.size w)
 have H : ((impl_Node_NodeAt_1.f k l0_0 a1).bind fun t305 => (some t305)) = some r := h
 clear h
 replace H := Option.bind_eq_some_iff.mp H
 obtain ⟨t305, A30, H⟩ := H
 try dsimp only at H
 have A3 := mk0 A30
 clear A30
 obtain rfl := Option.some.inj H
 simp only [Option.some.injEq, Prod.mk.injEq] at H
 obtain ⟨rfl⟩ := H
 go_enter Try.func41, Try.ntmps41
 go_wp2_with (first | ((with_reducible refine gate_dst (N := 2) rfl ?_); refine boxz (cs := #[.slice A0_0 l0_0.length c0_0]) (t := 53) rfl ?_; intro gb303 hg w4 hbox hb; have n0_ := mk0 (below_step z8_5 hb); have n1_ := mk0 (hbox); have GW303 := mk0 (ge_go (a := w.heap.size) hg (below_size z8_5)); have GE303 := GW303; clear HB; have HB := n0_; have BK303 := n1_; clear n0_ n1_ ; clear hb hbox hg) | ((with_reducible refine gate_dst (N := 3) rfl ?_); refine boxz (cs := #[.int .i64 a1]) (t := 3) rfl ?_; intro gb304 hg w5 hbox hb; have n0_ := mk0 (blk_belowB BK303 (pkb BK303) hb); have n1_ := mk0 (below_step z8_12 hb); have n2_ := mk0 (hbox); have GW304 := mk0 (ge_go (a := w.heap.size) hg (below_size z8_12)); have GE304 := GW304; have NB303_304 := mk0 (nb_lt hg (blk_ltB BK303 (pkb BK303))); have NB304_303 := mk0 (nb_gt hg (blk_ltB BK303 (pkb BK303))); clear BK303 HB; have BK303 := n0_; have HB := n1_; have BK304 := n2_; clear n0_ n1_ n2_ ; clear hb hbox hg; have hnb6 := NB303_304.out; have hnc6 := NB304_303.out; obtain ⟨_, _⟩ := be_1 BK303.out) | ((with_reducible refine gate_callee (f := 81) rfl ?_); refine goesL_ (some 8) rfl rfl Try.func81 (by kernel_rfl) rfl #[.slice A0_0 l0_0.length c0_0, .func (.func 82) #[] #[.pointer (some ⟨gb304, 0, none⟩)]] rfl z8_6 ?_; (with_reducible refine (impl_Node_NodeAt_1.calls k _ _ l0_0 gb304 a1 t305 _ ?side1 ?side2 ?side3 A3.out).mono ?_); (case side1 => exact z8_7); (case side2 => exact HC0_0.out); (case side3 => (with_reducible repeat (first | refine blk_drewN ?_ _ | refine blk_drew ?_ | refine blk_alloc ?_ _)); exact BK304.out); rintro e w8 ⟨rfl, hb⟩; refine ⟨_, rfl, ?_⟩; have n0_ := mk0 (blk_belowB BK303 (pkb BK303) hb); have n1_ := mk0 (blk_belowB BK304 (pkb BK304) hb); have n2_ := mk0 (below_step z8_13 hb); clear BK303 BK304 HB; have BK303 := n0_; have BK304 := n1_; have HB := n2_; clear n0_ n1_ n2_; (try clear hb)))
 go_ret
 exact ⟨z8_10, z8_13⟩

/-! ### impl_Scene_comesTo: function 72 -/
def impl_Scene_comesTo.l0 : Nat → Int → Int → Int → List (S69) → Option (Bool)
 | 0, _, _, _, _ => none
 | k + 1, x1, x2, x8, x1000 => if x8 < 8 then ((impl_NodeAt.f k x1000 x1).bind fun t306 => (if x1 = x2 then (some (x1 == x2)) else (if t306 < 0 then (some (x1 == x2)) else (if 0 ≤ t306 then (if t306 < (x1000.length : Int) then (impl_Scene_comesTo.l0 k ((rd_T69 x1000 t306).f1) x2 (wrap64 (x8 + 1)) x1000) else (none)) else (none))))) else (some (x1 == x2))
def impl_Scene_comesTo.f (k : Nat) (l0_0 : List (S69)) (a1 : Int) (a2 : Int) : Option (Bool) := impl_Scene_comesTo.l0 k a1 a2 0 l0_0
theorem impl_Scene_comesTo.mono_l : ∀ k, (∀ y0 y1 y2 y3, LeO (impl_Scene_comesTo.l0 k y0 y1 y2 y3) (impl_Scene_comesTo.l0 (k + 1) y0 y1 y2 y3))
 | 0 => fun _ _ _ _ r h => by simp [impl_Scene_comesTo.l0] at h
 | k + 1 => by
  have ih0 := impl_Scene_comesTo.mono_l k
  ·intro y0 y1 y2 y3
   unfold impl_Scene_comesTo.l0
   repeat' first
   | (with_reducible exact ih0 _ _ _ _)
   | (with_reducible exact impl_NodeAt.mono _ _ _)
   | (with_reducible exact LeO.refl _)
   | (with_reducible exact LeO.none _)
   | (with_reducible refine LeO.ite ?_ ?_)
   | (with_reducible refine LeO.bind ?_ (fun _ => ?_))
theorem impl_Scene_comesTo.mono : ∀ a0 a1 a2 k, LeO (impl_Scene_comesTo.f k a0 a1 a2) (impl_Scene_comesTo.f (k + 1) a0 a1 a2) := by
 intro a0 a1 a2 k
 have ih0 := impl_Scene_comesTo.mono_l k
 unfold impl_Scene_comesTo.f
 repeat' first
   | (with_reducible exact ih0 _ _ _ _)
   | (with_reducible exact impl_NodeAt.mono _ _ _)
   | (with_reducible exact LeO.refl _)
   | (with_reducible exact LeO.none _)
   | (with_reducible refine LeO.ite ?_ ?_)
   | (with_reducible refine LeO.bind ?_ (fun _ => ?_))
set_option maxHeartbeats 8000000 in
set_option maxRecDepth 100000 in
theorem impl_Scene_comesTo.calls (k : Nat) (g0 : Nat) (A0_0 : Option Addr) (c0_0 : Nat) (l0_0 : List (S69)) (a1 : Int) (a2 : Int) (r : Bool) (w : World) (hb0 : w.heap[g0]? = some (.cells #[.slice A0_0 l0_0.length c0_0] 53 (0, 0))) (hr0_0 : Kd.C k69 w A0_0 l0_0.length l0_0) (hc0_0 : l0_0.length ≤ c0_0) (h : impl_Scene_comesTo.f k l0_0 a1 a2 = some r) :
  Calls Try.prog 72 #[.pointer (some ⟨g0, 0, none⟩), .int .i64 a1, .int .i64 a2] w fun e w' => e = .returned (.bool r) ∧ Below w.heap.size w w' := by
 have hu53 := Try.underlying53
 have HR0_0 := mk0 hr0_0
 have HC0_0 := mk0 hc0_0
 clear hr0_0 hc0_0
 have BK0 := mk0 hb0
 clear hb0
 have HB := mk0 (Below.refl w.heap.size w)
 have H : (impl_Scene_comesTo.l0 k a1 a2 0 l0_0) = some r := h
 clear h
 have H' := mk0 H
 clear H
 go_enter Try.func72, Try.ntmps72
 go_wp2
 go_loopg [1, 8] k (fun kq v1 v8 w' => ∃ (x1_1 : Int) (x8_1 : Int), v1 = .int .i64 x1_1 ∧ v8 = .int .i64 x8_1 ∧ Aside0 (impl_Scene_comesTo.l0 kq x1_1 a2 x8_1 l0_0 = some r) ∧ Aside0 (kq ≤ k) ∧ Aside0 (w'.heap[g0]? = some (.cells #[(.slice A0_0 l0_0.length c0_0)] 53 (0, 0))) ∧ Aside0 (Below w.heap.size w w'))
 case atStart => exact ⟨(a1), (0), rs0, rs0, H', ⟨Nat.le_refl _⟩, ⟨pkb BK0⟩, ⟨z8_4⟩⟩
 case round =>
  clear H'
  try clear p2
  obtain ⟨x1_1, x8_1, rfl, rfl, HA, HK1, BK0, HB⟩ := hrel
  cases gk with
  | zero => exact absurd HA.out (by simp [impl_Scene_comesTo.l0])
  | succ k1 =>
   have H := HA.out; clear HA
   simp only [impl_Scene_comesTo.l0] at H
   by_cases c4 : x8_1 < 8
   rotate_left
   ·rw [if_neg c4] at H
    have c4b0 := decide_eq_false c4
    clear c4
    obtain rfl := Option.some.inj H
    simp only [Option.some.injEq, Prod.mk.injEq] at H
    obtain ⟨rfl⟩ := H
    go_wp2
    go_ret
    exact ⟨z8_10, z8_4⟩
   rw [if_pos c4] at H
   have c4b0 := decide_eq_true c4
   clear c4
   replace H := Option.bind_eq_some_iff.mp H
   obtain ⟨t306, A50, H⟩ := H
   try dsimp only at H
   have A5 := mk0 A50
   clear A50
   by_cases c6 : x1_1 = a2
   ·rw [if_pos c6] at H
    have c6b0 : (x1_1 == a2) = true := beq_iff_eq.mpr c6
    have c6b1 : (x1_1 != a2) = false := bne_eq_false_iff_eq.mpr c6
    clear c6
    obtain rfl := Option.some.inj H
    simp only [Option.some.injEq, Prod.mk.injEq] at H
    obtain ⟨rfl⟩ := H
    have hcz7_0 : wr.cell? ⟨g0, 0, none⟩ = some (.slice A0_0 l0_0.length c0_0) := (blk_cell BK0.out 0).trans rfl
    have hfz7_0 := blk_frozen BK0.out 0
    go_wp2_with (first | ((with_reducible refine gate_callee (f := 41) rfl ?_); refine goesL_ (some 14) rfl rfl Try.func41 (by kernel_rfl) rfl #[.agg #[.slice A0_0 l0_0.length c0_0], .int .i64 x1_1] rfl z8_6 ?_; (with_reducible refine (impl_NodeAt.calls k1 _ _ l0_0 x1_1 t306 _ ?side1 ?side2 A5.out).mono ?_); (case side1 => exact z8_7); (case side2 => exact HC0_0.out); rintro e w8 ⟨rfl, hb⟩; refine ⟨_, rfl, ?_⟩; have n0_ := mk0 (blk_below (g := g0) (o := .cells #[.slice A0_0 l0_0.length c0_0] 53 (0, 0)) (pkb BK0) hb); have n1_ := mk0 (below_step z8_4 hb); clear BK0 HB; have BK0 := n0_; have HB := n1_; clear n0_ n1_; (try clear hb)))
    go_ret
    exact ⟨z8_10, z8_4⟩
   rw [if_neg c6] at H
   have c6b0 : (x1_1 == a2) = false := beq_eq_false_iff_ne.mpr c6
   have c6b1 : (x1_1 != a2) = true := bne_iff_ne.mpr c6
   by_cases c9 : t306 < 0
   ·rw [if_pos c9] at H
    have c9b0 := decide_eq_true c9
    clear c9
    obtain rfl := Option.some.inj H
    simp only [Option.some.injEq, Prod.mk.injEq] at H
    obtain ⟨rfl⟩ := H
    have hcz10_0 : wr.cell? ⟨g0, 0, none⟩ = some (.slice A0_0 l0_0.length c0_0) := (blk_cell BK0.out 0).trans rfl
    have hfz10_0 := blk_frozen BK0.out 0
    go_wp2_with (first | ((with_reducible refine gate_callee (f := 41) rfl ?_); refine goesL_ (some 14) rfl rfl Try.func41 (by kernel_rfl) rfl #[.agg #[.slice A0_0 l0_0.length c0_0], .int .i64 x1_1] rfl z8_6 ?_; (with_reducible refine (impl_NodeAt.calls k1 _ _ l0_0 x1_1 t306 _ ?side1 ?side2 A5.out).mono ?_); (case side1 => exact z8_7); (case side2 => exact HC0_0.out); rintro e w11 ⟨rfl, hb⟩; refine ⟨_, rfl, ?_⟩; have n0_ := mk0 (blk_below (g := g0) (o := .cells #[.slice A0_0 l0_0.length c0_0] 53 (0, 0)) (pkb BK0) hb); have n1_ := mk0 (below_step z8_4 hb); clear BK0 HB; have BK0 := n0_; have HB := n1_; clear n0_ n1_; (try clear hb)))
    go_ret
    exact ⟨z8_10, z8_4⟩
   rw [if_neg c9] at H
   have c9b0 := decide_eq_false c9
   clear c9
   by_cases c12 : 0 ≤ t306
   rotate_left
   ·rw [if_neg c12] at H
    exact absurd H (by simp)
   rw [if_pos c12] at H
   have c12b0 := decide_eq_true c12
   clear c12
   by_cases c13 : t306 < (l0_0.length : Int)
   rotate_left
   ·rw [if_neg c13] at H
    exact absurd H (by simp)
   rw [if_pos c13] at H
   have c13b0 := decide_eq_true c13
   clear c13
   have H' := mk0 H
   clear H
   have hcz14_0 : wr.cell? ⟨g0, 0, none⟩ = some (.slice A0_0 l0_0.length c0_0) := (blk_cell BK0.out 0).trans rfl
   have hfz14_0 := blk_frozen BK0.out 0
   go_wp2_with (first | ((with_reducible refine gate_callee (f := 41) rfl ?_); refine goesL_ (some 14) rfl rfl Try.func41 (by kernel_rfl) rfl #[.agg #[.slice A0_0 l0_0.length c0_0], .int .i64 x1_1] rfl z8_6 ?_; (with_reducible refine (impl_NodeAt.calls k1 _ _ l0_0 x1_1 t306 _ ?side1 ?side2 A5.out).mono ?_); (case side1 => exact z8_7); (case side2 => exact HC0_0.out); rintro e w15 ⟨rfl, hb⟩; refine ⟨_, rfl, ?_⟩; have n0_ := mk0 (blk_below (g := g0) (o := .cells #[.slice A0_0 l0_0.length c0_0] 53 (0, 0)) (pkb BK0) hb); have n1_ := mk0 (below_step z8_4 hb); clear BK0 HB; have BK0 := n0_; have HB := n1_; clear n0_ n1_; (try clear hb); have hcz16_0 : w15.cell? ⟨g0, 0, none⟩ = some (.slice A0_0 l0_0.length c0_0) := (blk_cell BK0.out 0).trans rfl; have hfz16_0 := blk_frozen BK0.out 0; have p307 : 0 ≤ (t306 : Int) := of_decide_eq_true (by first | (with_reducible assumption) | assumption); have q307 : t306 < (l0_0.length : Int) := of_decide_eq_true (by first | (with_reducible assumption) | assumption); obtain ⟨ad307, A307_9, c307_9, A307_10, c307_10, A307_13, c307_13, A307_29, c307_29, A307_30, c307_30, e307, hx307_0, hx307_1, hx307_2, hx307_3, hx307_4, hx307_5, hx307_6, hx307_7, hx307_8, hx307_9, hx307_10, hx307_11, hx307_12, hx307_13, hx307_14, hx307_15, hx307_16, hx307_17, hx307_18, hx307_19, hx307_20, hx307_21, hx307_22, hx307_23, hx307_24, hx307_25, hx307_26, hx307_27, hx307_28, hx307_29, hx307_30, hl307_9, hi307_9, hl307_10, hi307_10, hl307_13, hi307_13, hl307_29, hi307_29, hl307_30, hi307_30⟩ := at_T69 HR0_0.out t306 p307 q307; cases e307; replace hx307_0 := cell_go HB hx307_0; replace hx307_1 := cell_go HB hx307_1; replace hx307_2 := cell_go HB hx307_2; replace hx307_3 := cell_go HB hx307_3; replace hx307_4 := cell_go HB hx307_4; replace hx307_5 := cell_go HB hx307_5; replace hx307_6 := cell_go HB hx307_6; replace hx307_7 := cell_go HB hx307_7; replace hx307_8 := cell_go HB hx307_8; replace hx307_9 := cell_go HB hx307_9; replace hx307_10 := cell_go HB hx307_10; replace hx307_11 := cell_go HB hx307_11; replace hx307_12 := cell_go HB hx307_12; replace hx307_13 := cell_go HB hx307_13; replace hx307_14 := cell_go HB hx307_14; replace hx307_15 := cell_go HB hx307_15; replace hx307_16 := cell_go HB hx307_16; replace hx307_17 := cell_go HB hx307_17; replace hx307_18 := cell_go HB hx307_18; replace hx307_19 := cell_go HB hx307_19; replace hx307_20 := cell_go HB hx307_20; replace hx307_21 := cell_go HB hx307_21; replace hx307_22 := cell_go HB hx307_22; replace hx307_23 := cell_go HB hx307_23; replace hx307_24 := cell_go HB hx307_24; replace hx307_25 := cell_go HB hx307_25; replace hx307_26 := cell_go HB hx307_26; replace hx307_27 := cell_go HB hx307_27; replace hx307_28 := cell_go HB hx307_28; replace hx307_29 := cell_go HB hx307_29; replace hx307_30 := cell_go HB hx307_30; have HR307_9 := mk0 hi307_9; have HC307_9 := mk0 hl307_9; clear hi307_9 hl307_9; have HR307_10 := mk0 hi307_10; have HC307_10 := mk0 hl307_10; clear hi307_10 hl307_10; have HR307_13 := mk0 hi307_13; have HC307_13 := mk0 hl307_13; clear hi307_13 hl307_13; have HR307_29 := mk0 hi307_29; have HC307_29 := mk0 hl307_29; clear hi307_29 hl307_29; have HR307_30 := mk0 hi307_30; have HC307_30 := mk0 hl307_30; clear hi307_30 hl307_30; replace p307 := eq_true p307; replace q307 := eq_true q307))
   go_roundg k1
   case measure => have := HK1.out; omega
   case rel => exact ⟨((rd_T69 l0_0 t306).f1), (wrap64 (x8_1 + 1)), rs0, rs0, H', ⟨(by have := HK1.out; omega)⟩, ⟨pkb BK0⟩, ⟨z8_4⟩⟩

/-! ### impl_UnderOf: function 37 -/
def impl_UnderOf.l0 : Nat → Int → List Int → List (S69) → Int → Int → List (S69) → Option (List Int)
 | 0, _, _, _, _, _, _ => none
 | k + 1, x1, x5, x13, x14, x15, x309000 => if x15 < x14 then (if 0 ≤ x15 then (if x15 < (x13.length : Int) then ((impl_Scene_comesTo.f k x309000 ((rd_T69 x13 x15).f0) x1).bind fun t312 => (if t312 = true then (if x5.length < 17592186044416 then (impl_UnderOf.l0 k x1 (x5 ++ [(rd_T69 x13 x15).f0]) x13 x14 (wrap64 (x15 + 1)) x309000) else (none)) else (impl_UnderOf.l0 k x1 x5 x13 x14 (wrap64 (x15 + 1)) x309000))) else (none)) else (none)) else (some x5)
def impl_UnderOf.f (k : Nat) (l0_0 : List (S69)) (a1 : Int) : Option (List Int) := (impl_NodeAt.f k l0_0 a1).bind fun t309 => (if t309 < 0 then (some ([] : List Int)) else (impl_UnderOf.l0 k a1 ([] : List Int) l0_0 (l0_0.length : Int) 0 l0_0))
theorem impl_UnderOf.mono_l : ∀ k, (∀ y0 y1 y2 y3 y4 y5, LeO (impl_UnderOf.l0 k y0 y1 y2 y3 y4 y5) (impl_UnderOf.l0 (k + 1) y0 y1 y2 y3 y4 y5))
 | 0 => fun _ _ _ _ _ _ r h => by simp [impl_UnderOf.l0] at h
 | k + 1 => by
  have ih0 := impl_UnderOf.mono_l k
  ·intro y0 y1 y2 y3 y4 y5
   unfold impl_UnderOf.l0
   repeat' first
   | (with_reducible exact ih0 _ _ _ _ _ _)
   | (with_reducible exact impl_NodeAt.mono _ _ _)
   | (with_reducible exact impl_Scene_comesTo.mono _ _ _ _)
   | (with_reducible exact LeO.refl _)
   | (with_reducible exact LeO.none _)
   | (with_reducible refine LeO.ite ?_ ?_)
   | (with_reducible refine LeO.bind ?_ (fun _ => ?_))
theorem impl_UnderOf.mono : ∀ a0 a1 k, LeO (impl_UnderOf.f k a0 a1) (impl_UnderOf.f (k + 1) a0 a1) := by
 intro a0 a1 k
 have ih0 := impl_UnderOf.mono_l k
 unfold impl_UnderOf.f
 repeat' first
   | (with_reducible exact ih0 _ _ _ _ _ _)
   | (with_reducible exact impl_NodeAt.mono _ _ _)
   | (with_reducible exact impl_Scene_comesTo.mono _ _ _ _)
   | (with_reducible exact LeO.refl _)
   | (with_reducible exact LeO.none _)
   | (with_reducible refine LeO.ite ?_ ?_)
   | (with_reducible refine LeO.bind ?_ (fun _ => ?_))
set_option maxHeartbeats 8000000 in
set_option maxRecDepth 100000 in
theorem impl_UnderOf.calls (k : Nat) (A0_0 : Option Addr) (c0_0 : Nat) (l0_0 : List (S69)) (a1 : Int) (r : List Int) (w : World) (hr0_0 : Kd.C k69 w A0_0 l0_0.length l0_0) (hc0_0 : l0_0.length ≤ c0_0) (h : impl_UnderOf.f k l0_0 a1 = some r) :
  Calls Try.prog 37 #[.agg #[.slice A0_0 l0_0.length c0_0], .int .i64 a1] w fun e w' => ∃ v0_ : Value, e = .returned (v0_) ∧ Kd.R (Kd.int .i64) 3 w' w.heap.size (fun _ => True) v0_ r ∧ Below w.heap.size w w' := by
 have hu53 := Try.underlying53
 have hu69 := Try.underlying69
 have HR0_0 := mk0 hr0_0
 have HC0_0 := mk0 hc0_0
 clear hr0_0 hc0_0
 have HB := mk0 (Below.refl w.heap.size w)
 have H : ((impl_NodeAt.f k l0_0 a1).bind fun t309 => (if t309 < 0 then (some ([] : List Int)) else (impl_UnderOf.l0 k a1 ([] : List Int) l0_0 (l0_0.length : Int) 0 l0_0))) = some r := h
 clear h
 replace H := Option.bind_eq_some_iff.mp H
 obtain ⟨t309, A30, H⟩ := H
 try dsimp only at H
 have A3 := mk0 A30
 clear A30
 by_cases c4 : t309 < 0
 ·rw [if_pos c4] at H
  have c4b0 := decide_eq_true c4
  clear c4
  obtain rfl := Option.some.inj H
  simp only [Option.some.injEq, Prod.mk.injEq] at H
  obtain ⟨rfl⟩ := H
  go_enter Try.func37, Try.ntmps37
  go_wp2_with (first | ((with_reducible refine gate_dst (N := 2) rfl ?_); refine boxz (cs := #[.slice A0_0 l0_0.length c0_0]) (t := 53) rfl ?_; intro gb308 hg w5 hbox hb; have n0_ := mk0 (below_step z8_5 hb); have n1_ := mk0 (hbox); have GW308 := mk0 (ge_go (a := w.heap.size) hg (below_size z8_5)); have GE308 := GW308; clear HB; have HB := n0_; have BK308 := n1_; clear n0_ n1_ ; clear hb hbox hg; obtain ⟨_, _⟩ := be_1 BK308.out) | ((with_reducible refine gate_callee (f := 41) rfl ?_); refine goesL_ (some 10) rfl rfl Try.func41 (by kernel_rfl) rfl #[.agg #[.slice A0_0 l0_0.length c0_0], .int .i64 a1] rfl z8_6 ?_; (with_reducible refine (impl_NodeAt.calls k _ _ l0_0 a1 t309 _ ?side1 ?side2 A3.out).mono ?_); (case side1 => exact z8_7); (case side2 => exact HC0_0.out); rintro e w7 ⟨rfl, hb⟩; refine ⟨_, rfl, ?_⟩; have n0_ := mk0 (blk_belowB BK308 (pkb BK308) hb); have n1_ := mk0 (below_step z8_2 hb); clear BK308 HB; have BK308 := n0_; have HB := n1_; clear n0_ n1_; (try clear hb)))
  go_ret
  exact ⟨_, z8_10, z8_19, z8_2⟩
 rw [if_neg c4] at H
 have c4b0 := decide_eq_false c4
 clear c4
 have H' := mk0 H
 clear H
 go_enter Try.func37, Try.ntmps37
 go_wp2_with (first | ((with_reducible refine gate_dst (N := 2) rfl ?_); refine boxz (cs := #[.slice A0_0 l0_0.length c0_0]) (t := 53) rfl ?_; intro gb308 hg w8 hbox hb; have n0_ := mk0 (below_step z8_5 hb); have n1_ := mk0 (hbox); have GW308 := mk0 (ge_go (a := w.heap.size) hg (below_size z8_5)); have GE308 := GW308; clear HB; have HB := n0_; have BK308 := n1_; clear n0_ n1_ ; clear hb hbox hg; obtain ⟨_, _⟩ := be_1 BK308.out) | ((with_reducible refine gate_callee (f := 41) rfl ?_); refine goesL_ (some 10) rfl rfl Try.func41 (by kernel_rfl) rfl #[.agg #[.slice A0_0 l0_0.length c0_0], .int .i64 a1] rfl z8_6 ?_; (with_reducible refine (impl_NodeAt.calls k _ _ l0_0 a1 t309 _ ?side1 ?side2 A3.out).mono ?_); (case side1 => exact z8_7); (case side2 => exact HC0_0.out); rintro e w10 ⟨rfl, hb⟩; refine ⟨_, rfl, ?_⟩; have n0_ := mk0 (blk_belowB BK308 (pkb BK308) hb); have n1_ := mk0 (below_step z8_2 hb); clear BK308 HB; have BK308 := n0_; have HB := n1_; clear n0_ n1_; (try clear hb); obtain ⟨_, _⟩ := be_1 BK308.out))
 go_loopg [5, 15] k (fun kq v5 v15 w' => ∃ (x5_1 : List Int) (x15_1 : Int), v15 = .int .i64 x15_1 ∧ Aside0 (impl_UnderOf.l0 kq a1 x5_1 l0_0 (l0_0.length : Int) x15_1 l0_0 = some r) ∧ Aside0 (kq ≤ k) ∧ Aside0 (Kd.R (Kd.int .i64) 3 w' w.heap.size (fun _ => True) v5 x5_1) ∧ Aside0 (w'.heap[gb308]? = some (.cells #[(.slice A0_0 l0_0.length c0_0)] 53 (0, 0))) ∧ Aside0 (Below w.heap.size w w'))
 case atStart => exact ⟨(([] : List Int)), (0), rs0, H', ⟨Nat.le_refl _⟩, ⟨z8_19⟩, ⟨pkb BK308⟩, ⟨z8_2⟩⟩
 case round =>
  clear H'
  try clear p2
  try clear c3
  try clear c4
  try clear c4b0
  try clear hcz11_0
  try clear hcz6_0
  try clear hcz9_0
  try clear hfz11_0
  try clear hfz6_0
  try clear hfz9_0
  obtain ⟨x5_1, x15_1, rfl, HA, HK1, HO_5, BK308, HB⟩ := hrel
  cases gk with
  | zero => exact absurd HA.out (by simp [impl_UnderOf.l0])
  | succ k1 =>
   have H := HA.out; clear HA
   simp only [impl_UnderOf.l0] at H
   by_cases c12 : x15_1 < (l0_0.length : Int)
   rotate_left
   ·rw [if_neg c12] at H
    have c12b0 := decide_eq_false c12
    clear c12
    obtain rfl := Option.some.inj H
    simp only [Option.some.injEq, Prod.mk.injEq] at H
    obtain ⟨rfl⟩ := H
    go_wp2_with (first | ((with_reducible refine gate_load (t := 69) rfl ?_); refine load_blk (t := 69) rfl rfl BK311 rfl z8_11 Try.underlying69 rfl (show (Try.prog.info? 69).map (·.size) = some 31 by kernel_rfl) rfl ?_) | ((with_reducible refine gate_store (t := 69) rfl ?_); refine wstore_blk (t := 69) rfl rfl BK311 rfl rfl z8_11 rfl (show (Try.prog.info? 69).map (·.size) = some 31 by kernel_rfl) rfl ?_; simp only [World.setCells, Nat.reduceAdd]))
    go_ret
    exact ⟨_, z8_10, (pkR HO_5), z8_2⟩
   rw [if_pos c12] at H
   have c12b0 := decide_eq_true c12
   clear c12
   by_cases c13 : 0 ≤ x15_1
   rotate_left
   ·rw [if_neg c13] at H
    exact absurd H (by simp)
   rw [if_pos c13] at H
   have c13b0 := decide_eq_true c13
   clear c13
   by_cases c14 : x15_1 < (l0_0.length : Int)
   rotate_left
   ·rw [if_neg c14] at H
    exact absurd H (by simp)
   rw [if_pos c14] at H
   have c14b0 := decide_eq_true c14
   clear c14
   replace H := Option.bind_eq_some_iff.mp H
   obtain ⟨t312, A150, H⟩ := H
   try dsimp only at H
   have A15 := mk0 A150
   clear A150
   by_cases c16 : t312 = true
   rotate_left
   ·replace c16 := Bool.eq_false_iff.mpr c16
    subst c16
    rw [if_neg (show ¬ (false = true) by decide)] at H
    have H' := mk0 H
    clear H
    have p310 : 0 ≤ (x15_1 : Int) := of_decide_eq_true (by first | (with_reducible assumption) | assumption)
    have q310 : x15_1 < (l0_0.length : Int) := of_decide_eq_true (by first | (with_reducible assumption) | assumption)
    obtain ⟨ad310, A310_9, c310_9, A310_10, c310_10, A310_13, c310_13, A310_29, c310_29, A310_30, c310_30, e310, hx310_0, hx310_1, hx310_2, hx310_3, hx310_4, hx310_5, hx310_6, hx310_7, hx310_8, hx310_9, hx310_10, hx310_11, hx310_12, hx310_13, hx310_14, hx310_15, hx310_16, hx310_17, hx310_18, hx310_19, hx310_20, hx310_21, hx310_22, hx310_23, hx310_24, hx310_25, hx310_26, hx310_27, hx310_28, hx310_29, hx310_30, hl310_9, hi310_9, hl310_10, hi310_10, hl310_13, hi310_13, hl310_29, hi310_29, hl310_30, hi310_30⟩ := at_T69 HR0_0.out x15_1 p310 q310
    have hM310 := lie_zero hx310_0 (lie_n hx310_1 (lie_n hx310_2 (lie_n hx310_3 (lie_n hx310_4 (lie_n hx310_5 (lie_n hx310_6 (lie_n hx310_7 (lie_n hx310_8 (lie_n hx310_9 (lie_n hx310_10 (lie_n hx310_11 (lie_n hx310_12 (lie_n hx310_13 (lie_n hx310_14 (lie_n hx310_15 (lie_n hx310_16 (lie_n hx310_17 (lie_n hx310_18 (lie_n hx310_19 (lie_n hx310_20 (lie_n hx310_21 (lie_n hx310_22 (lie_n hx310_23 (lie_n hx310_24 (lie_n hx310_25 (lie_n hx310_26 (lie_n hx310_27 (lie_n hx310_28 (lie_n hx310_29 (lie_n hx310_30 (lie_nil _ _ _)))))))))))))))))))))))))))))))
    cases e310
    replace hx310_0 := cell_go HB hx310_0
    replace hx310_1 := cell_go HB hx310_1
    replace hx310_2 := cell_go HB hx310_2
    replace hx310_3 := cell_go HB hx310_3
    replace hx310_4 := cell_go HB hx310_4
    replace hx310_5 := cell_go HB hx310_5
    replace hx310_6 := cell_go HB hx310_6
    replace hx310_7 := cell_go HB hx310_7
    replace hx310_8 := cell_go HB hx310_8
    replace hx310_9 := cell_go HB hx310_9
    replace hx310_10 := cell_go HB hx310_10
    replace hx310_11 := cell_go HB hx310_11
    replace hx310_12 := cell_go HB hx310_12
    replace hx310_13 := cell_go HB hx310_13
    replace hx310_14 := cell_go HB hx310_14
    replace hx310_15 := cell_go HB hx310_15
    replace hx310_16 := cell_go HB hx310_16
    replace hx310_17 := cell_go HB hx310_17
    replace hx310_18 := cell_go HB hx310_18
    replace hx310_19 := cell_go HB hx310_19
    replace hx310_20 := cell_go HB hx310_20
    replace hx310_21 := cell_go HB hx310_21
    replace hx310_22 := cell_go HB hx310_22
    replace hx310_23 := cell_go HB hx310_23
    replace hx310_24 := cell_go HB hx310_24
    replace hx310_25 := cell_go HB hx310_25
    replace hx310_26 := cell_go HB hx310_26
    replace hx310_27 := cell_go HB hx310_27
    replace hx310_28 := cell_go HB hx310_28
    replace hx310_29 := cell_go HB hx310_29
    replace hx310_30 := cell_go HB hx310_30
    have HR310_9 := mk0 hi310_9
    have HC310_9 := mk0 hl310_9
    clear hi310_9 hl310_9
    have HR310_10 := mk0 hi310_10
    have HC310_10 := mk0 hl310_10
    clear hi310_10 hl310_10
    have HR310_13 := mk0 hi310_13
    have HC310_13 := mk0 hl310_13
    clear hi310_13 hl310_13
    have HR310_29 := mk0 hi310_29
    have HC310_29 := mk0 hl310_29
    clear hi310_29 hl310_29
    have HR310_30 := mk0 hi310_30
    have HC310_30 := mk0 hl310_30
    clear hi310_30 hl310_30
    replace p310 := eq_true p310
    replace q310 := eq_true q310
    go_wp2_with (first | ((with_reducible refine gate_load (t := 69) rfl ?_); refine load_lie (t := 69) rfl rfl hM310 HB (by with_reducible rfl) rfl Try.underlying69 rfl (show (Try.prog.info? 69).map (·.size) = some 31 by kernel_rfl) rfl ?_) | ((with_reducible refine gate_load (t := 69) rfl ?_); refine load_lie0 (t := 69) rfl rfl hM310 (by with_reducible rfl) rfl Try.underlying69 rfl (show (Try.prog.info? 69).map (·.size) = some 31 by kernel_rfl) rfl ?_) | ((with_reducible refine gate_dst (N := 7) rfl ?_); refine boxz (cs := #[.int .i64 0, .int .i64 0, .bool false, .int .i64 0, .int .i64 0, .int .i64 0, .int .i64 0, .int .i64 0, .int .i64 0, .slice none 0 0, .slice none 0 0, .bool false, .int .i64 0, .slice none 0 0, .int .i64 0, .int .i64 0, .int .i64 0, .int .i64 0, .int .i64 0, .int .i64 0, .int .i64 0, .int .i64 0, .int .i64 0, .int .i64 0, .int .i64 0, .int .i64 0, .int .i64 0, .int .i64 0, .int .i64 0, .slice none 0 0, .slice none 0 0]) (t := 69) rfl ?_; intro gb311 hg w24 hbox hb; have n0_ := mk0 (Kd.R_below (pkR HO_5) hb); have n1_ := mk0 (blk_belowB BK308 (pkb BK308) hb); have n2_ := mk0 (below_step z8_2 hb); have n3_ := mk0 (hbox); have GW311 := mk0 (ge_go (a := w.heap.size) hg (below_size z8_2)); have GE311 := GW311; have NB308_311 := mk0 (nb_lt hg (blk_ltB BK308 (pkb BK308))); have NB311_308 := mk0 (nb_gt hg (blk_ltB BK308 (pkb BK308))); clear HO_5 BK308 HB; have HO_5 := n0_; have BK308 := n1_; have HB := n2_; have BK311 := n3_; clear n0_ n1_ n2_ n3_ ; clear hb hbox hg; have hnb25 := NB311_308.out; have hnc25 := NB308_311.out; obtain ⟨_, _, _, _, _, _, _, _, _, _, _, _, _, _, _, _, _, _, _, _, _, _, _, _, _, _, _, _, _, _, _, _, _, _, _, _, _, _, _, _, _, _, _, _, _, _, _, _, _, _, _, _, _, _, _, _, _, _, _, _, _, _⟩ := be_31 BK311.out) | ((with_reducible refine gate_callee (f := 72) rfl ?_); refine goesL_ (some 22) rfl rfl Try.func72 (by kernel_rfl) rfl #[.pointer (some ⟨gb308, 0, none⟩), .int .i64 ((rd_T69 l0_0 x15_1).f0), .int .i64 a1] rfl z8_6 ?_; (with_reducible refine (impl_Scene_comesTo.calls k1 gb308 (some ad310) c0_0 l0_0 ((rd_T69 l0_0 x15_1).f0) a1 false _ ?side1 ?side2 ?side3 A15.out).mono ?_); (case side1 => (with_reducible repeat (first | refine blk_drewN ?_ _ | refine blk_drew ?_ | refine blk_alloc ?_ _)); refine blk_far ?_ NB308_311.out _; (with_reducible repeat (first | refine blk_drewN ?_ _ | refine blk_drew ?_ | refine blk_alloc ?_ _)); refine blk_far ?_ NB308_311.out _; (with_reducible repeat (first | refine blk_drewN ?_ _ | refine blk_drew ?_ | refine blk_alloc ?_ _)); refine blk_far ?_ NB308_311.out _; (with_reducible repeat (first | refine blk_drewN ?_ _ | refine blk_drew ?_ | refine blk_alloc ?_ _)); refine blk_far ?_ NB308_311.out _; (with_reducible repeat (first | refine blk_drewN ?_ _ | refine blk_drew ?_ | refine blk_alloc ?_ _)); refine blk_far ?_ NB308_311.out _; (with_reducible repeat (first | refine blk_drewN ?_ _ | refine blk_drew ?_ | refine blk_alloc ?_ _)); refine blk_far ?_ NB308_311.out _; (with_reducible repeat (first | refine blk_drewN ?_ _ | refine blk_drew ?_ | refine blk_alloc ?_ _)); refine blk_far ?_ NB308_311.out _; (with_reducible repeat (first | refine blk_drewN ?_ _ | refine blk_drew ?_ | refine blk_alloc ?_ _)); refine blk_far ?_ NB308_311.out _; (with_reducible repeat (first | refine blk_drewN ?_ _ | refine blk_drew ?_ | refine blk_alloc ?_ _)); refine blk_far ?_ NB308_311.out _; (with_reducible repeat (first | refine blk_drewN ?_ _ | refine blk_drew ?_ | refine blk_alloc ?_ _)); refine blk_far ?_ NB308_311.out _; (with_reducible repeat (first | refine blk_drewN ?_ _ | refine blk_drew ?_ | refine blk_alloc ?_ _)); refine blk_far ?_ NB308_311.out _; (with_reducible repeat (first | refine blk_drewN ?_ _ | refine blk_drew ?_ | refine blk_alloc ?_ _)); refine blk_far ?_ NB308_311.out _; (with_reducible repeat (first | refine blk_drewN ?_ _ | refine blk_drew ?_ | refine blk_alloc ?_ _)); refine blk_far ?_ NB308_311.out _; (with_reducible repeat (first | refine blk_drewN ?_ _ | refine blk_drew ?_ | refine blk_alloc ?_ _)); refine blk_far ?_ NB308_311.out _; (with_reducible repeat (first | refine blk_drewN ?_ _ | refine blk_drew ?_ | refine blk_alloc ?_ _)); refine blk_far ?_ NB308_311.out _; (with_reducible repeat (first | refine blk_drewN ?_ _ | refine blk_drew ?_ | refine blk_alloc ?_ _)); refine blk_far ?_ NB308_311.out _; (with_reducible repeat (first | refine blk_drewN ?_ _ | refine blk_drew ?_ | refine blk_alloc ?_ _)); refine blk_far ?_ NB308_311.out _; (with_reducible repeat (first | refine blk_drewN ?_ _ | refine blk_drew ?_ | refine blk_alloc ?_ _)); refine blk_far ?_ NB308_311.out _; (with_reducible repeat (first | refine blk_drewN ?_ _ | refine blk_drew ?_ | refine blk_alloc ?_ _)); refine blk_far ?_ NB308_311.out _; (with_reducible repeat (first | refine blk_drewN ?_ _ | refine blk_drew ?_ | refine blk_alloc ?_ _)); refine blk_far ?_ NB308_311.out _; (with_reducible repeat (first | refine blk_drewN ?_ _ | refine blk_drew ?_ | refine blk_alloc ?_ _)); refine blk_far ?_ NB308_311.out _; (with_reducible repeat (first | refine blk_drewN ?_ _ | refine blk_drew ?_ | refine blk_alloc ?_ _)); refine blk_far ?_ NB308_311.out _; (with_reducible repeat (first | refine blk_drewN ?_ _ | refine blk_drew ?_ | refine blk_alloc ?_ _)); refine blk_far ?_ NB308_311.out _; (with_reducible repeat (first | refine blk_drewN ?_ _ | refine blk_drew ?_ | refine blk_alloc ?_ _)); refine blk_far ?_ NB308_311.out _; (with_reducible repeat (first | refine blk_drewN ?_ _ | refine blk_drew ?_ | refine blk_alloc ?_ _)); refine blk_far ?_ NB308_311.out _; (with_reducible repeat (first | refine blk_drewN ?_ _ | refine blk_drew ?_ | refine blk_alloc ?_ _)); refine blk_far ?_ NB308_311.out _; (with_reducible repeat (first | refine blk_drewN ?_ _ | refine blk_drew ?_ | refine blk_alloc ?_ _)); refine blk_far ?_ NB308_311.out _; (with_reducible repeat (first | refine blk_drewN ?_ _ | refine blk_drew ?_ | refine blk_alloc ?_ _)); refine blk_far ?_ NB308_311.out _; (with_reducible repeat (first | refine blk_drewN ?_ _ | refine blk_drew ?_ | refine blk_alloc ?_ _)); refine blk_far ?_ NB308_311.out _; (with_reducible repeat (first | refine blk_drewN ?_ _ | refine blk_drew ?_ | refine blk_alloc ?_ _)); refine blk_far ?_ NB308_311.out _; (with_reducible repeat (first | refine blk_drewN ?_ _ | refine blk_drew ?_ | refine blk_alloc ?_ _)); refine blk_far ?_ NB308_311.out _; (with_reducible repeat (first | refine blk_drewN ?_ _ | refine blk_drew ?_ | refine blk_alloc ?_ _)); exact BK308.out); (case side2 => exact Kd.C_below HR0_0.out z8_3); (case side3 => exact HC0_0.out); rintro e w27 ⟨rfl, hb⟩; refine ⟨_, rfl, ?_⟩; have n0_ := mk0 (Kd.R_below z8_1 hb); have n1_ := mk0 (blk_belowB BK308 z8_0 hb); have n2_ := mk0 (blk_below (g := gb311) (o := .cells #[.int .i64 ((rd_T69 l0_0 x15_1).f0), .int .i64 ((rd_T69 l0_0 x15_1).f1), .bool ((rd_T69 l0_0 x15_1).f2), .int .i64 ((rd_T69 l0_0 x15_1).f3.f0), .int .i64 ((rd_T69 l0_0 x15_1).f3.f1), .int .i64 ((rd_T69 l0_0 x15_1).f3.f2), .int .i64 ((rd_T69 l0_0 x15_1).f3.f3), .int .i64 ((rd_T69 l0_0 x15_1).f3.f4), .int .i64 ((rd_T69 l0_0 x15_1).f3.f5), .slice A310_9 ((rd_T69 l0_0 x15_1).f4.f0).length c310_9, .slice A310_10 ((rd_T69 l0_0 x15_1).f4.f1).length c310_10, .bool ((rd_T69 l0_0 x15_1).f5), .int .i64 ((rd_T69 l0_0 x15_1).f6), .slice A310_13 ((rd_T69 l0_0 x15_1).f7).length c310_13, .int .i64 ((rd_T69 l0_0 x15_1).f8.f0), .int .i64 ((rd_T69 l0_0 x15_1).f8.f1.f0), .int .i64 ((rd_T69 l0_0 x15_1).f8.f1.f1), .int .i64 ((rd_T69 l0_0 x15_1).f8.f1.f2), .int .i64 ((rd_T69 l0_0 x15_1).f8.f1.f3), .int .i64 ((rd_T69 l0_0 x15_1).f8.f2.f0), .int .i64 ((rd_T69 l0_0 x15_1).f8.f2.f1), .int .i64 ((rd_T69 l0_0 x15_1).f8.f2.f2), .int .i64 ((rd_T69 l0_0 x15_1).f8.f2.f3), .int .i64 ((rd_T69 l0_0 x15_1).f8.f3.f0), .int .i64 ((rd_T69 l0_0 x15_1).f8.f3.f1), .int .i64 ((rd_T69 l0_0 x15_1).f8.f4.f0), .int .i64 ((rd_T69 l0_0 x15_1).f8.f4.f1), .int .i64 ((rd_T69 l0_0 x15_1).f9), .int .i64 ((rd_T69 l0_0 x15_1).f10), .slice A310_29 ((rd_T69 l0_0 x15_1).f11.f0).length c310_29, .slice A310_30 ((rd_T69 l0_0 x15_1).f11.f1).length c310_30] 69 (0, 0)) z8_9 hb); have n3_ := mk0 (below_step z8_3 hb); clear HO_5 BK308 BK311 HB; have HO_5 := n0_; have BK308 := n1_; have BK311 := n2_; have HB := n3_; clear n0_ n1_ n2_ n3_; (try clear hb); (try clear hk)) | ((with_reducible refine gate_load (t := 69) rfl ?_); refine load_blk (t := 69) rfl rfl BK311 rfl z8_11 Try.underlying69 rfl (show (Try.prog.info? 69).map (·.size) = some 31 by kernel_rfl) rfl ?_) | ((with_reducible refine gate_store (t := 69) rfl ?_); refine wstore_blk (t := 69) rfl rfl BK311 rfl rfl z8_11 rfl (show (Try.prog.info? 69).map (·.size) = some 31 by kernel_rfl) rfl ?_; simp only [World.setCells, Nat.reduceAdd]) | ((with_reducible refine gate_load (t := 69) rfl ?_); refine load_event (t := 69) rfl rfl (p := ⟨gb311, 0, none⟩) rfl [.int .i64 ((rd_T69 l0_0 x15_1).f0), .int .i64 ((rd_T69 l0_0 x15_1).f1), .bool ((rd_T69 l0_0 x15_1).f2), .int .i64 ((rd_T69 l0_0 x15_1).f3.f0), .int .i64 ((rd_T69 l0_0 x15_1).f3.f1), .int .i64 ((rd_T69 l0_0 x15_1).f3.f2), .int .i64 ((rd_T69 l0_0 x15_1).f3.f3), .int .i64 ((rd_T69 l0_0 x15_1).f3.f4), .int .i64 ((rd_T69 l0_0 x15_1).f3.f5), .slice A310_9 ((rd_T69 l0_0 x15_1).f4.f0).length c310_9, .slice A310_10 ((rd_T69 l0_0 x15_1).f4.f1).length c310_10, .bool ((rd_T69 l0_0 x15_1).f5), .int .i64 ((rd_T69 l0_0 x15_1).f6), .slice A310_13 ((rd_T69 l0_0 x15_1).f7).length c310_13, .int .i64 ((rd_T69 l0_0 x15_1).f8.f0), .int .i64 ((rd_T69 l0_0 x15_1).f8.f1.f0), .int .i64 ((rd_T69 l0_0 x15_1).f8.f1.f1), .int .i64 ((rd_T69 l0_0 x15_1).f8.f1.f2), .int .i64 ((rd_T69 l0_0 x15_1).f8.f1.f3), .int .i64 ((rd_T69 l0_0 x15_1).f8.f2.f0), .int .i64 ((rd_T69 l0_0 x15_1).f8.f2.f1), .int .i64 ((rd_T69 l0_0 x15_1).f8.f2.f2), .int .i64 ((rd_T69 l0_0 x15_1).f8.f2.f3), .int .i64 ((rd_T69 l0_0 x15_1).f8.f3.f0), .int .i64 ((rd_T69 l0_0 x15_1).f8.f3.f1), .int .i64 ((rd_T69 l0_0 x15_1).f8.f4.f0), .int .i64 ((rd_T69 l0_0 x15_1).f8.f4.f1), .int .i64 ((rd_T69 l0_0 x15_1).f9), .int .i64 ((rd_T69 l0_0 x15_1).f10), .slice A310_29 ((rd_T69 l0_0 x15_1).f11.f0).length c310_29, .slice A310_30 ((rd_T69 l0_0 x15_1).f11.f1).length c310_30] _ (lie_of_blk (cs := #[.int .i64 ((rd_T69 l0_0 x15_1).f0), .int .i64 ((rd_T69 l0_0 x15_1).f1), .bool ((rd_T69 l0_0 x15_1).f2), .int .i64 ((rd_T69 l0_0 x15_1).f3.f0), .int .i64 ((rd_T69 l0_0 x15_1).f3.f1), .int .i64 ((rd_T69 l0_0 x15_1).f3.f2), .int .i64 ((rd_T69 l0_0 x15_1).f3.f3), .int .i64 ((rd_T69 l0_0 x15_1).f3.f4), .int .i64 ((rd_T69 l0_0 x15_1).f3.f5), .slice A310_9 ((rd_T69 l0_0 x15_1).f4.f0).length c310_9, .slice A310_10 ((rd_T69 l0_0 x15_1).f4.f1).length c310_10, .bool ((rd_T69 l0_0 x15_1).f5), .int .i64 ((rd_T69 l0_0 x15_1).f6), .slice A310_13 ((rd_T69 l0_0 x15_1).f7).length c310_13, .int .i64 ((rd_T69 l0_0 x15_1).f8.f0), .int .i64 ((rd_T69 l0_0 x15_1).f8.f1.f0), .int .i64 ((rd_T69 l0_0 x15_1).f8.f1.f1), .int .i64 ((rd_T69 l0_0 x15_1).f8.f1.f2), .int .i64 ((rd_T69 l0_0 x15_1).f8.f1.f3), .int .i64 ((rd_T69 l0_0 x15_1).f8.f2.f0), .int .i64 ((rd_T69 l0_0 x15_1).f8.f2.f1), .int .i64 ((rd_T69 l0_0 x15_1).f8.f2.f2), .int .i64 ((rd_T69 l0_0 x15_1).f8.f2.f3), .int .i64 ((rd_T69 l0_0 x15_1).f8.f3.f0), .int .i64 ((rd_T69 l0_0 x15_1).f8.f3.f1), .int .i64 ((rd_T69 l0_0 x15_1).f8.f4.f0), .int .i64 ((rd_T69 l0_0 x15_1).f8.f4.f1), .int .i64 ((rd_T69 l0_0 x15_1).f9), .int .i64 ((rd_T69 l0_0 x15_1).f10), .slice A310_29 ((rd_T69 l0_0 x15_1).f11.f0).length c310_29, .slice A310_30 ((rd_T69 l0_0 x15_1).f11.f1).length c310_30]) (t := 69) z8_9) Try.underlying69 rfl (show (Try.prog.info? 69).map (·.size) = some 31 by kernel_rfl) ?_))
    go_roundg k1
    case measure => have := HK1.out; omega
    case rel => exact ⟨(x5_1), (wrap64 (x15_1 + 1)), rs0, H', ⟨(by have := HK1.out; omega)⟩, ⟨pkR HO_5⟩, ⟨pkb BK308⟩, ⟨z8_3⟩⟩
   subst c16
   rw [if_pos rfl] at H
   by_cases c17 : x5_1.length < 17592186044416
   rotate_left
   ·rw [if_neg c17] at H
    exact absurd H (by simp)
   rw [if_pos c17] at H
   have LMc17 := mk0 c17
   clear c17
   obtain ⟨y313, hy_⟩ : ∃ y_ : List Int, y_ = (x5_1 ++ [(rd_T69 l0_0 x15_1).f0]) := ⟨_, rfl⟩
   replace H : (impl_UnderOf.l0 k1 a1 y313 l0_0 (l0_0.length : Int) (wrap64 (x15_1 + 1)) l0_0) = some r := (by first | (rw [hy_]; with_reducible exact H) | (have H2_ := (Option.bind_some _ _).symm.trans H; rw [hy_]; with_reducible exact H2_) | (have H2_ := (Option.bind_some _ _).symm.trans H; with_reducible exact H2_) | with_reducible exact H | (rw [hy_]; exact H) | exact H)
   have Ny313 := mk0 hy_
   clear hy_
   have H' := mk0 H
   clear H
   have p310 : 0 ≤ (x15_1 : Int) := of_decide_eq_true (by first | (with_reducible assumption) | assumption)
   have q310 : x15_1 < (l0_0.length : Int) := of_decide_eq_true (by first | (with_reducible assumption) | assumption)
   obtain ⟨ad310, A310_9, c310_9, A310_10, c310_10, A310_13, c310_13, A310_29, c310_29, A310_30, c310_30, e310, hx310_0, hx310_1, hx310_2, hx310_3, hx310_4, hx310_5, hx310_6, hx310_7, hx310_8, hx310_9, hx310_10, hx310_11, hx310_12, hx310_13, hx310_14, hx310_15, hx310_16, hx310_17, hx310_18, hx310_19, hx310_20, hx310_21, hx310_22, hx310_23, hx310_24, hx310_25, hx310_26, hx310_27, hx310_28, hx310_29, hx310_30, hl310_9, hi310_9, hl310_10, hi310_10, hl310_13, hi310_13, hl310_29, hi310_29, hl310_30, hi310_30⟩ := at_T69 HR0_0.out x15_1 p310 q310
   have hM310 := lie_zero hx310_0 (lie_n hx310_1 (lie_n hx310_2 (lie_n hx310_3 (lie_n hx310_4 (lie_n hx310_5 (lie_n hx310_6 (lie_n hx310_7 (lie_n hx310_8 (lie_n hx310_9 (lie_n hx310_10 (lie_n hx310_11 (lie_n hx310_12 (lie_n hx310_13 (lie_n hx310_14 (lie_n hx310_15 (lie_n hx310_16 (lie_n hx310_17 (lie_n hx310_18 (lie_n hx310_19 (lie_n hx310_20 (lie_n hx310_21 (lie_n hx310_22 (lie_n hx310_23 (lie_n hx310_24 (lie_n hx310_25 (lie_n hx310_26 (lie_n hx310_27 (lie_n hx310_28 (lie_n hx310_29 (lie_n hx310_30 (lie_nil _ _ _)))))))))))))))))))))))))))))))
   cases e310
   replace hx310_0 := cell_go HB hx310_0
   replace hx310_1 := cell_go HB hx310_1
   replace hx310_2 := cell_go HB hx310_2
   replace hx310_3 := cell_go HB hx310_3
   replace hx310_4 := cell_go HB hx310_4
   replace hx310_5 := cell_go HB hx310_5
   replace hx310_6 := cell_go HB hx310_6
   replace hx310_7 := cell_go HB hx310_7
   replace hx310_8 := cell_go HB hx310_8
   replace hx310_9 := cell_go HB hx310_9
   replace hx310_10 := cell_go HB hx310_10
   replace hx310_11 := cell_go HB hx310_11
   replace hx310_12 := cell_go HB hx310_12
   replace hx310_13 := cell_go HB hx310_13
   replace hx310_14 := cell_go HB hx310_14
   replace hx310_15 := cell_go HB hx310_15
   replace hx310_16 := cell_go HB hx310_16
   replace hx310_17 := cell_go HB hx310_17
   replace hx310_18 := cell_go HB hx310_18
   replace hx310_19 := cell_go HB hx310_19
   replace hx310_20 := cell_go HB hx310_20
   replace hx310_21 := cell_go HB hx310_21
   replace hx310_22 := cell_go HB hx310_22
   replace hx310_23 := cell_go HB hx310_23
   replace hx310_24 := cell_go HB hx310_24
   replace hx310_25 := cell_go HB hx310_25
   replace hx310_26 := cell_go HB hx310_26
   replace hx310_27 := cell_go HB hx310_27
   replace hx310_28 := cell_go HB hx310_28
   replace hx310_29 := cell_go HB hx310_29
   replace hx310_30 := cell_go HB hx310_30
   have HR310_9 := mk0 hi310_9
   have HC310_9 := mk0 hl310_9
   clear hi310_9 hl310_9
   have HR310_10 := mk0 hi310_10
   have HC310_10 := mk0 hl310_10
   clear hi310_10 hl310_10
   have HR310_13 := mk0 hi310_13
   have HC310_13 := mk0 hl310_13
   clear hi310_13 hl310_13
   have HR310_29 := mk0 hi310_29
   have HC310_29 := mk0 hl310_29
   clear hi310_29 hl310_29
   have HR310_30 := mk0 hi310_30
   have HC310_30 := mk0 hl310_30
   clear hi310_30 hl310_30
   replace p310 := eq_true p310
   replace q310 := eq_true q310
   go_wp2_with (first | ((with_reducible refine gate_load (t := 69) rfl ?_); refine load_lie (t := 69) rfl rfl hM310 HB (by with_reducible rfl) rfl Try.underlying69 rfl (show (Try.prog.info? 69).map (·.size) = some 31 by kernel_rfl) rfl ?_) | ((with_reducible refine gate_load (t := 69) rfl ?_); refine load_lie0 (t := 69) rfl rfl hM310 (by with_reducible rfl) rfl Try.underlying69 rfl (show (Try.prog.info? 69).map (·.size) = some 31 by kernel_rfl) rfl ?_) | ((with_reducible refine gate_dst (N := 7) rfl ?_); refine boxz (cs := #[.int .i64 0, .int .i64 0, .bool false, .int .i64 0, .int .i64 0, .int .i64 0, .int .i64 0, .int .i64 0, .int .i64 0, .slice none 0 0, .slice none 0 0, .bool false, .int .i64 0, .slice none 0 0, .int .i64 0, .int .i64 0, .int .i64 0, .int .i64 0, .int .i64 0, .int .i64 0, .int .i64 0, .int .i64 0, .int .i64 0, .int .i64 0, .int .i64 0, .int .i64 0, .int .i64 0, .int .i64 0, .int .i64 0, .slice none 0 0, .slice none 0 0]) (t := 69) rfl ?_; intro gb311 hg w18 hbox hb; have n0_ := mk0 (Kd.R_below (pkR HO_5) hb); have n1_ := mk0 (blk_belowB BK308 (pkb BK308) hb); have n2_ := mk0 (below_step z8_2 hb); have n3_ := mk0 (hbox); have GW311 := mk0 (ge_go (a := w.heap.size) hg (below_size z8_2)); have GE311 := GW311; have NB308_311 := mk0 (nb_lt hg (blk_ltB BK308 (pkb BK308))); have NB311_308 := mk0 (nb_gt hg (blk_ltB BK308 (pkb BK308))); clear HO_5 BK308 HB; have HO_5 := n0_; have BK308 := n1_; have HB := n2_; have BK311 := n3_; clear n0_ n1_ n2_ n3_ ; clear hb hbox hg; have hnb19 := NB311_308.out; have hnc19 := NB308_311.out; obtain ⟨_, _, _, _, _, _, _, _, _, _, _, _, _, _, _, _, _, _, _, _, _, _, _, _, _, _, _, _, _, _, _, _, _, _, _, _, _, _, _, _, _, _, _, _, _, _, _, _, _, _, _, _, _, _, _, _, _, _, _, _, _, _⟩ := be_31 BK311.out) | ((with_reducible refine gate_callee (f := 72) rfl ?_); refine goesL_ (some 22) rfl rfl Try.func72 (by kernel_rfl) rfl #[.pointer (some ⟨gb308, 0, none⟩), .int .i64 ((rd_T69 l0_0 x15_1).f0), .int .i64 a1] rfl z8_6 ?_; (with_reducible refine (impl_Scene_comesTo.calls k1 gb308 (some ad310) c0_0 l0_0 ((rd_T69 l0_0 x15_1).f0) a1 true _ ?side1 ?side2 ?side3 A15.out).mono ?_); (case side1 => (with_reducible repeat (first | refine blk_drewN ?_ _ | refine blk_drew ?_ | refine blk_alloc ?_ _)); refine blk_far ?_ NB308_311.out _; (with_reducible repeat (first | refine blk_drewN ?_ _ | refine blk_drew ?_ | refine blk_alloc ?_ _)); refine blk_far ?_ NB308_311.out _; (with_reducible repeat (first | refine blk_drewN ?_ _ | refine blk_drew ?_ | refine blk_alloc ?_ _)); refine blk_far ?_ NB308_311.out _; (with_reducible repeat (first | refine blk_drewN ?_ _ | refine blk_drew ?_ | refine blk_alloc ?_ _)); refine blk_far ?_ NB308_311.out _; (with_reducible repeat (first | refine blk_drewN ?_ _ | refine blk_drew ?_ | refine blk_alloc ?_ _)); refine blk_far ?_ NB308_311.out _; (with_reducible repeat (first | refine blk_drewN ?_ _ | refine blk_drew ?_ | refine blk_alloc ?_ _)); refine blk_far ?_ NB308_311.out _; (with_reducible repeat (first | refine blk_drewN ?_ _ | refine blk_drew ?_ | refine blk_alloc ?_ _)); refine blk_far ?_ NB308_311.out _; (with_reducible repeat (first | refine blk_drewN ?_ _ | refine blk_drew ?_ | refine blk_alloc ?_ _)); refine blk_far ?_ NB308_311.out _; (with_reducible repeat (first | refine blk_drewN ?_ _ | refine blk_drew ?_ | refine blk_alloc ?_ _)); refine blk_far ?_ NB308_311.out _; (with_reducible repeat (first | refine blk_drewN ?_ _ | refine blk_drew ?_ | refine blk_alloc ?_ _)); refine blk_far ?_ NB308_311.out _; (with_reducible repeat (first | refine blk_drewN ?_ _ | refine blk_drew ?_ | refine blk_alloc ?_ _)); refine blk_far ?_ NB308_311.out _; (with_reducible repeat (first | refine blk_drewN ?_ _ | refine blk_drew ?_ | refine blk_alloc ?_ _)); refine blk_far ?_ NB308_311.out _; (with_reducible repeat (first | refine blk_drewN ?_ _ | refine blk_drew ?_ | refine blk_alloc ?_ _)); refine blk_far ?_ NB308_311.out _; (with_reducible repeat (first | refine blk_drewN ?_ _ | refine blk_drew ?_ | refine blk_alloc ?_ _)); refine blk_far ?_ NB308_311.out _; (with_reducible repeat (first | refine blk_drewN ?_ _ | refine blk_drew ?_ | refine blk_alloc ?_ _)); refine blk_far ?_ NB308_311.out _; (with_reducible repeat (first | refine blk_drewN ?_ _ | refine blk_drew ?_ | refine blk_alloc ?_ _)); refine blk_far ?_ NB308_311.out _; (with_reducible repeat (first | refine blk_drewN ?_ _ | refine blk_drew ?_ | refine blk_alloc ?_ _)); refine blk_far ?_ NB308_311.out _; (with_reducible repeat (first | refine blk_drewN ?_ _ | refine blk_drew ?_ | refine blk_alloc ?_ _)); refine blk_far ?_ NB308_311.out _; (with_reducible repeat (first | refine blk_drewN ?_ _ | refine blk_drew ?_ | refine blk_alloc ?_ _)); refine blk_far ?_ NB308_311.out _; (with_reducible repeat (first | refine blk_drewN ?_ _ | refine blk_drew ?_ | refine blk_alloc ?_ _)); refine blk_far ?_ NB308_311.out _; (with_reducible repeat (first | refine blk_drewN ?_ _ | refine blk_drew ?_ | refine blk_alloc ?_ _)); refine blk_far ?_ NB308_311.out _; (with_reducible repeat (first | refine blk_drewN ?_ _ | refine blk_drew ?_ | refine blk_alloc ?_ _)); refine blk_far ?_ NB308_311.out _; (with_reducible repeat (first | refine blk_drewN ?_ _ | refine blk_drew ?_ | refine blk_alloc ?_ _)); refine blk_far ?_ NB308_311.out _; (with_reducible repeat (first | refine blk_drewN ?_ _ | refine blk_drew ?_ | refine blk_alloc ?_ _)); refine blk_far ?_ NB308_311.out _; (with_reducible repeat (first | refine blk_drewN ?_ _ | refine blk_drew ?_ | refine blk_alloc ?_ _)); refine blk_far ?_ NB308_311.out _; (with_reducible repeat (first | refine blk_drewN ?_ _ | refine blk_drew ?_ | refine blk_alloc ?_ _)); refine blk_far ?_ NB308_311.out _; (with_reducible repeat (first | refine blk_drewN ?_ _ | refine blk_drew ?_ | refine blk_alloc ?_ _)); refine blk_far ?_ NB308_311.out _; (with_reducible repeat (first | refine blk_drewN ?_ _ | refine blk_drew ?_ | refine blk_alloc ?_ _)); refine blk_far ?_ NB308_311.out _; (with_reducible repeat (first | refine blk_drewN ?_ _ | refine blk_drew ?_ | refine blk_alloc ?_ _)); refine blk_far ?_ NB308_311.out _; (with_reducible repeat (first | refine blk_drewN ?_ _ | refine blk_drew ?_ | refine blk_alloc ?_ _)); refine blk_far ?_ NB308_311.out _; (with_reducible repeat (first | refine blk_drewN ?_ _ | refine blk_drew ?_ | refine blk_alloc ?_ _)); refine blk_far ?_ NB308_311.out _; (with_reducible repeat (first | refine blk_drewN ?_ _ | refine blk_drew ?_ | refine blk_alloc ?_ _)); exact BK308.out); (case side2 => exact Kd.C_below HR0_0.out z8_3); (case side3 => exact HC0_0.out); rintro e w21 ⟨rfl, hb⟩; refine ⟨_, rfl, ?_⟩; have n0_ := mk0 (Kd.R_below z8_1 hb); have n1_ := mk0 (blk_belowB BK308 z8_0 hb); have n2_ := mk0 (blk_below (g := gb311) (o := .cells #[.int .i64 ((rd_T69 l0_0 x15_1).f0), .int .i64 ((rd_T69 l0_0 x15_1).f1), .bool ((rd_T69 l0_0 x15_1).f2), .int .i64 ((rd_T69 l0_0 x15_1).f3.f0), .int .i64 ((rd_T69 l0_0 x15_1).f3.f1), .int .i64 ((rd_T69 l0_0 x15_1).f3.f2), .int .i64 ((rd_T69 l0_0 x15_1).f3.f3), .int .i64 ((rd_T69 l0_0 x15_1).f3.f4), .int .i64 ((rd_T69 l0_0 x15_1).f3.f5), .slice A310_9 ((rd_T69 l0_0 x15_1).f4.f0).length c310_9, .slice A310_10 ((rd_T69 l0_0 x15_1).f4.f1).length c310_10, .bool ((rd_T69 l0_0 x15_1).f5), .int .i64 ((rd_T69 l0_0 x15_1).f6), .slice A310_13 ((rd_T69 l0_0 x15_1).f7).length c310_13, .int .i64 ((rd_T69 l0_0 x15_1).f8.f0), .int .i64 ((rd_T69 l0_0 x15_1).f8.f1.f0), .int .i64 ((rd_T69 l0_0 x15_1).f8.f1.f1), .int .i64 ((rd_T69 l0_0 x15_1).f8.f1.f2), .int .i64 ((rd_T69 l0_0 x15_1).f8.f1.f3), .int .i64 ((rd_T69 l0_0 x15_1).f8.f2.f0), .int .i64 ((rd_T69 l0_0 x15_1).f8.f2.f1), .int .i64 ((rd_T69 l0_0 x15_1).f8.f2.f2), .int .i64 ((rd_T69 l0_0 x15_1).f8.f2.f3), .int .i64 ((rd_T69 l0_0 x15_1).f8.f3.f0), .int .i64 ((rd_T69 l0_0 x15_1).f8.f3.f1), .int .i64 ((rd_T69 l0_0 x15_1).f8.f4.f0), .int .i64 ((rd_T69 l0_0 x15_1).f8.f4.f1), .int .i64 ((rd_T69 l0_0 x15_1).f9), .int .i64 ((rd_T69 l0_0 x15_1).f10), .slice A310_29 ((rd_T69 l0_0 x15_1).f11.f0).length c310_29, .slice A310_30 ((rd_T69 l0_0 x15_1).f11.f1).length c310_30] 69 (0, 0)) z8_9 hb); have n3_ := mk0 (below_step z8_3 hb); clear HO_5 BK308 BK311 HB; have HO_5 := n0_; have BK308 := n1_; have BK311 := n2_; have HB := n3_; clear n0_ n1_ n2_ n3_; (try clear hb); (try clear hk); obtain ⟨_, _, _, _, _, _, _, _, _, _, _, _, _, _, _, _, _, _, _, _, _, _, _, _, _, _, _, _, _, _, _, _, _, _, _, _, _, _, _, _, _, _, _, _, _, _, _, _, _, _, _, _, _, _, _, _, _, _, _, _, _, _⟩ := be_31 BK311.out) | ((with_reducible refine gate_builtin (b := .append) (xs := #[.tmp 23, .tmp 26]) rfl ?_); at_builtin; refine Kd.R_append (Kd.int .i64) (w0 := w) w.heap.size rfl (.tmp 23) (.tmp 26) 24 3 (.int .i64 0) 8 rfl Try.underlying24 info3 rfl (by decide) (by omega) u5 x5_1 ((rd_T69 l0_0 x15_1).f0) [.int .i64 ((rd_T69 l0_0 x15_1).f0)] (fun _ => True) (fun _ => False) rfl rfl ?aP (fun _ hk => hk.elim) ?aF ?aO ?aB ?aS ?aL ?_; (case aP => exact rfl); (case aB => exact z8_3); (case aF => exact (fun _ _ => trivial)); (case aO => exact (pkR HO_5)); (case aS => exact (below_size z8_3)); (case aL => have := LMc17.out; omega); intro v314 w23 ho hb hg hat; rw [← Ny313.out] at ho; have n0_ := mk0 (blk_grown (g := gb308) (o := .cells #[.slice (some ad310) l0_0.length c0_0] 53 (0, 0)) (pkb BK308) hg (Kd.R_ne HO_5.out BK308.out (by decide))); have n1_ := mk0 (blk_grown (g := gb311) (o := .cells #[.int .i64 ((rd_T69 l0_0 x15_1).f0), .int .i64 ((rd_T69 l0_0 x15_1).f1), .bool ((rd_T69 l0_0 x15_1).f2), .int .i64 ((rd_T69 l0_0 x15_1).f3.f0), .int .i64 ((rd_T69 l0_0 x15_1).f3.f1), .int .i64 ((rd_T69 l0_0 x15_1).f3.f2), .int .i64 ((rd_T69 l0_0 x15_1).f3.f3), .int .i64 ((rd_T69 l0_0 x15_1).f3.f4), .int .i64 ((rd_T69 l0_0 x15_1).f3.f5), .slice A310_9 ((rd_T69 l0_0 x15_1).f4.f0).length c310_9, .slice A310_10 ((rd_T69 l0_0 x15_1).f4.f1).length c310_10, .bool ((rd_T69 l0_0 x15_1).f5), .int .i64 ((rd_T69 l0_0 x15_1).f6), .slice A310_13 ((rd_T69 l0_0 x15_1).f7).length c310_13, .int .i64 ((rd_T69 l0_0 x15_1).f8.f0), .int .i64 ((rd_T69 l0_0 x15_1).f8.f1.f0), .int .i64 ((rd_T69 l0_0 x15_1).f8.f1.f1), .int .i64 ((rd_T69 l0_0 x15_1).f8.f1.f2), .int .i64 ((rd_T69 l0_0 x15_1).f8.f1.f3), .int .i64 ((rd_T69 l0_0 x15_1).f8.f2.f0), .int .i64 ((rd_T69 l0_0 x15_1).f8.f2.f1), .int .i64 ((rd_T69 l0_0 x15_1).f8.f2.f2), .int .i64 ((rd_T69 l0_0 x15_1).f8.f2.f3), .int .i64 ((rd_T69 l0_0 x15_1).f8.f3.f0), .int .i64 ((rd_T69 l0_0 x15_1).f8.f3.f1), .int .i64 ((rd_T69 l0_0 x15_1).f8.f4.f0), .int .i64 ((rd_T69 l0_0 x15_1).f8.f4.f1), .int .i64 ((rd_T69 l0_0 x15_1).f9), .int .i64 ((rd_T69 l0_0 x15_1).f10), .slice A310_29 ((rd_T69 l0_0 x15_1).f11.f0).length c310_29, .slice A310_30 ((rd_T69 l0_0 x15_1).f11.f1).length c310_30] 69 (0, 0)) (pkb BK311) hg (Kd.R_ne HO_5.out BK311.out (by decide))); have n2_ := mk0 (hb); have n3_ := mk0 (ho); clear BK308 BK311 HB HO_5; have BK308 := n0_; have BK311 := n1_; have HB := n2_; have HO315 := n3_; clear n0_ n1_ n2_ n3_ ho hb hg hat) | ((with_reducible refine gate_load (t := 69) rfl ?_); refine load_blk (t := 69) rfl rfl BK311 rfl z8_11 Try.underlying69 rfl (show (Try.prog.info? 69).map (·.size) = some 31 by kernel_rfl) rfl ?_) | ((with_reducible refine gate_store (t := 69) rfl ?_); refine wstore_blk (t := 69) rfl rfl BK311 rfl rfl z8_11 rfl (show (Try.prog.info? 69).map (·.size) = some 31 by kernel_rfl) rfl ?_; simp only [World.setCells, Nat.reduceAdd]) | ((with_reducible refine gate_load (t := 69) rfl ?_); refine load_event (t := 69) rfl rfl (p := ⟨gb311, 0, none⟩) rfl [.int .i64 ((rd_T69 l0_0 x15_1).f0), .int .i64 ((rd_T69 l0_0 x15_1).f1), .bool ((rd_T69 l0_0 x15_1).f2), .int .i64 ((rd_T69 l0_0 x15_1).f3.f0), .int .i64 ((rd_T69 l0_0 x15_1).f3.f1), .int .i64 ((rd_T69 l0_0 x15_1).f3.f2), .int .i64 ((rd_T69 l0_0 x15_1).f3.f3), .int .i64 ((rd_T69 l0_0 x15_1).f3.f4), .int .i64 ((rd_T69 l0_0 x15_1).f3.f5), .slice A310_9 ((rd_T69 l0_0 x15_1).f4.f0).length c310_9, .slice A310_10 ((rd_T69 l0_0 x15_1).f4.f1).length c310_10, .bool ((rd_T69 l0_0 x15_1).f5), .int .i64 ((rd_T69 l0_0 x15_1).f6), .slice A310_13 ((rd_T69 l0_0 x15_1).f7).length c310_13, .int .i64 ((rd_T69 l0_0 x15_1).f8.f0), .int .i64 ((rd_T69 l0_0 x15_1).f8.f1.f0), .int .i64 ((rd_T69 l0_0 x15_1).f8.f1.f1), .int .i64 ((rd_T69 l0_0 x15_1).f8.f1.f2), .int .i64 ((rd_T69 l0_0 x15_1).f8.f1.f3), .int .i64 ((rd_T69 l0_0 x15_1).f8.f2.f0), .int .i64 ((rd_T69 l0_0 x15_1).f8.f2.f1), .int .i64 ((rd_T69 l0_0 x15_1).f8.f2.f2), .int .i64 ((rd_T69 l0_0 x15_1).f8.f2.f3), .int .i64 ((rd_T69 l0_0 x15_1).f8.f3.f0), .int .i64 ((rd_T69 l0_0 x15_1).f8.f3.f1), .int .i64 ((rd_T69 l0_0 x15_1).f8.f4.f0), .int .i64 ((rd_T69 l0_0 x15_1).f8.f4.f1), .int .i64 ((rd_T69 l0_0 x15_1).f9), .int .i64 ((rd_T69 l0_0 x15_1).f10), .slice A310_29 ((rd_T69 l0_0 x15_1).f11.f0).length c310_29, .slice A310_30 ((rd_T69 l0_0 x15_1).f11.f1).length c310_30] _ (lie_of_blk (cs := #[.int .i64 ((rd_T69 l0_0 x15_1).f0), .int .i64 ((rd_T69 l0_0 x15_1).f1), .bool ((rd_T69 l0_0 x15_1).f2), .int .i64 ((rd_T69 l0_0 x15_1).f3.f0), .int .i64 ((rd_T69 l0_0 x15_1).f3.f1), .int .i64 ((rd_T69 l0_0 x15_1).f3.f2), .int .i64 ((rd_T69 l0_0 x15_1).f3.f3), .int .i64 ((rd_T69 l0_0 x15_1).f3.f4), .int .i64 ((rd_T69 l0_0 x15_1).f3.f5), .slice A310_9 ((rd_T69 l0_0 x15_1).f4.f0).length c310_9, .slice A310_10 ((rd_T69 l0_0 x15_1).f4.f1).length c310_10, .bool ((rd_T69 l0_0 x15_1).f5), .int .i64 ((rd_T69 l0_0 x15_1).f6), .slice A310_13 ((rd_T69 l0_0 x15_1).f7).length c310_13, .int .i64 ((rd_T69 l0_0 x15_1).f8.f0), .int .i64 ((rd_T69 l0_0 x15_1).f8.f1.f0), .int .i64 ((rd_T69 l0_0 x15_1).f8.f1.f1), .int .i64 ((rd_T69 l0_0 x15_1).f8.f1.f2), .int .i64 ((rd_T69 l0_0 x15_1).f8.f1.f3), .int .i64 ((rd_T69 l0_0 x15_1).f8.f2.f0), .int .i64 ((rd_T69 l0_0 x15_1).f8.f2.f1), .int .i64 ((rd_T69 l0_0 x15_1).f8.f2.f2), .int .i64 ((rd_T69 l0_0 x15_1).f8.f2.f3), .int .i64 ((rd_T69 l0_0 x15_1).f8.f3.f0), .int .i64 ((rd_T69 l0_0 x15_1).f8.f3.f1), .int .i64 ((rd_T69 l0_0 x15_1).f8.f4.f0), .int .i64 ((rd_T69 l0_0 x15_1).f8.f4.f1), .int .i64 ((rd_T69 l0_0 x15_1).f9), .int .i64 ((rd_T69 l0_0 x15_1).f10), .slice A310_29 ((rd_T69 l0_0 x15_1).f11.f0).length c310_29, .slice A310_30 ((rd_T69 l0_0 x15_1).f11.f1).length c310_30]) (t := 69) z8_9) Try.underlying69 rfl (show (Try.prog.info? 69).map (·.size) = some 31 by kernel_rfl) ?_))
   go_roundg k1
   case measure => have := HK1.out; omega
   case rel => exact ⟨(y313), (wrap64 (x15_1 + 1)), rs0, H', ⟨(by have := HK1.out; omega)⟩, ⟨pkR HO315⟩, ⟨pkb BK308⟩, ⟨z8_3⟩⟩

end Go.Proofs.Ytjfienkbcacijaa.MFnExactUnderOf
