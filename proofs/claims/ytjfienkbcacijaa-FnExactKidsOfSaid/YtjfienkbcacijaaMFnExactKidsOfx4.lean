/- Functions of the program as Lean functions, and the proof that a call comes to just these: machine text of this session's own program (myprint.py). -/
import Derived.Test.YtjfienkbcacijaaMFnExactKidsOfx0
import Derived.Test.YtjfienkbcacijaaMFnExactKidsOfx1
namespace Go.Proofs.Ytjfienkbcacijaa.MFnExactKidsOf
open Go.RowKit Go.Proofs.YtjfienkbcacijaaW.PrintWords Go.Proofs.YtjfienkbcacijaaW.PrintLast Go.Proofs.YtjfienkbcacijaaW.PrintMore
attribute [local go_sem] max2_int min2_int max_two min_two max_three min_three max_four min_four   -- for this text's walks alone
set_option linter.unusedVariables false
set_option linter.unusedSimpArgs false

theorem x4_put {P : Prop} (h : P := by simp only [Act.put, List.setIfInBounds_toArray, List.set_cons_zero, List.set_cons_succ, i64_w, i32_w]; rfl) : P := h
theorem z4_1 {P : Prop} (h : P := by repeat (first | (with_reducible first | exact HB.out | apply below_alloc | apply pw_below_drewN | apply below_drew1) | exact HB.out)) : P := h
theorem z4_2 {P : Prop} (h : P := by (with_reducible repeat (first | refine blk_drewN ?_ _ | refine blk_drew ?_ | refine blk_alloc ?_ _)); refine blk_far ?_ NB258_260.out _; (with_reducible repeat (first | refine blk_drewN ?_ _ | refine blk_drew ?_ | refine blk_alloc ?_ _)); refine blk_far ?_ NB258_260.out _; (with_reducible repeat (first | refine blk_drewN ?_ _ | refine blk_drew ?_ | refine blk_alloc ?_ _)); refine blk_far ?_ NB258_260.out _; (with_reducible repeat (first | refine blk_drewN ?_ _ | refine blk_drew ?_ | refine blk_alloc ?_ _)); refine blk_far ?_ NB258_260.out _; (with_reducible repeat (first | refine blk_drewN ?_ _ | refine blk_drew ?_ | refine blk_alloc ?_ _)); refine blk_far ?_ NB258_260.out _; (with_reducible repeat (first | refine blk_drewN ?_ _ | refine blk_drew ?_ | refine blk_alloc ?_ _)); refine blk_far ?_ NB258_260.out _; (with_reducible repeat (first | refine blk_drewN ?_ _ | refine blk_drew ?_ | refine blk_alloc ?_ _)); refine blk_far ?_ NB258_260.out _; (with_reducible repeat (first | refine blk_drewN ?_ _ | refine blk_drew ?_ | refine blk_alloc ?_ _)); refine blk_far ?_ NB258_260.out _; (with_reducible repeat (first | refine blk_drewN ?_ _ | refine blk_drew ?_ | refine blk_alloc ?_ _)); refine blk_far ?_ NB258_260.out _; (with_reducible repeat (first | refine blk_drewN ?_ _ | refine blk_drew ?_ | refine blk_alloc ?_ _)); refine blk_far ?_ NB258_260.out _; (with_reducible repeat (first | refine blk_drewN ?_ _ | refine blk_drew ?_ | refine blk_alloc ?_ _)); refine blk_far ?_ NB258_260.out _; (with_reducible repeat (first | refine blk_drewN ?_ _ | refine blk_drew ?_ | refine blk_alloc ?_ _)); refine blk_far ?_ NB258_260.out _; (with_reducible repeat (first | refine blk_drewN ?_ _ | refine blk_drew ?_ | refine blk_alloc ?_ _)); refine blk_far ?_ NB258_260.out _; (with_reducible repeat (first | refine blk_drewN ?_ _ | refine blk_drew ?_ | refine blk_alloc ?_ _)); refine blk_far ?_ NB258_260.out _; (with_reducible repeat (first | refine blk_drewN ?_ _ | refine blk_drew ?_ | refine blk_alloc ?_ _)); refine blk_far ?_ NB258_260.out _; (with_reducible repeat (first | refine blk_drewN ?_ _ | refine blk_drew ?_ | refine blk_alloc ?_ _)); refine blk_far ?_ NB258_260.out _; (with_reducible repeat (first | refine blk_drewN ?_ _ | refine blk_drew ?_ | refine blk_alloc ?_ _)); refine blk_far ?_ NB258_260.out _; (with_reducible repeat (first | refine blk_drewN ?_ _ | refine blk_drew ?_ | refine blk_alloc ?_ _)); refine blk_far ?_ NB258_260.out _; (with_reducible repeat (first | refine blk_drewN ?_ _ | refine blk_drew ?_ | refine blk_alloc ?_ _)); refine blk_far ?_ NB258_260.out _; (with_reducible repeat (first | refine blk_drewN ?_ _ | refine blk_drew ?_ | refine blk_alloc ?_ _)); refine blk_far ?_ NB258_260.out _; (with_reducible repeat (first | refine blk_drewN ?_ _ | refine blk_drew ?_ | refine blk_alloc ?_ _)); refine blk_far ?_ NB258_260.out _; (with_reducible repeat (first | refine blk_drewN ?_ _ | refine blk_drew ?_ | refine blk_alloc ?_ _)); refine blk_far ?_ NB258_260.out _; (with_reducible repeat (first | refine blk_drewN ?_ _ | refine blk_drew ?_ | refine blk_alloc ?_ _)); refine blk_far ?_ NB258_260.out _; (with_reducible repeat (first | refine blk_drewN ?_ _ | refine blk_drew ?_ | refine blk_alloc ?_ _)); refine blk_far ?_ NB258_260.out _; (with_reducible repeat (first | refine blk_drewN ?_ _ | refine blk_drew ?_ | refine blk_alloc ?_ _)); refine blk_far ?_ NB258_260.out _; (with_reducible repeat (first | refine blk_drewN ?_ _ | refine blk_drew ?_ | refine blk_alloc ?_ _)); refine blk_far ?_ NB258_260.out _; (with_reducible repeat (first | refine blk_drewN ?_ _ | refine blk_drew ?_ | refine blk_alloc ?_ _)); refine blk_far ?_ NB258_260.out _; (with_reducible repeat (first | refine blk_drewN ?_ _ | refine blk_drew ?_ | refine blk_alloc ?_ _)); refine blk_far ?_ NB258_260.out _; (with_reducible repeat (first | refine blk_drewN ?_ _ | refine blk_drew ?_ | refine blk_alloc ?_ _)); refine blk_far ?_ NB258_260.out _; (with_reducible repeat (first | refine blk_drewN ?_ _ | refine blk_drew ?_ | refine blk_alloc ?_ _)); refine blk_far ?_ NB258_260.out _; (with_reducible repeat (first | refine blk_drewN ?_ _ | refine blk_drew ?_ | refine blk_alloc ?_ _)); refine blk_far ?_ NB258_260.out _; (with_reducible repeat (first | refine blk_drewN ?_ _ | refine blk_drew ?_ | refine blk_alloc ?_ _)); exact BK258.out) : P := h
theorem z4_3 {P : Prop} (h : P := by repeat (first | (with_reducible first | exact HB.out | apply below_alloc | apply pw_below_drewN | apply below_drew1 | refine below_set ?_ GE264.out) | exact HB.out)) : P := h
theorem z4_4 {P : Prop} (h : P := by (with_reducible repeat (first | apply Kd.R_alloc | apply Kd.R_drewN | apply Kd.R_drew)); exact Kd.R_mono (Kd.R_far (p := ⟨gb260, 30, none⟩) (Kd.R_far (p := ⟨gb260, 29, none⟩) (Kd.R_far (p := ⟨gb260, 28, none⟩) (Kd.R_far (p := ⟨gb260, 27, none⟩) (Kd.R_far (p := ⟨gb260, 26, none⟩) (Kd.R_far (p := ⟨gb260, 25, none⟩) (Kd.R_far (p := ⟨gb260, 24, none⟩) (Kd.R_far (p := ⟨gb260, 23, none⟩) (Kd.R_far (p := ⟨gb260, 22, none⟩) (Kd.R_far (p := ⟨gb260, 21, none⟩) (Kd.R_far (p := ⟨gb260, 20, none⟩) (Kd.R_far (p := ⟨gb260, 19, none⟩) (Kd.R_far (p := ⟨gb260, 18, none⟩) (Kd.R_far (p := ⟨gb260, 17, none⟩) (Kd.R_far (p := ⟨gb260, 16, none⟩) (Kd.R_far (p := ⟨gb260, 15, none⟩) (Kd.R_far (p := ⟨gb260, 14, none⟩) (Kd.R_far (p := ⟨gb260, 13, none⟩) (Kd.R_far (p := ⟨gb260, 12, none⟩) (Kd.R_far (p := ⟨gb260, 11, none⟩) (Kd.R_far (p := ⟨gb260, 10, none⟩) (Kd.R_far (p := ⟨gb260, 9, none⟩) (Kd.R_far (p := ⟨gb260, 8, none⟩) (Kd.R_far (p := ⟨gb260, 7, none⟩) (Kd.R_far (p := ⟨gb260, 6, none⟩) (Kd.R_far (p := ⟨gb260, 5, none⟩) (Kd.R_far (p := ⟨gb260, 4, none⟩) (Kd.R_far (p := ⟨gb260, 3, none⟩) (Kd.R_far (p := ⟨gb260, 2, none⟩) (Kd.R_far (p := ⟨gb260, 1, none⟩) (Kd.R_far (p := ⟨gb260, 0, none⟩) (Kd.R_types HO_5.out BK260.out (by decide)) (fun _ hk => hk.2) (.int .i64 ((rd_T69 l0_0 x11_1).f0))) (fun _ hk => hk.2) (.int .i64 ((rd_T69 l0_0 x11_1).f1))) (fun _ hk => hk.2) (.bool ((rd_T69 l0_0 x11_1).f2))) (fun _ hk => hk.2) (.int .i64 ((rd_T69 l0_0 x11_1).f3.f0))) (fun _ hk => hk.2) (.int .i64 ((rd_T69 l0_0 x11_1).f3.f1))) (fun _ hk => hk.2) (.int .i64 ((rd_T69 l0_0 x11_1).f3.f2))) (fun _ hk => hk.2) (.int .i64 ((rd_T69 l0_0 x11_1).f3.f3))) (fun _ hk => hk.2) (.int .i64 ((rd_T69 l0_0 x11_1).f3.f4))) (fun _ hk => hk.2) (.int .i64 ((rd_T69 l0_0 x11_1).f3.f5))) (fun _ hk => hk.2) (.slice A259_9 ((rd_T69 l0_0 x11_1).f4.f0).length c259_9)) (fun _ hk => hk.2) (.slice A259_10 ((rd_T69 l0_0 x11_1).f4.f1).length c259_10)) (fun _ hk => hk.2) (.bool ((rd_T69 l0_0 x11_1).f5))) (fun _ hk => hk.2) (.int .i64 ((rd_T69 l0_0 x11_1).f6))) (fun _ hk => hk.2) (.slice A259_13 ((rd_T69 l0_0 x11_1).f7).length c259_13)) (fun _ hk => hk.2) (.int .i64 ((rd_T69 l0_0 x11_1).f8.f0))) (fun _ hk => hk.2) (.int .i64 ((rd_T69 l0_0 x11_1).f8.f1.f0))) (fun _ hk => hk.2) (.int .i64 ((rd_T69 l0_0 x11_1).f8.f1.f1))) (fun _ hk => hk.2) (.int .i64 ((rd_T69 l0_0 x11_1).f8.f1.f2))) (fun _ hk => hk.2) (.int .i64 ((rd_T69 l0_0 x11_1).f8.f1.f3))) (fun _ hk => hk.2) (.int .i64 ((rd_T69 l0_0 x11_1).f8.f2.f0))) (fun _ hk => hk.2) (.int .i64 ((rd_T69 l0_0 x11_1).f8.f2.f1))) (fun _ hk => hk.2) (.int .i64 ((rd_T69 l0_0 x11_1).f8.f2.f2))) (fun _ hk => hk.2) (.int .i64 ((rd_T69 l0_0 x11_1).f8.f2.f3))) (fun _ hk => hk.2) (.int .i64 ((rd_T69 l0_0 x11_1).f8.f3.f0))) (fun _ hk => hk.2) (.int .i64 ((rd_T69 l0_0 x11_1).f8.f3.f1))) (fun _ hk => hk.2) (.int .i64 ((rd_T69 l0_0 x11_1).f8.f4.f0))) (fun _ hk => hk.2) (.int .i64 ((rd_T69 l0_0 x11_1).f8.f4.f1))) (fun _ hk => hk.2) (.int .i64 ((rd_T69 l0_0 x11_1).f9))) (fun _ hk => hk.2) (.int .i64 ((rd_T69 l0_0 x11_1).f10))) (fun _ hk => hk.2) (.slice A259_29 ((rd_T69 l0_0 x11_1).f11.f0).length c259_29)) (fun _ hk => hk.2) (.slice A259_30 ((rd_T69 l0_0 x11_1).f11.f1).length c259_30)) (fun _ hk => trivial)) : P := h
theorem z4_5 {P : Prop} (h : P := by repeat (first | (with_reducible first | exact HB.out | apply below_alloc | apply pw_below_drewN | apply below_drew1 | refine below_set ?_ GE271.out | refine below_set ?_ GE272.out) | exact HB.out)) : P := h
theorem z4_6 {P : Prop} (h : P := by first | rfl | (simp [errW_none, errW_some] <;> rfl) | (simp [*, errW_none, errW_some] <;> rfl)) : P := h
theorem z4_7 {P : Prop} (h : P := by repeat (first | (with_reducible first | exact HB.out | apply below_alloc | apply pw_below_drewN | apply below_drew1 | refine below_set ?_ GE266.out) | exact HB.out)) : P := h
theorem z4_8 {P : Prop} (h : P := by repeat (first | (with_reducible first | exact HB.out | apply below_alloc | apply pw_below_drewN | apply below_drew1 | refine below_set ?_ GE271.out) | exact HB.out)) : P := h
theorem z4_9 {P : Prop} (h : P := by repeat (first | (with_reducible first | exact HB.out | apply below_alloc | apply pw_below_drewN | apply below_drew1 | refine below_set ?_ GE264.out | refine below_set ?_ GE265.out) | exact HB.out)) : P := h
theorem z4_10 {P : Prop} (h : P := by repeat (first | (with_reducible first | exact HB.out | apply below_alloc | apply pw_below_drewN | apply below_drew1 | refine below_set ?_ GE258.out) | exact HB.out)) : P := h
theorem z4_11 {P : Prop} (h : P := by (try simp only [List.map_toArray, List.map_cons, List.map_nil]); first | done | rfl | (simp only [List.length_drop, List.length_take]; rfl)) : P := h
theorem z4_12 {P : Prop} (h : P := by (with_reducible repeat (first | refine blk_drewN ?_ _ | refine blk_drew ?_ | refine blk_alloc ?_ _)); with_reducible exact BK260.out) : P := h
theorem z4_13 {P : Prop} (h : P := by repeat (first | (with_reducible first | exact HB.out | apply below_alloc | apply pw_below_drewN | apply below_drew1 | refine below_set ?_ GE258.out | refine below_set ?_ GE260.out) | exact HB.out)) : P := h
theorem z4_14 {P : Prop} (h : P := by repeat (first | (with_reducible first | exact HB.out | apply below_alloc | apply pw_below_drewN | apply below_drew1 | refine below_set ?_ GE266.out | refine below_set ?_ GE267.out) | exact HB.out)) : P := h
theorem z4_15 {P : Prop} (h : P := by repeat (first | exact (Kd.C_below HR0_0.out HB.out) | (with_reducible refine Kd.C_alloc ?_ _) | (with_reducible refine Kd.C_drewN ?_ _) | (with_reducible refine Kd.C_drew ?_))) : P := h
theorem z4_16 {P : Prop} (h : P := by repeat (first | exact (Kd.C_below HR1_0.out HB.out) | (with_reducible refine Kd.C_alloc ?_ _) | (with_reducible refine Kd.C_drewN ?_ _) | (with_reducible refine Kd.C_drew ?_))) : P := h
/-! ### impl_KidsOf: function 32 -/
def impl_KidsOf.l0 : Nat → Int → List Int → List (S69) → Int → Int → Option (List Int)
 | 0, _, _, _, _, _ => none
 | k + 1, x1, x5, x9, x10, x11 => if x11 < x10 then (if 0 ≤ x11 then (if x11 < (x9.length : Int) then (if ((rd_T69 x9 x11).f1) = x1 then (if x5.length < 17592186044416 then (impl_KidsOf.l0 k x1 (x5 ++ [(rd_T69 x9 x11).f0]) x9 x10 (wrap64 (x11 + 1))) else (none)) else (impl_KidsOf.l0 k x1 x5 x9 x10 (wrap64 (x11 + 1)))) else (none)) else (none)) else (some x5)
def impl_KidsOf.f (k : Nat) (l0_0 : List (S69)) (a1 : Int) : Option (List Int) := impl_KidsOf.l0 k a1 ([] : List Int) l0_0 (l0_0.length : Int) 0
theorem impl_KidsOf.mono_l : ∀ k, (∀ y0 y1 y2 y3 y4, LeO (impl_KidsOf.l0 k y0 y1 y2 y3 y4) (impl_KidsOf.l0 (k + 1) y0 y1 y2 y3 y4))
 | 0 => fun _ _ _ _ _ r h => by simp [impl_KidsOf.l0] at h
 | k + 1 => by
  have ih0 := impl_KidsOf.mono_l k
  ·intro y0 y1 y2 y3 y4
   unfold impl_KidsOf.l0
   repeat' first
   | (with_reducible exact ih0 _ _ _ _ _)
   | (with_reducible exact LeO.refl _)
   | (with_reducible exact LeO.none _)
   | (with_reducible refine LeO.ite ?_ ?_)
   | (with_reducible refine LeO.bind ?_ (fun _ => ?_))
theorem impl_KidsOf.mono : ∀ a0 a1 k, LeO (impl_KidsOf.f k a0 a1) (impl_KidsOf.f (k + 1) a0 a1) := by
 intro a0 a1 k
 have ih0 := impl_KidsOf.mono_l k
 unfold impl_KidsOf.f
 repeat' first
   | (with_reducible exact ih0 _ _ _ _ _)
   | (with_reducible exact LeO.refl _)
   | (with_reducible exact LeO.none _)
   | (with_reducible refine LeO.ite ?_ ?_)
   | (with_reducible refine LeO.bind ?_ (fun _ => ?_))
set_option maxHeartbeats 8000000 in
set_option maxRecDepth 100000 in
theorem impl_KidsOf.calls (k : Nat) (A0_0 : Option Addr) (c0_0 : Nat) (l0_0 : List (S69)) (a1 : Int) (r : List Int) (w : World) (hr0_0 : Kd.C k69 w A0_0 l0_0.length l0_0) (hc0_0 : l0_0.length ≤ c0_0) (h : impl_KidsOf.f k l0_0 a1 = some r) :
  Calls Try.prog 32 #[.agg #[.slice A0_0 l0_0.length c0_0], .int .i64 a1] w fun e w' => ∃ v0_ : Value, e = .returned (v0_) ∧ Kd.R (Kd.int .i64) 3 w' w.heap.size (fun _ => True) v0_ r ∧ Below w.heap.size w w' := by
 have hu53 := Try.underlying53
 have hu69 := Try.underlying69
 have HR0_0 := mk0 hr0_0
 have HC0_0 := mk0 hc0_0
 clear hr0_0 hc0_0
 have HB := mk0 (Below.refl w.heap.size w)
 have H : (impl_KidsOf.l0 k a1 ([] : List Int) l0_0 (l0_0.length : Int) 0) = some r := h
 clear h
 have H' := mk0 H
 clear H
 go_enter Try.func32, Try.ntmps32
 go_wp2_with (first | ((with_reducible refine gate_dst (N := 2) rfl ?_); refine boxz (cs := #[.slice A0_0 l0_0.length c0_0]) (t := 53) rfl ?_; intro gb258 hg w3 hbox hb; have n0_ := mk0 (below_step z4_1 hb); have n1_ := mk0 (hbox); have GW258 := mk0 (ge_go (a := w.heap.size) hg (below_size z4_1)); have GE258 := GW258; clear HB; have HB := n0_; have BK258 := n1_; clear n0_ n1_ ; clear hb hbox hg; obtain ⟨_, _⟩ := be_1 BK258.out))
 go_loopg [5, 11] k (fun kq v5 v11 w' => ∃ (x5_1 : List Int) (x11_1 : Int), v11 = .int .i64 x11_1 ∧ Aside0 (impl_KidsOf.l0 kq a1 x5_1 l0_0 (l0_0.length : Int) x11_1 = some r) ∧ Aside0 (kq ≤ k) ∧ Aside0 (Kd.R (Kd.int .i64) 3 w' w.heap.size (fun _ => True) v5 x5_1) ∧ Aside0 (w'.heap[gb258]? = some (.cells #[(.slice A0_0 l0_0.length c0_0)] 53 (0, 0))) ∧ Aside0 (Below w.heap.size w w'))
 case atStart => exact ⟨(([] : List Int)), (0), rs0, H', ⟨Nat.le_refl _⟩, ⟨(by first | exact Kd.R_nil _ _ _ _ _ | exact Kd.N_nil _ _ _ _ _ | exact Kd.V_nil _ _ _ _ _ | exact Kd.Q_nil _ _ _ _ _ | exact Kd.S_nil _ _ _ _ _)⟩, ⟨pkb BK258⟩, ⟨z4_10⟩⟩
 case round =>
  clear H'
  try clear p2
  try clear c3
  try clear hcz4_0
  try clear hfz4_0
  obtain ⟨x5_1, x11_1, rfl, HA, HK1, HO_5, BK258, HB⟩ := hrel
  cases gk with
  | zero => exact absurd HA.out (by simp [impl_KidsOf.l0])
  | succ k1 =>
   have H := HA.out; clear HA
   simp only [impl_KidsOf.l0] at H
   by_cases c5 : x11_1 < (l0_0.length : Int)
   rotate_left
   ·rw [if_neg c5] at H
    have c5b0 := decide_eq_false c5
    clear c5
    obtain rfl := Option.some.inj H
    simp only [Option.some.injEq, Prod.mk.injEq] at H
    obtain ⟨rfl⟩ := H
    go_wp2_with (first | ((with_reducible refine gate_load (t := 69) rfl ?_); refine load_blk (t := 69) rfl rfl BK260 rfl z4_12 Try.underlying69 rfl (show (Try.prog.info? 69).map (·.size) = some 31 by kernel_rfl) rfl ?_) | ((with_reducible refine gate_store (t := 69) rfl ?_); refine wstore_blk (t := 69) rfl rfl BK260 rfl rfl z4_12 rfl (show (Try.prog.info? 69).map (·.size) = some 31 by kernel_rfl) rfl ?_; simp only [World.setCells, Nat.reduceAdd]))
    go_ret
    exact ⟨_, z4_6, (pkR HO_5), z4_10⟩
   rw [if_pos c5] at H
   have c5b0 := decide_eq_true c5
   clear c5
   by_cases c6 : 0 ≤ x11_1
   rotate_left
   ·rw [if_neg c6] at H
    exact absurd H (by simp)
   rw [if_pos c6] at H
   have c6b0 := decide_eq_true c6
   clear c6
   by_cases c7 : x11_1 < (l0_0.length : Int)
   rotate_left
   ·rw [if_neg c7] at H
    exact absurd H (by simp)
   rw [if_pos c7] at H
   have c7b0 := decide_eq_true c7
   clear c7
   by_cases c8 : ((rd_T69 l0_0 x11_1).f1) = a1
   rotate_left
   ·rw [if_neg c8] at H
    have c8b0 : (((rd_T69 l0_0 x11_1).f1) == a1) = false := beq_eq_false_iff_ne.mpr c8
    have c8b1 : (((rd_T69 l0_0 x11_1).f1) != a1) = true := bne_iff_ne.mpr c8
    have H' := mk0 H
    clear H
    have p259 : 0 ≤ (x11_1 : Int) := of_decide_eq_true (by first | (with_reducible assumption) | assumption)
    have q259 : x11_1 < (l0_0.length : Int) := of_decide_eq_true (by first | (with_reducible assumption) | assumption)
    obtain ⟨ad259, A259_9, c259_9, A259_10, c259_10, A259_13, c259_13, A259_29, c259_29, A259_30, c259_30, e259, hx259_0, hx259_1, hx259_2, hx259_3, hx259_4, hx259_5, hx259_6, hx259_7, hx259_8, hx259_9, hx259_10, hx259_11, hx259_12, hx259_13, hx259_14, hx259_15, hx259_16, hx259_17, hx259_18, hx259_19, hx259_20, hx259_21, hx259_22, hx259_23, hx259_24, hx259_25, hx259_26, hx259_27, hx259_28, hx259_29, hx259_30, hl259_9, hi259_9, hl259_10, hi259_10, hl259_13, hi259_13, hl259_29, hi259_29, hl259_30, hi259_30⟩ := at_T69 HR0_0.out x11_1 p259 q259
    have hM259 := lie_zero hx259_0 (lie_n hx259_1 (lie_n hx259_2 (lie_n hx259_3 (lie_n hx259_4 (lie_n hx259_5 (lie_n hx259_6 (lie_n hx259_7 (lie_n hx259_8 (lie_n hx259_9 (lie_n hx259_10 (lie_n hx259_11 (lie_n hx259_12 (lie_n hx259_13 (lie_n hx259_14 (lie_n hx259_15 (lie_n hx259_16 (lie_n hx259_17 (lie_n hx259_18 (lie_n hx259_19 (lie_n hx259_20 (lie_n hx259_21 (lie_n hx259_22 (lie_n hx259_23 (lie_n hx259_24 (lie_n hx259_25 (lie_n hx259_26 (lie_n hx259_27 (lie_n hx259_28 (lie_n hx259_29 (lie_n hx259_30 (lie_nil _ _ _)))))))))))))))))))))))))))))))
    cases e259
    replace hx259_0 := cell_go HB hx259_0
    replace hx259_1 := cell_go HB hx259_1
    replace hx259_2 := cell_go HB hx259_2
    replace hx259_3 := cell_go HB hx259_3
    replace hx259_4 := cell_go HB hx259_4
    replace hx259_5 := cell_go HB hx259_5
    replace hx259_6 := cell_go HB hx259_6
    replace hx259_7 := cell_go HB hx259_7
    replace hx259_8 := cell_go HB hx259_8
    replace hx259_9 := cell_go HB hx259_9
    replace hx259_10 := cell_go HB hx259_10
    replace hx259_11 := cell_go HB hx259_11
    replace hx259_12 := cell_go HB hx259_12
    replace hx259_13 := cell_go HB hx259_13
    replace hx259_14 := cell_go HB hx259_14
    replace hx259_15 := cell_go HB hx259_15
    replace hx259_16 := cell_go HB hx259_16
    replace hx259_17 := cell_go HB hx259_17
    replace hx259_18 := cell_go HB hx259_18
    replace hx259_19 := cell_go HB hx259_19
    replace hx259_20 := cell_go HB hx259_20
    replace hx259_21 := cell_go HB hx259_21
    replace hx259_22 := cell_go HB hx259_22
    replace hx259_23 := cell_go HB hx259_23
    replace hx259_24 := cell_go HB hx259_24
    replace hx259_25 := cell_go HB hx259_25
    replace hx259_26 := cell_go HB hx259_26
    replace hx259_27 := cell_go HB hx259_27
    replace hx259_28 := cell_go HB hx259_28
    replace hx259_29 := cell_go HB hx259_29
    replace hx259_30 := cell_go HB hx259_30
    have HR259_9 := mk0 hi259_9
    have HC259_9 := mk0 hl259_9
    clear hi259_9 hl259_9
    have HR259_10 := mk0 hi259_10
    have HC259_10 := mk0 hl259_10
    clear hi259_10 hl259_10
    have HR259_13 := mk0 hi259_13
    have HC259_13 := mk0 hl259_13
    clear hi259_13 hl259_13
    have HR259_29 := mk0 hi259_29
    have HC259_29 := mk0 hl259_29
    clear hi259_29 hl259_29
    have HR259_30 := mk0 hi259_30
    have HC259_30 := mk0 hl259_30
    clear hi259_30 hl259_30
    replace p259 := eq_true p259
    replace q259 := eq_true q259
    go_wp2_with (first | ((with_reducible refine gate_load (t := 69) rfl ?_); refine load_lie (t := 69) rfl rfl hM259 HB (by with_reducible rfl) rfl Try.underlying69 rfl (show (Try.prog.info? 69).map (·.size) = some 31 by kernel_rfl) rfl ?_) | ((with_reducible refine gate_load (t := 69) rfl ?_); refine load_lie0 (t := 69) rfl rfl hM259 (by with_reducible rfl) rfl Try.underlying69 rfl (show (Try.prog.info? 69).map (·.size) = some 31 by kernel_rfl) rfl ?_) | ((with_reducible refine gate_dst (N := 7) rfl ?_); refine boxz (cs := #[.int .i64 0, .int .i64 0, .bool false, .int .i64 0, .int .i64 0, .int .i64 0, .int .i64 0, .int .i64 0, .int .i64 0, .slice none 0 0, .slice none 0 0, .bool false, .int .i64 0, .slice none 0 0, .int .i64 0, .int .i64 0, .int .i64 0, .int .i64 0, .int .i64 0, .int .i64 0, .int .i64 0, .int .i64 0, .int .i64 0, .int .i64 0, .int .i64 0, .int .i64 0, .int .i64 0, .int .i64 0, .int .i64 0, .slice none 0 0, .slice none 0 0]) (t := 69) rfl ?_; intro gb260 hg w14 hbox hb; have n0_ := mk0 (Kd.R_below (pkR HO_5) hb); have n1_ := mk0 (blk_belowB BK258 (pkb BK258) hb); have n2_ := mk0 (below_step z4_10 hb); have n3_ := mk0 (hbox); have GW260 := mk0 (ge_go (a := w.heap.size) hg (below_size z4_10)); have GE260 := GW260; have NB258_260 := mk0 (nb_lt hg (blk_ltB BK258 (pkb BK258))); have NB260_258 := mk0 (nb_gt hg (blk_ltB BK258 (pkb BK258))); clear HO_5 BK258 HB; have HO_5 := n0_; have BK258 := n1_; have HB := n2_; have BK260 := n3_; clear n0_ n1_ n2_ n3_ ; clear hb hbox hg; have hnb15 := NB260_258.out; have hnc15 := NB258_260.out; obtain ⟨_, _, _, _, _, _, _, _, _, _, _, _, _, _, _, _, _, _, _, _, _, _, _, _, _, _, _, _, _, _, _, _, _, _, _, _, _, _, _, _, _, _, _, _, _, _, _, _, _, _, _, _, _, _, _, _, _, _, _, _, _, _⟩ := be_31 BK260.out) | ((with_reducible refine gate_load (t := 69) rfl ?_); refine load_blk (t := 69) rfl rfl BK260 rfl z4_12 Try.underlying69 rfl (show (Try.prog.info? 69).map (·.size) = some 31 by kernel_rfl) rfl ?_) | ((with_reducible refine gate_store (t := 69) rfl ?_); refine wstore_blk (t := 69) rfl rfl BK260 rfl rfl z4_12 rfl (show (Try.prog.info? 69).map (·.size) = some 31 by kernel_rfl) rfl ?_; simp only [World.setCells, Nat.reduceAdd]))
    go_roundg k1
    case measure => have := HK1.out; omega
    case rel => exact ⟨(x5_1), (wrap64 (x11_1 + 1)), rs0, H', ⟨(by have := HK1.out; omega)⟩, ⟨z4_4⟩, ⟨z4_2⟩, ⟨z4_13⟩⟩
   rw [if_pos c8] at H
   have c8b0 : (((rd_T69 l0_0 x11_1).f1) == a1) = true := beq_iff_eq.mpr c8
   have c8b1 : (((rd_T69 l0_0 x11_1).f1) != a1) = false := bne_eq_false_iff_eq.mpr c8
   clear c8
   by_cases c9 : x5_1.length < 17592186044416
   rotate_left
   ·rw [if_neg c9] at H
    exact absurd H (by simp)
   rw [if_pos c9] at H
   have LMc9 := mk0 c9
   clear c9
   obtain ⟨y261, hy_⟩ : ∃ y_ : List Int, y_ = (x5_1 ++ [(rd_T69 l0_0 x11_1).f0]) := ⟨_, rfl⟩
   replace H : (impl_KidsOf.l0 k1 a1 y261 l0_0 (l0_0.length : Int) (wrap64 (x11_1 + 1))) = some r := (by first | (rw [hy_]; with_reducible exact H) | (have H2_ := (Option.bind_some _ _).symm.trans H; rw [hy_]; with_reducible exact H2_) | (have H2_ := (Option.bind_some _ _).symm.trans H; with_reducible exact H2_) | with_reducible exact H | (rw [hy_]; exact H) | exact H)
   have Ny261 := mk0 hy_
   clear hy_
   have H' := mk0 H
   clear H
   have p259 : 0 ≤ (x11_1 : Int) := of_decide_eq_true (by first | (with_reducible assumption) | assumption)
   have q259 : x11_1 < (l0_0.length : Int) := of_decide_eq_true (by first | (with_reducible assumption) | assumption)
   obtain ⟨ad259, A259_9, c259_9, A259_10, c259_10, A259_13, c259_13, A259_29, c259_29, A259_30, c259_30, e259, hx259_0, hx259_1, hx259_2, hx259_3, hx259_4, hx259_5, hx259_6, hx259_7, hx259_8, hx259_9, hx259_10, hx259_11, hx259_12, hx259_13, hx259_14, hx259_15, hx259_16, hx259_17, hx259_18, hx259_19, hx259_20, hx259_21, hx259_22, hx259_23, hx259_24, hx259_25, hx259_26, hx259_27, hx259_28, hx259_29, hx259_30, hl259_9, hi259_9, hl259_10, hi259_10, hl259_13, hi259_13, hl259_29, hi259_29, hl259_30, hi259_30⟩ := at_T69 HR0_0.out x11_1 p259 q259
   have hM259 := lie_zero hx259_0 (lie_n hx259_1 (lie_n hx259_2 (lie_n hx259_3 (lie_n hx259_4 (lie_n hx259_5 (lie_n hx259_6 (lie_n hx259_7 (lie_n hx259_8 (lie_n hx259_9 (lie_n hx259_10 (lie_n hx259_11 (lie_n hx259_12 (lie_n hx259_13 (lie_n hx259_14 (lie_n hx259_15 (lie_n hx259_16 (lie_n hx259_17 (lie_n hx259_18 (lie_n hx259_19 (lie_n hx259_20 (lie_n hx259_21 (lie_n hx259_22 (lie_n hx259_23 (lie_n hx259_24 (lie_n hx259_25 (lie_n hx259_26 (lie_n hx259_27 (lie_n hx259_28 (lie_n hx259_29 (lie_n hx259_30 (lie_nil _ _ _)))))))))))))))))))))))))))))))
   cases e259
   replace hx259_0 := cell_go HB hx259_0
   replace hx259_1 := cell_go HB hx259_1
   replace hx259_2 := cell_go HB hx259_2
   replace hx259_3 := cell_go HB hx259_3
   replace hx259_4 := cell_go HB hx259_4
   replace hx259_5 := cell_go HB hx259_5
   replace hx259_6 := cell_go HB hx259_6
   replace hx259_7 := cell_go HB hx259_7
   replace hx259_8 := cell_go HB hx259_8
   replace hx259_9 := cell_go HB hx259_9
   replace hx259_10 := cell_go HB hx259_10
   replace hx259_11 := cell_go HB hx259_11
   replace hx259_12 := cell_go HB hx259_12
   replace hx259_13 := cell_go HB hx259_13
   replace hx259_14 := cell_go HB hx259_14
   replace hx259_15 := cell_go HB hx259_15
   replace hx259_16 := cell_go HB hx259_16
   replace hx259_17 := cell_go HB hx259_17
   replace hx259_18 := cell_go HB hx259_18
   replace hx259_19 := cell_go HB hx259_19
   replace hx259_20 := cell_go HB hx259_20
   replace hx259_21 := cell_go HB hx259_21
   replace hx259_22 := cell_go HB hx259_22
   replace hx259_23 := cell_go HB hx259_23
   replace hx259_24 := cell_go HB hx259_24
   replace hx259_25 := cell_go HB hx259_25
   replace hx259_26 := cell_go HB hx259_26
   replace hx259_27 := cell_go HB hx259_27
   replace hx259_28 := cell_go HB hx259_28
   replace hx259_29 := cell_go HB hx259_29
   replace hx259_30 := cell_go HB hx259_30
   have HR259_9 := mk0 hi259_9
   have HC259_9 := mk0 hl259_9
   clear hi259_9 hl259_9
   have HR259_10 := mk0 hi259_10
   have HC259_10 := mk0 hl259_10
   clear hi259_10 hl259_10
   have HR259_13 := mk0 hi259_13
   have HC259_13 := mk0 hl259_13
   clear hi259_13 hl259_13
   have HR259_29 := mk0 hi259_29
   have HC259_29 := mk0 hl259_29
   clear hi259_29 hl259_29
   have HR259_30 := mk0 hi259_30
   have HC259_30 := mk0 hl259_30
   clear hi259_30 hl259_30
   replace p259 := eq_true p259
   replace q259 := eq_true q259
   go_wp2_with (first | ((with_reducible refine gate_load (t := 69) rfl ?_); refine load_lie (t := 69) rfl rfl hM259 HB (by with_reducible rfl) rfl Try.underlying69 rfl (show (Try.prog.info? 69).map (·.size) = some 31 by kernel_rfl) rfl ?_) | ((with_reducible refine gate_load (t := 69) rfl ?_); refine load_lie0 (t := 69) rfl rfl hM259 (by with_reducible rfl) rfl Try.underlying69 rfl (show (Try.prog.info? 69).map (·.size) = some 31 by kernel_rfl) rfl ?_) | ((with_reducible refine gate_dst (N := 7) rfl ?_); refine boxz (cs := #[.int .i64 0, .int .i64 0, .bool false, .int .i64 0, .int .i64 0, .int .i64 0, .int .i64 0, .int .i64 0, .int .i64 0, .slice none 0 0, .slice none 0 0, .bool false, .int .i64 0, .slice none 0 0, .int .i64 0, .int .i64 0, .int .i64 0, .int .i64 0, .int .i64 0, .int .i64 0, .int .i64 0, .int .i64 0, .int .i64 0, .int .i64 0, .int .i64 0, .int .i64 0, .int .i64 0, .int .i64 0, .int .i64 0, .slice none 0 0, .slice none 0 0]) (t := 69) rfl ?_; intro gb260 hg w10 hbox hb; have n0_ := mk0 (Kd.R_below (pkR HO_5) hb); have n1_ := mk0 (blk_belowB BK258 (pkb BK258) hb); have n2_ := mk0 (below_step z4_10 hb); have n3_ := mk0 (hbox); have GW260 := mk0 (ge_go (a := w.heap.size) hg (below_size z4_10)); have GE260 := GW260; have NB258_260 := mk0 (nb_lt hg (blk_ltB BK258 (pkb BK258))); have NB260_258 := mk0 (nb_gt hg (blk_ltB BK258 (pkb BK258))); clear HO_5 BK258 HB; have HO_5 := n0_; have BK258 := n1_; have HB := n2_; have BK260 := n3_; clear n0_ n1_ n2_ n3_ ; clear hb hbox hg; have hnb11 := NB260_258.out; have hnc11 := NB258_260.out; obtain ⟨_, _, _, _, _, _, _, _, _, _, _, _, _, _, _, _, _, _, _, _, _, _, _, _, _, _, _, _, _, _, _, _, _, _, _, _, _, _, _, _, _, _, _, _, _, _, _, _, _, _, _, _, _, _, _, _, _, _, _, _, _, _⟩ := be_31 BK260.out) | ((with_reducible refine gate_builtin (b := .append) (xs := #[.tmp 19, .tmp 22]) rfl ?_); at_builtin; refine Kd.R_append (Kd.int .i64) (w0 := w) w.heap.size rfl (.tmp 19) (.tmp 22) 24 3 (.int .i64 0) 8 rfl Try.underlying24 info3 rfl (by decide) (by omega) u5 x5_1 ((rd_T69 l0_0 x11_1).f0) [.int .i64 ((rd_T69 l0_0 x11_1).f0)] (fun _ => True) (fun _ => False) rfl (by first | (go_simp; done) | (go_simp; rfl)) ?aP (fun _ hk => hk.elim) ?aF ?aO ?aB ?aS ?aL ?_; (case aP => exact rfl); (case aB => exact z4_13); (case aF => exact (fun _ _ => trivial)); (case aO => exact z4_4); (case aS => exact (below_size z4_13)); (case aL => have := LMc9.out; omega); intro v262 w13 ho hb hg hat; rw [← Ny261.out] at ho; have n0_ := mk0 (blk_grown (g := gb258) (o := .cells #[.slice (some ad259) l0_0.length c0_0] 53 (0, 0)) z4_2 hg (Kd.R_ne HO_5.out BK258.out (by decide))); have n1_ := mk0 (blk_grown (g := gb260) (o := .cells #[.int .i64 ((rd_T69 l0_0 x11_1).f0), .int .i64 ((rd_T69 l0_0 x11_1).f1), .bool ((rd_T69 l0_0 x11_1).f2), .int .i64 ((rd_T69 l0_0 x11_1).f3.f0), .int .i64 ((rd_T69 l0_0 x11_1).f3.f1), .int .i64 ((rd_T69 l0_0 x11_1).f3.f2), .int .i64 ((rd_T69 l0_0 x11_1).f3.f3), .int .i64 ((rd_T69 l0_0 x11_1).f3.f4), .int .i64 ((rd_T69 l0_0 x11_1).f3.f5), .slice A259_9 ((rd_T69 l0_0 x11_1).f4.f0).length c259_9, .slice A259_10 ((rd_T69 l0_0 x11_1).f4.f1).length c259_10, .bool ((rd_T69 l0_0 x11_1).f5), .int .i64 ((rd_T69 l0_0 x11_1).f6), .slice A259_13 ((rd_T69 l0_0 x11_1).f7).length c259_13, .int .i64 ((rd_T69 l0_0 x11_1).f8.f0), .int .i64 ((rd_T69 l0_0 x11_1).f8.f1.f0), .int .i64 ((rd_T69 l0_0 x11_1).f8.f1.f1), .int .i64 ((rd_T69 l0_0 x11_1).f8.f1.f2), .int .i64 ((rd_T69 l0_0 x11_1).f8.f1.f3), .int .i64 ((rd_T69 l0_0 x11_1).f8.f2.f0), .int .i64 ((rd_T69 l0_0 x11_1).f8.f2.f1), .int .i64 ((rd_T69 l0_0 x11_1).f8.f2.f2), .int .i64 ((rd_T69 l0_0 x11_1).f8.f2.f3), .int .i64 ((rd_T69 l0_0 x11_1).f8.f3.f0), .int .i64 ((rd_T69 l0_0 x11_1).f8.f3.f1), .int .i64 ((rd_T69 l0_0 x11_1).f8.f4.f0), .int .i64 ((rd_T69 l0_0 x11_1).f8.f4.f1), .int .i64 ((rd_T69 l0_0 x11_1).f9), .int .i64 ((rd_T69 l0_0 x11_1).f10), .slice A259_29 ((rd_T69 l0_0 x11_1).f11.f0).length c259_29, .slice A259_30 ((rd_T69 l0_0 x11_1).f11.f1).length c259_30] 69 (0, 0)) (by apply blk_fin; (focus ((with_reducible repeat (first | apply blk_putQ | refine blk_drewN ?_ _ | refine blk_drew ?_ | refine blk_alloc ?_ _)); exact BK260.out)); first | (simp only [List.setIfInBounds_toArray, List.set_cons_zero, List.set_cons_succ]; done) | rfl) hg (Kd.R_ne HO_5.out BK260.out (by decide))); have n2_ := mk0 (hb); have n3_ := mk0 (ho); clear BK258 BK260 HB HO_5; have BK258 := n0_; have BK260 := n1_; have HB := n2_; have HO263 := n3_; clear n0_ n1_ n2_ n3_ ho hb hg hat) | ((with_reducible refine gate_load (t := 69) rfl ?_); refine load_blk (t := 69) rfl rfl BK260 rfl z4_12 Try.underlying69 rfl (show (Try.prog.info? 69).map (·.size) = some 31 by kernel_rfl) rfl ?_) | ((with_reducible refine gate_store (t := 69) rfl ?_); refine wstore_blk (t := 69) rfl rfl BK260 rfl rfl z4_12 rfl (show (Try.prog.info? 69).map (·.size) = some 31 by kernel_rfl) rfl ?_; simp only [World.setCells, Nat.reduceAdd]))
   go_roundg k1
   case measure => have := HK1.out; omega
   case rel => exact ⟨(y261), (wrap64 (x11_1 + 1)), rs0, H', ⟨(by have := HK1.out; omega)⟩, ⟨pkR HO263⟩, ⟨pkb BK258⟩, ⟨z4_13⟩⟩

/-! ### laws_eqMat: function 104 -/
def laws_eqMat.f (a0_0 : Int) (a0_1 : Int) (a0_2 : Int) (a0_3 : Int) (a0_4 : Int) (a0_5 : Int) (a1_0 : Int) (a1_1 : Int) (a1_2 : Int) (a1_3 : Int) (a1_4 : Int) (a1_5 : Int) : Option (Bool) := if a0_0 = a1_0 then (if a0_1 = a1_1 then (if a0_2 = a1_2 then (if a0_3 = a1_3 then (if a0_4 = a1_4 then (if a0_5 = a1_5 then (some true) else (some false)) else (some false)) else (some false)) else (some false)) else (some false)) else (some false)
set_option maxHeartbeats 8000000 in
set_option maxRecDepth 100000 in
theorem laws_eqMat.calls (a0_0 : Int) (a0_1 : Int) (a0_2 : Int) (a0_3 : Int) (a0_4 : Int) (a0_5 : Int) (a1_0 : Int) (a1_1 : Int) (a1_2 : Int) (a1_3 : Int) (a1_4 : Int) (a1_5 : Int) (r : Bool) (w : World) (h : laws_eqMat.f a0_0 a0_1 a0_2 a0_3 a0_4 a0_5 a1_0 a1_1 a1_2 a1_3 a1_4 a1_5 = some r) :
  Calls Try.prog 104 #[.agg #[.int .i64 a0_0, .int .i64 a0_1, .int .i64 a0_2, .int .i64 a0_3, .int .i64 a0_4, .int .i64 a0_5], .agg #[.int .i64 a1_0, .int .i64 a1_1, .int .i64 a1_2, .int .i64 a1_3, .int .i64 a1_4, .int .i64 a1_5]] w fun e w' => e = .returned (.bool r) ∧ Below w.heap.size w w' := by
 have hu61 := Try.underlying61
 have HB := mk0 (Below.refl w.heap.size w)
 have H : (if a0_0 = a1_0 then (if a0_1 = a1_1 then (if a0_2 = a1_2 then (if a0_3 = a1_3 then (if a0_4 = a1_4 then (if a0_5 = a1_5 then (some true) else (some false)) else (some false)) else (some false)) else (some false)) else (some false)) else (some false)) = some r := h
 clear h
 by_cases c3 : a0_0 = a1_0
 rotate_left
 ·rw [if_neg c3] at H
  have c3b0 : (a0_0 == a1_0) = false := beq_eq_false_iff_ne.mpr c3
  have c3b1 : (a0_0 != a1_0) = true := bne_iff_ne.mpr c3
  obtain rfl := Option.some.inj H
  simp only [Option.some.injEq, Prod.mk.injEq] at H
  obtain ⟨rfl⟩ := H
  go_enter Try.func104, Try.ntmps104
  go_wp2_with (first | ((with_reducible refine gate_dst (N := 2) rfl ?_); refine boxz (cs := #[.int .i64 a0_0, .int .i64 a0_1, .int .i64 a0_2, .int .i64 a0_3, .int .i64 a0_4, .int .i64 a0_5]) (t := 61) rfl ?_; intro gb264 hg w39 hbox hb; have n0_ := mk0 (below_step z4_1 hb); have n1_ := mk0 (hbox); have GW264 := mk0 (ge_go (a := w.heap.size) hg (below_size z4_1)); have GE264 := GW264; clear HB; have HB := n0_; have BK264 := n1_; clear n0_ n1_ ; clear hb hbox hg) | ((with_reducible refine gate_dst (N := 3) rfl ?_); refine boxz (cs := #[.int .i64 a1_0, .int .i64 a1_1, .int .i64 a1_2, .int .i64 a1_3, .int .i64 a1_4, .int .i64 a1_5]) (t := 61) rfl ?_; intro gb265 hg w40 hbox hb; have n0_ := mk0 (blk_belowB BK264 (pkb BK264) hb); have n1_ := mk0 (below_step z4_3 hb); have n2_ := mk0 (hbox); have GW265 := mk0 (ge_go (a := w.heap.size) hg (below_size z4_3)); have GE265 := GW265; have NB264_265 := mk0 (nb_lt hg (blk_ltB BK264 (pkb BK264))); have NB265_264 := mk0 (nb_gt hg (blk_ltB BK264 (pkb BK264))); clear BK264 HB; have BK264 := n0_; have HB := n1_; have BK265 := n2_; clear n0_ n1_ n2_ ; clear hb hbox hg; have hnb41 := NB264_265.out; have hnc41 := NB265_264.out; obtain ⟨_, _, _, _, _, _, _, _, _, _, _, _⟩ := be_6 BK264.out; obtain ⟨_, _, _, _, _, _, _, _, _, _, _, _⟩ := be_6 BK265.out))
  go_ret
  exact ⟨z4_6, z4_9⟩
 rw [if_pos c3] at H
 have c3b0 : (a0_0 == a1_0) = true := beq_iff_eq.mpr c3
 have c3b1 : (a0_0 != a1_0) = false := bne_eq_false_iff_eq.mpr c3
 clear c3
 by_cases c4 : a0_1 = a1_1
 rotate_left
 ·rw [if_neg c4] at H
  have c4b0 : (a0_1 == a1_1) = false := beq_eq_false_iff_ne.mpr c4
  have c4b1 : (a0_1 != a1_1) = true := bne_iff_ne.mpr c4
  obtain rfl := Option.some.inj H
  simp only [Option.some.injEq, Prod.mk.injEq] at H
  obtain ⟨rfl⟩ := H
  go_enter Try.func104, Try.ntmps104
  go_wp2_with (first | ((with_reducible refine gate_dst (N := 2) rfl ?_); refine boxz (cs := #[.int .i64 a0_0, .int .i64 a0_1, .int .i64 a0_2, .int .i64 a0_3, .int .i64 a0_4, .int .i64 a0_5]) (t := 61) rfl ?_; intro gb264 hg w34 hbox hb; have n0_ := mk0 (below_step z4_1 hb); have n1_ := mk0 (hbox); have GW264 := mk0 (ge_go (a := w.heap.size) hg (below_size z4_1)); have GE264 := GW264; clear HB; have HB := n0_; have BK264 := n1_; clear n0_ n1_ ; clear hb hbox hg) | ((with_reducible refine gate_dst (N := 3) rfl ?_); refine boxz (cs := #[.int .i64 a1_0, .int .i64 a1_1, .int .i64 a1_2, .int .i64 a1_3, .int .i64 a1_4, .int .i64 a1_5]) (t := 61) rfl ?_; intro gb265 hg w35 hbox hb; have n0_ := mk0 (blk_belowB BK264 (pkb BK264) hb); have n1_ := mk0 (below_step z4_3 hb); have n2_ := mk0 (hbox); have GW265 := mk0 (ge_go (a := w.heap.size) hg (below_size z4_3)); have GE265 := GW265; have NB264_265 := mk0 (nb_lt hg (blk_ltB BK264 (pkb BK264))); have NB265_264 := mk0 (nb_gt hg (blk_ltB BK264 (pkb BK264))); clear BK264 HB; have BK264 := n0_; have HB := n1_; have BK265 := n2_; clear n0_ n1_ n2_ ; clear hb hbox hg; have hnb36 := NB264_265.out; have hnc36 := NB265_264.out; obtain ⟨_, _, _, _, _, _, _, _, _, _, _, _⟩ := be_6 BK264.out; obtain ⟨_, _, _, _, _, _, _, _, _, _, _, _⟩ := be_6 BK265.out))
  go_ret
  exact ⟨z4_6, z4_9⟩
 rw [if_pos c4] at H
 have c4b0 : (a0_1 == a1_1) = true := beq_iff_eq.mpr c4
 have c4b1 : (a0_1 != a1_1) = false := bne_eq_false_iff_eq.mpr c4
 clear c4
 by_cases c5 : a0_2 = a1_2
 rotate_left
 ·rw [if_neg c5] at H
  have c5b0 : (a0_2 == a1_2) = false := beq_eq_false_iff_ne.mpr c5
  have c5b1 : (a0_2 != a1_2) = true := bne_iff_ne.mpr c5
  obtain rfl := Option.some.inj H
  simp only [Option.some.injEq, Prod.mk.injEq] at H
  obtain ⟨rfl⟩ := H
  go_enter Try.func104, Try.ntmps104
  go_wp2_with (first | ((with_reducible refine gate_dst (N := 2) rfl ?_); refine boxz (cs := #[.int .i64 a0_0, .int .i64 a0_1, .int .i64 a0_2, .int .i64 a0_3, .int .i64 a0_4, .int .i64 a0_5]) (t := 61) rfl ?_; intro gb264 hg w29 hbox hb; have n0_ := mk0 (below_step z4_1 hb); have n1_ := mk0 (hbox); have GW264 := mk0 (ge_go (a := w.heap.size) hg (below_size z4_1)); have GE264 := GW264; clear HB; have HB := n0_; have BK264 := n1_; clear n0_ n1_ ; clear hb hbox hg) | ((with_reducible refine gate_dst (N := 3) rfl ?_); refine boxz (cs := #[.int .i64 a1_0, .int .i64 a1_1, .int .i64 a1_2, .int .i64 a1_3, .int .i64 a1_4, .int .i64 a1_5]) (t := 61) rfl ?_; intro gb265 hg w30 hbox hb; have n0_ := mk0 (blk_belowB BK264 (pkb BK264) hb); have n1_ := mk0 (below_step z4_3 hb); have n2_ := mk0 (hbox); have GW265 := mk0 (ge_go (a := w.heap.size) hg (below_size z4_3)); have GE265 := GW265; have NB264_265 := mk0 (nb_lt hg (blk_ltB BK264 (pkb BK264))); have NB265_264 := mk0 (nb_gt hg (blk_ltB BK264 (pkb BK264))); clear BK264 HB; have BK264 := n0_; have HB := n1_; have BK265 := n2_; clear n0_ n1_ n2_ ; clear hb hbox hg; have hnb31 := NB264_265.out; have hnc31 := NB265_264.out; obtain ⟨_, _, _, _, _, _, _, _, _, _, _, _⟩ := be_6 BK264.out; obtain ⟨_, _, _, _, _, _, _, _, _, _, _, _⟩ := be_6 BK265.out))
  go_ret
  exact ⟨z4_6, z4_9⟩
 rw [if_pos c5] at H
 have c5b0 : (a0_2 == a1_2) = true := beq_iff_eq.mpr c5
 have c5b1 : (a0_2 != a1_2) = false := bne_eq_false_iff_eq.mpr c5
 clear c5
 by_cases c6 : a0_3 = a1_3
 rotate_left
 ·rw [if_neg c6] at H
  have c6b0 : (a0_3 == a1_3) = false := beq_eq_false_iff_ne.mpr c6
  have c6b1 : (a0_3 != a1_3) = true := bne_iff_ne.mpr c6
  obtain rfl := Option.some.inj H
  simp only [Option.some.injEq, Prod.mk.injEq] at H
  obtain ⟨rfl⟩ := H
  go_enter Try.func104, Try.ntmps104
  go_wp2_with (first | ((with_reducible refine gate_dst (N := 2) rfl ?_); refine boxz (cs := #[.int .i64 a0_0, .int .i64 a0_1, .int .i64 a0_2, .int .i64 a0_3, .int .i64 a0_4, .int .i64 a0_5]) (t := 61) rfl ?_; intro gb264 hg w24 hbox hb; have n0_ := mk0 (below_step z4_1 hb); have n1_ := mk0 (hbox); have GW264 := mk0 (ge_go (a := w.heap.size) hg (below_size z4_1)); have GE264 := GW264; clear HB; have HB := n0_; have BK264 := n1_; clear n0_ n1_ ; clear hb hbox hg) | ((with_reducible refine gate_dst (N := 3) rfl ?_); refine boxz (cs := #[.int .i64 a1_0, .int .i64 a1_1, .int .i64 a1_2, .int .i64 a1_3, .int .i64 a1_4, .int .i64 a1_5]) (t := 61) rfl ?_; intro gb265 hg w25 hbox hb; have n0_ := mk0 (blk_belowB BK264 (pkb BK264) hb); have n1_ := mk0 (below_step z4_3 hb); have n2_ := mk0 (hbox); have GW265 := mk0 (ge_go (a := w.heap.size) hg (below_size z4_3)); have GE265 := GW265; have NB264_265 := mk0 (nb_lt hg (blk_ltB BK264 (pkb BK264))); have NB265_264 := mk0 (nb_gt hg (blk_ltB BK264 (pkb BK264))); clear BK264 HB; have BK264 := n0_; have HB := n1_; have BK265 := n2_; clear n0_ n1_ n2_ ; clear hb hbox hg; have hnb26 := NB264_265.out; have hnc26 := NB265_264.out; obtain ⟨_, _, _, _, _, _, _, _, _, _, _, _⟩ := be_6 BK264.out; obtain ⟨_, _, _, _, _, _, _, _, _, _, _, _⟩ := be_6 BK265.out))
  go_ret
  exact ⟨z4_6, z4_9⟩
 rw [if_pos c6] at H
 have c6b0 : (a0_3 == a1_3) = true := beq_iff_eq.mpr c6
 have c6b1 : (a0_3 != a1_3) = false := bne_eq_false_iff_eq.mpr c6
 clear c6
 by_cases c7 : a0_4 = a1_4
 rotate_left
 ·rw [if_neg c7] at H
  have c7b0 : (a0_4 == a1_4) = false := beq_eq_false_iff_ne.mpr c7
  have c7b1 : (a0_4 != a1_4) = true := bne_iff_ne.mpr c7
  obtain rfl := Option.some.inj H
  simp only [Option.some.injEq, Prod.mk.injEq] at H
  obtain ⟨rfl⟩ := H
  go_enter Try.func104, Try.ntmps104
  go_wp2_with (first | ((with_reducible refine gate_dst (N := 2) rfl ?_); refine boxz (cs := #[.int .i64 a0_0, .int .i64 a0_1, .int .i64 a0_2, .int .i64 a0_3, .int .i64 a0_4, .int .i64 a0_5]) (t := 61) rfl ?_; intro gb264 hg w19 hbox hb; have n0_ := mk0 (below_step z4_1 hb); have n1_ := mk0 (hbox); have GW264 := mk0 (ge_go (a := w.heap.size) hg (below_size z4_1)); have GE264 := GW264; clear HB; have HB := n0_; have BK264 := n1_; clear n0_ n1_ ; clear hb hbox hg) | ((with_reducible refine gate_dst (N := 3) rfl ?_); refine boxz (cs := #[.int .i64 a1_0, .int .i64 a1_1, .int .i64 a1_2, .int .i64 a1_3, .int .i64 a1_4, .int .i64 a1_5]) (t := 61) rfl ?_; intro gb265 hg w20 hbox hb; have n0_ := mk0 (blk_belowB BK264 (pkb BK264) hb); have n1_ := mk0 (below_step z4_3 hb); have n2_ := mk0 (hbox); have GW265 := mk0 (ge_go (a := w.heap.size) hg (below_size z4_3)); have GE265 := GW265; have NB264_265 := mk0 (nb_lt hg (blk_ltB BK264 (pkb BK264))); have NB265_264 := mk0 (nb_gt hg (blk_ltB BK264 (pkb BK264))); clear BK264 HB; have BK264 := n0_; have HB := n1_; have BK265 := n2_; clear n0_ n1_ n2_ ; clear hb hbox hg; have hnb21 := NB264_265.out; have hnc21 := NB265_264.out; obtain ⟨_, _, _, _, _, _, _, _, _, _, _, _⟩ := be_6 BK264.out; obtain ⟨_, _, _, _, _, _, _, _, _, _, _, _⟩ := be_6 BK265.out))
  go_ret
  exact ⟨z4_6, z4_9⟩
 rw [if_pos c7] at H
 have c7b0 : (a0_4 == a1_4) = true := beq_iff_eq.mpr c7
 have c7b1 : (a0_4 != a1_4) = false := bne_eq_false_iff_eq.mpr c7
 clear c7
 by_cases c8 : a0_5 = a1_5
 rotate_left
 ·rw [if_neg c8] at H
  have c8b0 : (a0_5 == a1_5) = false := beq_eq_false_iff_ne.mpr c8
  have c8b1 : (a0_5 != a1_5) = true := bne_iff_ne.mpr c8
  obtain rfl := Option.some.inj H
  simp only [Option.some.injEq, Prod.mk.injEq] at H
  obtain ⟨rfl⟩ := H
  go_enter Try.func104, Try.ntmps104
  go_wp2_with (first | ((with_reducible refine gate_dst (N := 2) rfl ?_); refine boxz (cs := #[.int .i64 a0_0, .int .i64 a0_1, .int .i64 a0_2, .int .i64 a0_3, .int .i64 a0_4, .int .i64 a0_5]) (t := 61) rfl ?_; intro gb264 hg w14 hbox hb; have n0_ := mk0 (below_step z4_1 hb); have n1_ := mk0 (hbox); have GW264 := mk0 (ge_go (a := w.heap.size) hg (below_size z4_1)); have GE264 := GW264; clear HB; have HB := n0_; have BK264 := n1_; clear n0_ n1_ ; clear hb hbox hg) | ((with_reducible refine gate_dst (N := 3) rfl ?_); refine boxz (cs := #[.int .i64 a1_0, .int .i64 a1_1, .int .i64 a1_2, .int .i64 a1_3, .int .i64 a1_4, .int .i64 a1_5]) (t := 61) rfl ?_; intro gb265 hg w15 hbox hb; have n0_ := mk0 (blk_belowB BK264 (pkb BK264) hb); have n1_ := mk0 (below_step z4_3 hb); have n2_ := mk0 (hbox); have GW265 := mk0 (ge_go (a := w.heap.size) hg (below_size z4_3)); have GE265 := GW265; have NB264_265 := mk0 (nb_lt hg (blk_ltB BK264 (pkb BK264))); have NB265_264 := mk0 (nb_gt hg (blk_ltB BK264 (pkb BK264))); clear BK264 HB; have BK264 := n0_; have HB := n1_; have BK265 := n2_; clear n0_ n1_ n2_ ; clear hb hbox hg; have hnb16 := NB264_265.out; have hnc16 := NB265_264.out; obtain ⟨_, _, _, _, _, _, _, _, _, _, _, _⟩ := be_6 BK264.out; obtain ⟨_, _, _, _, _, _, _, _, _, _, _, _⟩ := be_6 BK265.out))
  go_ret
  exact ⟨z4_6, z4_9⟩
 rw [if_pos c8] at H
 have c8b0 : (a0_5 == a1_5) = true := beq_iff_eq.mpr c8
 have c8b1 : (a0_5 != a1_5) = false := bne_eq_false_iff_eq.mpr c8
 clear c8
 obtain rfl := Option.some.inj H
 simp only [Option.some.injEq, Prod.mk.injEq] at H
 obtain ⟨rfl⟩ := H
 go_enter Try.func104, Try.ntmps104
 go_wp2_with (first | ((with_reducible refine gate_dst (N := 2) rfl ?_); refine boxz (cs := #[.int .i64 a0_0, .int .i64 a0_1, .int .i64 a0_2, .int .i64 a0_3, .int .i64 a0_4, .int .i64 a0_5]) (t := 61) rfl ?_; intro gb264 hg w9 hbox hb; have n0_ := mk0 (below_step z4_1 hb); have n1_ := mk0 (hbox); have GW264 := mk0 (ge_go (a := w.heap.size) hg (below_size z4_1)); have GE264 := GW264; clear HB; have HB := n0_; have BK264 := n1_; clear n0_ n1_ ; clear hb hbox hg) | ((with_reducible refine gate_dst (N := 3) rfl ?_); refine boxz (cs := #[.int .i64 a1_0, .int .i64 a1_1, .int .i64 a1_2, .int .i64 a1_3, .int .i64 a1_4, .int .i64 a1_5]) (t := 61) rfl ?_; intro gb265 hg w10 hbox hb; have n0_ := mk0 (blk_belowB BK264 (pkb BK264) hb); have n1_ := mk0 (below_step z4_3 hb); have n2_ := mk0 (hbox); have GW265 := mk0 (ge_go (a := w.heap.size) hg (below_size z4_3)); have GE265 := GW265; have NB264_265 := mk0 (nb_lt hg (blk_ltB BK264 (pkb BK264))); have NB265_264 := mk0 (nb_gt hg (blk_ltB BK264 (pkb BK264))); clear BK264 HB; have BK264 := n0_; have HB := n1_; have BK265 := n2_; clear n0_ n1_ n2_ ; clear hb hbox hg; have hnb11 := NB264_265.out; have hnc11 := NB265_264.out; obtain ⟨_, _, _, _, _, _, _, _, _, _, _, _⟩ := be_6 BK264.out; obtain ⟨_, _, _, _, _, _, _, _, _, _, _, _⟩ := be_6 BK265.out))
 go_ret
 exact ⟨z4_6, z4_9⟩

/-! ### laws_eqPoint: function 64 -/
def laws_eqPoint.f (a0_0 : Int) (a0_1 : Int) (a1_0 : Int) (a1_1 : Int) : Option (Bool) := if a0_0 = a1_0 then (if a0_1 = a1_1 then (some true) else (some false)) else (some false)
set_option maxHeartbeats 8000000 in
set_option maxRecDepth 100000 in
theorem laws_eqPoint.calls (a0_0 : Int) (a0_1 : Int) (a1_0 : Int) (a1_1 : Int) (r : Bool) (w : World) (h : laws_eqPoint.f a0_0 a0_1 a1_0 a1_1 = some r) :
  Calls Try.prog 64 #[.agg #[.int .i64 a0_0, .int .i64 a0_1], .agg #[.int .i64 a1_0, .int .i64 a1_1]] w fun e w' => e = .returned (.bool r) ∧ Below w.heap.size w w' := by
 have hu29 := Try.underlying29
 have HB := mk0 (Below.refl w.heap.size w)
 have H : (if a0_0 = a1_0 then (if a0_1 = a1_1 then (some true) else (some false)) else (some false)) = some r := h
 clear h
 by_cases c3 : a0_0 = a1_0
 rotate_left
 ·rw [if_neg c3] at H
  have c3b0 : (a0_0 == a1_0) = false := beq_eq_false_iff_ne.mpr c3
  have c3b1 : (a0_0 != a1_0) = true := bne_iff_ne.mpr c3
  obtain rfl := Option.some.inj H
  simp only [Option.some.injEq, Prod.mk.injEq] at H
  obtain ⟨rfl⟩ := H
  go_enter Try.func64, Try.ntmps64
  go_wp2_with (first | ((with_reducible refine gate_dst (N := 2) rfl ?_); refine boxz (cs := #[.int .i64 a0_0, .int .i64 a0_1]) (t := 29) rfl ?_; intro gb266 hg w15 hbox hb; have n0_ := mk0 (below_step z4_1 hb); have n1_ := mk0 (hbox); have GW266 := mk0 (ge_go (a := w.heap.size) hg (below_size z4_1)); have GE266 := GW266; clear HB; have HB := n0_; have BK266 := n1_; clear n0_ n1_ ; clear hb hbox hg) | ((with_reducible refine gate_dst (N := 3) rfl ?_); refine boxz (cs := #[.int .i64 a1_0, .int .i64 a1_1]) (t := 29) rfl ?_; intro gb267 hg w16 hbox hb; have n0_ := mk0 (blk_belowB BK266 (pkb BK266) hb); have n1_ := mk0 (below_step z4_7 hb); have n2_ := mk0 (hbox); have GW267 := mk0 (ge_go (a := w.heap.size) hg (below_size z4_7)); have GE267 := GW267; have NB266_267 := mk0 (nb_lt hg (blk_ltB BK266 (pkb BK266))); have NB267_266 := mk0 (nb_gt hg (blk_ltB BK266 (pkb BK266))); clear BK266 HB; have BK266 := n0_; have HB := n1_; have BK267 := n2_; clear n0_ n1_ n2_ ; clear hb hbox hg; have hnb17 := NB266_267.out; have hnc17 := NB267_266.out; obtain ⟨_, _, _, _⟩ := be_2 BK266.out; obtain ⟨_, _, _, _⟩ := be_2 BK267.out))
  go_ret
  exact ⟨z4_6, z4_14⟩
 rw [if_pos c3] at H
 have c3b0 : (a0_0 == a1_0) = true := beq_iff_eq.mpr c3
 have c3b1 : (a0_0 != a1_0) = false := bne_eq_false_iff_eq.mpr c3
 clear c3
 by_cases c4 : a0_1 = a1_1
 rotate_left
 ·rw [if_neg c4] at H
  have c4b0 : (a0_1 == a1_1) = false := beq_eq_false_iff_ne.mpr c4
  have c4b1 : (a0_1 != a1_1) = true := bne_iff_ne.mpr c4
  obtain rfl := Option.some.inj H
  simp only [Option.some.injEq, Prod.mk.injEq] at H
  obtain ⟨rfl⟩ := H
  go_enter Try.func64, Try.ntmps64
  go_wp2_with (first | ((with_reducible refine gate_dst (N := 2) rfl ?_); refine boxz (cs := #[.int .i64 a0_0, .int .i64 a0_1]) (t := 29) rfl ?_; intro gb266 hg w10 hbox hb; have n0_ := mk0 (below_step z4_1 hb); have n1_ := mk0 (hbox); have GW266 := mk0 (ge_go (a := w.heap.size) hg (below_size z4_1)); have GE266 := GW266; clear HB; have HB := n0_; have BK266 := n1_; clear n0_ n1_ ; clear hb hbox hg) | ((with_reducible refine gate_dst (N := 3) rfl ?_); refine boxz (cs := #[.int .i64 a1_0, .int .i64 a1_1]) (t := 29) rfl ?_; intro gb267 hg w11 hbox hb; have n0_ := mk0 (blk_belowB BK266 (pkb BK266) hb); have n1_ := mk0 (below_step z4_7 hb); have n2_ := mk0 (hbox); have GW267 := mk0 (ge_go (a := w.heap.size) hg (below_size z4_7)); have GE267 := GW267; have NB266_267 := mk0 (nb_lt hg (blk_ltB BK266 (pkb BK266))); have NB267_266 := mk0 (nb_gt hg (blk_ltB BK266 (pkb BK266))); clear BK266 HB; have BK266 := n0_; have HB := n1_; have BK267 := n2_; clear n0_ n1_ n2_ ; clear hb hbox hg; have hnb12 := NB266_267.out; have hnc12 := NB267_266.out; obtain ⟨_, _, _, _⟩ := be_2 BK266.out; obtain ⟨_, _, _, _⟩ := be_2 BK267.out))
  go_ret
  exact ⟨z4_6, z4_14⟩
 rw [if_pos c4] at H
 have c4b0 : (a0_1 == a1_1) = true := beq_iff_eq.mpr c4
 have c4b1 : (a0_1 != a1_1) = false := bne_eq_false_iff_eq.mpr c4
 clear c4
 obtain rfl := Option.some.inj H
 simp only [Option.some.injEq, Prod.mk.injEq] at H
 obtain ⟨rfl⟩ := H
 go_enter Try.func64, Try.ntmps64
 go_wp2_with (first | ((with_reducible refine gate_dst (N := 2) rfl ?_); refine boxz (cs := #[.int .i64 a0_0, .int .i64 a0_1]) (t := 29) rfl ?_; intro gb266 hg w5 hbox hb; have n0_ := mk0 (below_step z4_1 hb); have n1_ := mk0 (hbox); have GW266 := mk0 (ge_go (a := w.heap.size) hg (below_size z4_1)); have GE266 := GW266; clear HB; have HB := n0_; have BK266 := n1_; clear n0_ n1_ ; clear hb hbox hg) | ((with_reducible refine gate_dst (N := 3) rfl ?_); refine boxz (cs := #[.int .i64 a1_0, .int .i64 a1_1]) (t := 29) rfl ?_; intro gb267 hg w6 hbox hb; have n0_ := mk0 (blk_belowB BK266 (pkb BK266) hb); have n1_ := mk0 (below_step z4_7 hb); have n2_ := mk0 (hbox); have GW267 := mk0 (ge_go (a := w.heap.size) hg (below_size z4_7)); have GE267 := GW267; have NB266_267 := mk0 (nb_lt hg (blk_ltB BK266 (pkb BK266))); have NB267_266 := mk0 (nb_gt hg (blk_ltB BK266 (pkb BK266))); clear BK266 HB; have BK266 := n0_; have HB := n1_; have BK267 := n2_; clear n0_ n1_ n2_ ; clear hb hbox hg; have hnb7 := NB266_267.out; have hnc7 := NB267_266.out; obtain ⟨_, _, _, _⟩ := be_2 BK266.out; obtain ⟨_, _, _, _⟩ := be_2 BK267.out))
 go_ret
 exact ⟨z4_6, z4_14⟩

/-! ### laws_eqPointS: function 23 -/
def laws_eqPointS.l0 : Nat → List (S29) → List (S29) → Int → Option (Bool)
 | 0, _, _, _ => none
 | k + 1, x0, x1, x5 => if x5 < (x0.length : Int) then (if 0 ≤ x5 then (if x5 < (x1.length : Int) then ((laws_eqPoint.f ((rd_T29 x0 x5).f0) ((rd_T29 x0 x5).f1) ((rd_T29 x1 x5).f0) ((rd_T29 x1 x5).f1)).bind fun t270 => (if t270 = true then (laws_eqPointS.l0 k x0 x1 (wrap64 (x5 + 1))) else (some false))) else (none)) else (none)) else (some true)
def laws_eqPointS.f (k : Nat) (l0 : List (S29)) (l1 : List (S29)) : Option (Bool) := if (l0.length : Int) = (l1.length : Int) then (laws_eqPointS.l0 k l0 l1 0) else (some false)
theorem laws_eqPointS.mono_l : ∀ k, (∀ y0 y1 y2, LeO (laws_eqPointS.l0 k y0 y1 y2) (laws_eqPointS.l0 (k + 1) y0 y1 y2))
 | 0 => fun _ _ _ r h => by simp [laws_eqPointS.l0] at h
 | k + 1 => by
  have ih0 := laws_eqPointS.mono_l k
  ·intro y0 y1 y2
   unfold laws_eqPointS.l0
   repeat' first
   | (with_reducible exact ih0 _ _ _)
   | (with_reducible exact LeO.refl _)
   | (with_reducible exact LeO.none _)
   | (with_reducible refine LeO.ite ?_ ?_)
   | (with_reducible refine LeO.bind ?_ (fun _ => ?_))
theorem laws_eqPointS.mono : ∀ a0 a1 k, LeO (laws_eqPointS.f k a0 a1) (laws_eqPointS.f (k + 1) a0 a1) := by
 intro a0 a1 k
 have ih0 := laws_eqPointS.mono_l k
 unfold laws_eqPointS.f
 repeat' first
   | (with_reducible exact ih0 _ _ _)
   | (with_reducible exact LeO.refl _)
   | (with_reducible exact LeO.none _)
   | (with_reducible refine LeO.ite ?_ ?_)
   | (with_reducible refine LeO.bind ?_ (fun _ => ?_))
def laws_eqPointS.T6 : Bool × List (List Nat × List Nat) := (true, [([], []), ([], []), ([0, 1], [0, 1]), ([2], [2]), ([], []), ([], []), ([4, 5], [4, 5]), ([6], [6]), ([3, 7], [3, 7]), ([8], [8])])
def laws_eqPointS.B6 : List Nat := [0, 0, 3, 7, 0, 0, 48, 112, 255, 511]
theorem laws_eqPointS.tab6 : rtab .any (opsOf Try.f23 6) = laws_eqPointS.T6 := by kernel_rfl
theorem laws_eqPointS.bits6 : waitsOk laws_eqPointS.T6.2 laws_eqPointS.B6 = true := by kernel_rfl
set_option maxHeartbeats 8000000 in
set_option maxRecDepth 100000 in
theorem laws_eqPointS.calls (k : Nat) (A0 : Option Addr) (c0 : Nat) (l0 : List (S29)) (A1 : Option Addr) (c1 : Nat) (l1 : List (S29)) (r : Bool) (w : World) (hr0 : Kd.C k29 w A0 l0.length l0) (hc0 : l0.length ≤ c0) (hr1 : Kd.C k29 w A1 l1.length l1) (hc1 : l1.length ≤ c1) (h : laws_eqPointS.f k l0 l1 = some r) :
  Calls Try.prog 23 #[.slice A0 l0.length c0, .slice A1 l1.length c1] w fun e w' => e = .returned (.bool r) ∧ Below w.heap.size w w' := by
 have hu29 := Try.underlying29
 have HR0 := mk0 hr0
 have HC0 := mk0 hc0
 clear hr0 hc0
 have HR1 := mk0 hr1
 have HC1 := mk0 hc1
 clear hr1 hc1
 have HB := mk0 (Below.refl w.heap.size w)
 have H : (if (l0.length : Int) = (l1.length : Int) then (laws_eqPointS.l0 k l0 l1 0) else (some false)) = some r := h
 clear h
 by_cases c3 : (l0.length : Int) = (l1.length : Int)
 rotate_left
 ·rw [if_neg c3] at H
  have c3b0 : ((l0.length : Int) == (l1.length : Int)) = false := beq_eq_false_iff_ne.mpr c3
  have c3b1 : ((l0.length : Int) != (l1.length : Int)) = true := bne_iff_ne.mpr c3
  have c3b2 : (l0.length == l1.length) = false := by first | simpa using c3 | (simp at c3 ⊢; omega)
  obtain rfl := Option.some.inj H
  simp only [Option.some.injEq, Prod.mk.injEq] at H
  obtain ⟨rfl⟩ := H
  go_enter Try.func23, Try.ntmps23
  go_wp2
  go_ret
  exact ⟨z4_6, z4_1⟩
 rw [if_pos c3] at H
 have c3b0 : ((l0.length : Int) == (l1.length : Int)) = true := beq_iff_eq.mpr c3
 have c3b1 : ((l0.length : Int) != (l1.length : Int)) = false := bne_eq_false_iff_eq.mpr c3
 have c3b2 : (l0.length == l1.length) = true := by first | simpa using c3 | (simp at c3 ⊢; omega)
 clear c3
 have H' := mk0 H
 clear H
 go_enter Try.func23, Try.ntmps23
 go_wp2
 go_loopg [5] k (fun kq v5 w' => ∃ (x5_1 : Int), v5 = .int .i64 x5_1 ∧ Aside0 (laws_eqPointS.l0 kq l0 l1 x5_1 = some r) ∧ Aside0 (kq ≤ k) ∧ Aside0 (Below w.heap.size w w'))
 case atStart => exact ⟨(0), rs0, H', ⟨Nat.le_refl _⟩, ⟨z4_1⟩⟩
 case round =>
  clear H'
  try clear c1
  try clear c2
  try clear p2
  try clear c3
  try clear c3b0
  try clear c3b1
  try clear c3b2
  obtain ⟨x5_1, rfl, HA, HK1, HB⟩ := hrel
  cases gk with
  | zero => exact absurd HA.out (by simp [laws_eqPointS.l0])
  | succ k1 =>
   have H := HA.out; clear HA
   simp only [laws_eqPointS.l0] at H
   by_cases c4 : x5_1 < (l0.length : Int)
   rotate_left
   ·rw [if_neg c4] at H
    have c4b0 := decide_eq_false c4
    clear c4
    obtain rfl := Option.some.inj H
    simp only [Option.some.injEq, Prod.mk.injEq] at H
    obtain ⟨rfl⟩ := H
    go_wp2
    go_ret
    exact ⟨z4_6, z4_1⟩
   rw [if_pos c4] at H
   have c4b0 := decide_eq_true c4
   clear c4
   by_cases c5 : 0 ≤ x5_1
   rotate_left
   ·rw [if_neg c5] at H
    exact absurd H (by simp)
   rw [if_pos c5] at H
   have c5b0 := decide_eq_true c5
   clear c5
   by_cases c6 : x5_1 < (l1.length : Int)
   rotate_left
   ·rw [if_neg c6] at H
    exact absurd H (by simp)
   rw [if_pos c6] at H
   have c6b0 := decide_eq_true c6
   clear c6
   replace H := Option.bind_eq_some_iff.mp H
   obtain ⟨t270, A70, H⟩ := H
   try dsimp only at H
   have A7 := mk0 A70
   clear A70
   by_cases c8 : t270 = true
   ·subst c8
    rw [if_pos rfl] at H
    have H' := mk0 H
    clear H
    try go_wp2
    have n0_ := mk0 (below_drew1 HB.out)
    clear HB; have HB := n0_; clear n0_
    have p268 : 0 ≤ (x5_1 : Int) := of_decide_eq_true (by first | (with_reducible assumption) | assumption)
    have q268 : x5_1 < (l0.length : Int) := of_decide_eq_true (by first | (with_reducible assumption) | assumption)
    obtain ⟨ad268, e268, hx268_0, hx268_1⟩ := at_T29 HR0.out x5_1 p268 q268
    have hw268_1 := hx268_1; have hw268_0 := hx268_0
    cases e268
    replace hx268_0 := cell_go HB hx268_0
    replace hx268_1 := cell_go HB hx268_1
    replace p268 := eq_true p268
    replace q268 := eq_true q268
    have p269 : 0 ≤ (x5_1 : Int) := of_decide_eq_true (by first | (with_reducible assumption) | assumption)
    have q269 : x5_1 < (l1.length : Int) := of_decide_eq_true (by first | (with_reducible assumption) | assumption)
    obtain ⟨ad269, e269, hx269_0, hx269_1⟩ := at_T29 HR1.out x5_1 p269 q269
    have hw269_1 := hx269_1; have hw269_0 := hx269_0
    cases e269
    replace hx269_0 := cell_go HB hx269_0
    replace hx269_1 := cell_go HB hx269_1
    replace p269 := eq_true p269
    replace q269 := eq_true q269
    refine start_ (n := 10) (S := fun w' => w'.cell? (ad268.add ((x5_1).toNat * 2)) = some (.int .i64 ((rd_T29 l0 x5_1).f0)) ∧ w'.cell? ⟨(ad268.add ((x5_1).toNat * 2)).block, (ad268.add ((x5_1).toNat * 2)).off + 1, none⟩ = some (.int .i64 ((rd_T29 l0 x5_1).f1)) ∧ w'.cell? (ad269.add ((x5_1).toNat * 2)) = some (.int .i64 ((rd_T29 l1 x5_1).f0)) ∧ w'.cell? ⟨(ad269.add ((x5_1).toNat * 2)).block, (ad269.add ((x5_1).toNat * 2)).off + 1, none⟩ = some (.int .i64 ((rd_T29 l1 x5_1).f1))) (ds := []) #[false, false, false, false, false, false, false, false, false, false] (by kernel_rfl) rfl rfl ⟨((HB.out.cell (World.block_lt_of_cell? w _ hw268_0)).trans hw268_0), ((HB.out.cell (World.block_lt_of_cell? w _ hw268_1)).trans hw268_1), ((HB.out.cell (World.block_lt_of_cell? w _ hw269_0)).trans hw269_0), ((HB.out.cell (World.block_lt_of_cell? w _ hw269_1)).trans hw269_1)⟩ (fun hHeld => ?_); refine with_tabW laws_eqPointS.tab6 laws_eqPointS.bits6 (fun HT_ HW_ => ?_)
    generalize wr.drew = w9 at HB hx268_0 hx268_1 hx269_0 hx269_1 hHeld ⊢
    refine pzv (i := 0) (N := 17) (v := ?_) (a' := ?_) (bA 10 1) HT_ ?_ ?_ ?_
    rotate_left
    ·intro w'
     go_simp; with_reducible rfl
    rotate_left
    ·exact x4_put
    refine pzv (i := 1) (N := 18) (v := ?_) (a' := ?_) (bA 10 3) HT_ ?_ ?_ ?_
    rotate_left
    ·intro w'
     go_simp; with_reducible rfl
    rotate_left
    ·exact x4_put
    refine pzv (i := 2) (N := 19) (v := ?_) (a' := ?_) (bA 10 7) HT_ ?_ ?_ ?_
    rotate_left
    ·intro w'
     go_simp; with_reducible rfl
    rotate_left
    ·exact x4_put
    refine pzv (i := 4) (N := 21) (v := ?_) (a' := ?_) (bA 10 23) HT_ ?_ ?_ ?_
    rotate_left
    ·intro w'
     go_simp; with_reducible rfl
    rotate_left
    ·exact x4_put
    refine pzv (i := 5) (N := 22) (v := ?_) (a' := ?_) (bA 10 55) HT_ ?_ ?_ ?_
    rotate_left
    ·intro w'
     go_simp; with_reducible rfl
    rotate_left
    ·exact x4_put
    refine pzv (i := 6) (N := 23) (v := ?_) (a' := ?_) (bA 10 119) HT_ ?_ ?_ ?_
    rotate_left
    ·intro w'
     go_simp; with_reducible rfl
    rotate_left
    ·exact x4_put
    refine take_ (i := 3) (N := some 20) (v := ?_) (a' := ?_) (bA 10 127) rfl rfl (take_ofW HT_.out HW_.out (by kernel_rfl)) (fun _ _ _ h => h) (Or.inl ⟨by rfl, ?_⟩) hHeld ?_ ?_
    rotate_left
    ·rintro w' ⟨s0, s1, s2, s3⟩
     go_simp; with_reducible rfl
    rotate_left
    ·exact x4_put
    refine take_ (i := 7) (N := some 24) (v := ?_) (a' := ?_) (bA 10 255) rfl rfl (take_ofW HT_.out HW_.out (by kernel_rfl)) (fun _ _ _ h => h) (Or.inl ⟨by rfl, ?_⟩) hHeld ?_ ?_
    rotate_left
    ·rintro w' ⟨s0, s1, s2, s3⟩
     go_simp; with_reducible rfl
    rotate_left
    ·exact x4_put
    refine one_ (i := 8) (N := some 25) (bA 10 511) rfl rfl (one_of HT_.out (by kernel_rfl)) (by decide) (fun K hK => ?_)
    refine goes_ Try.func64 (by kernel_rfl) rfl #[.agg #[.int .i64 ((rd_T29 l0 x5_1).f0), .int .i64 ((rd_T29 l0 x5_1).f1)], .agg #[.int .i64 ((rd_T29 l1 x5_1).f0), .int .i64 ((rd_T29 l1 x5_1).f1)]] (by rfl) rfl rfl z4_11 ?_
    with_reducible refine (laws_eqPoint.calls ((rd_T29 l0 x5_1).f0) ((rd_T29 l0 x5_1).f1) ((rd_T29 l1 x5_1).f0) ((rd_T29 l1 x5_1).f1) true _ A7.out).mono ?_
    rintro e w10 ⟨rfl, hb⟩
    refine ⟨_, rfl, ?_⟩
    have n0_ := mk0 (below_step z4_1 hb)
    clear HB; have HB := n0_; clear n0_; (try clear hb); (try clear hb2); (try clear hk); (try clear hi)
    refine hK.out _ _ ⟨((HB.out.cell (World.block_lt_of_cell? w _ hw268_0)).trans hw268_0), ((HB.out.cell (World.block_lt_of_cell? w _ hw268_1)).trans hw268_1), ((HB.out.cell (World.block_lt_of_cell? w _ hw269_0)).trans hw269_0), ((HB.out.cell (World.block_lt_of_cell? w _ hw269_1)).trans hw269_1)⟩ (fun hHeld => ?_)
    clear hK K
    refine norm_ (a' := ?_) ?_ ?_
    rotate_left
    ·show Act.put _ (some 25) _ = _
     simp only [Act.put, List.setIfInBounds_toArray, List.set_cons_zero, List.set_cons_succ, i64_w, i32_w]
     rfl
    refine pzv (i := 9) (N := 26) (v := ?_) (a' := ?_) (bA 10 1023) HT_ ?_ ?_ ?_
    rotate_left
    ·intro w'
     go_simp; with_reducible rfl
    rotate_left
    ·exact x4_put
    refine done_ (done_of HT_.out (by kernel_rfl)) ?_
    try go_wp2
    go_roundg k1
    case measure => have := HK1.out; omega
    case rel => exact ⟨(wrap64 (x5_1 + 1)), rs0, H', ⟨(by have := HK1.out; omega)⟩, ⟨z4_1⟩⟩
   replace c8 := Bool.eq_false_iff.mpr c8
   subst c8
   rw [if_neg (show ¬ (false = true) by decide)] at H
   obtain rfl := Option.some.inj H
   simp only [Option.some.injEq, Prod.mk.injEq] at H
   obtain ⟨rfl⟩ := H
   try go_wp2
   have n0_ := mk0 (below_drew1 HB.out)
   clear HB; have HB := n0_; clear n0_
   have p268 : 0 ≤ (x5_1 : Int) := of_decide_eq_true (by first | (with_reducible assumption) | assumption)
   have q268 : x5_1 < (l0.length : Int) := of_decide_eq_true (by first | (with_reducible assumption) | assumption)
   obtain ⟨ad268, e268, hx268_0, hx268_1⟩ := at_T29 HR0.out x5_1 p268 q268
   have hw268_1 := hx268_1; have hw268_0 := hx268_0
   cases e268
   replace hx268_0 := cell_go HB hx268_0
   replace hx268_1 := cell_go HB hx268_1
   replace p268 := eq_true p268
   replace q268 := eq_true q268
   have p269 : 0 ≤ (x5_1 : Int) := of_decide_eq_true (by first | (with_reducible assumption) | assumption)
   have q269 : x5_1 < (l1.length : Int) := of_decide_eq_true (by first | (with_reducible assumption) | assumption)
   obtain ⟨ad269, e269, hx269_0, hx269_1⟩ := at_T29 HR1.out x5_1 p269 q269
   have hw269_1 := hx269_1; have hw269_0 := hx269_0
   cases e269
   replace hx269_0 := cell_go HB hx269_0
   replace hx269_1 := cell_go HB hx269_1
   replace p269 := eq_true p269
   replace q269 := eq_true q269
   refine start_ (n := 10) (S := fun w' => w'.cell? (ad268.add ((x5_1).toNat * 2)) = some (.int .i64 ((rd_T29 l0 x5_1).f0)) ∧ w'.cell? ⟨(ad268.add ((x5_1).toNat * 2)).block, (ad268.add ((x5_1).toNat * 2)).off + 1, none⟩ = some (.int .i64 ((rd_T29 l0 x5_1).f1)) ∧ w'.cell? (ad269.add ((x5_1).toNat * 2)) = some (.int .i64 ((rd_T29 l1 x5_1).f0)) ∧ w'.cell? ⟨(ad269.add ((x5_1).toNat * 2)).block, (ad269.add ((x5_1).toNat * 2)).off + 1, none⟩ = some (.int .i64 ((rd_T29 l1 x5_1).f1))) (ds := []) #[false, false, false, false, false, false, false, false, false, false] (by kernel_rfl) rfl rfl ⟨((HB.out.cell (World.block_lt_of_cell? w _ hw268_0)).trans hw268_0), ((HB.out.cell (World.block_lt_of_cell? w _ hw268_1)).trans hw268_1), ((HB.out.cell (World.block_lt_of_cell? w _ hw269_0)).trans hw269_0), ((HB.out.cell (World.block_lt_of_cell? w _ hw269_1)).trans hw269_1)⟩ (fun hHeld => ?_); refine with_tabW laws_eqPointS.tab6 laws_eqPointS.bits6 (fun HT_ HW_ => ?_)
   generalize wr.drew = w11 at HB hx268_0 hx268_1 hx269_0 hx269_1 hHeld ⊢
   refine pzv (i := 0) (N := 17) (v := ?_) (a' := ?_) (bA 10 1) HT_ ?_ ?_ ?_
   rotate_left
   ·intro w'
    go_simp; with_reducible rfl
   rotate_left
   ·exact x4_put
   refine pzv (i := 1) (N := 18) (v := ?_) (a' := ?_) (bA 10 3) HT_ ?_ ?_ ?_
   rotate_left
   ·intro w'
    go_simp; with_reducible rfl
   rotate_left
   ·exact x4_put
   refine pzv (i := 2) (N := 19) (v := ?_) (a' := ?_) (bA 10 7) HT_ ?_ ?_ ?_
   rotate_left
   ·intro w'
    go_simp; with_reducible rfl
   rotate_left
   ·exact x4_put
   refine pzv (i := 4) (N := 21) (v := ?_) (a' := ?_) (bA 10 23) HT_ ?_ ?_ ?_
   rotate_left
   ·intro w'
    go_simp; with_reducible rfl
   rotate_left
   ·exact x4_put
   refine pzv (i := 5) (N := 22) (v := ?_) (a' := ?_) (bA 10 55) HT_ ?_ ?_ ?_
   rotate_left
   ·intro w'
    go_simp; with_reducible rfl
   rotate_left
   ·exact x4_put
   refine pzv (i := 6) (N := 23) (v := ?_) (a' := ?_) (bA 10 119) HT_ ?_ ?_ ?_
   rotate_left
   ·intro w'
    go_simp; with_reducible rfl
   rotate_left
   ·exact x4_put
   refine take_ (i := 3) (N := some 20) (v := ?_) (a' := ?_) (bA 10 127) rfl rfl (take_ofW HT_.out HW_.out (by kernel_rfl)) (fun _ _ _ h => h) (Or.inl ⟨by rfl, ?_⟩) hHeld ?_ ?_
   rotate_left
   ·rintro w' ⟨s0, s1, s2, s3⟩
    go_simp; with_reducible rfl
   rotate_left
   ·exact x4_put
   refine take_ (i := 7) (N := some 24) (v := ?_) (a' := ?_) (bA 10 255) rfl rfl (take_ofW HT_.out HW_.out (by kernel_rfl)) (fun _ _ _ h => h) (Or.inl ⟨by rfl, ?_⟩) hHeld ?_ ?_
   rotate_left
   ·rintro w' ⟨s0, s1, s2, s3⟩
    go_simp; with_reducible rfl
   rotate_left
   ·exact x4_put
   refine one_ (i := 8) (N := some 25) (bA 10 511) rfl rfl (one_of HT_.out (by kernel_rfl)) (by decide) (fun K hK => ?_)
   refine goes_ Try.func64 (by kernel_rfl) rfl #[.agg #[.int .i64 ((rd_T29 l0 x5_1).f0), .int .i64 ((rd_T29 l0 x5_1).f1)], .agg #[.int .i64 ((rd_T29 l1 x5_1).f0), .int .i64 ((rd_T29 l1 x5_1).f1)]] (by rfl) rfl rfl z4_11 ?_
   with_reducible refine (laws_eqPoint.calls ((rd_T29 l0 x5_1).f0) ((rd_T29 l0 x5_1).f1) ((rd_T29 l1 x5_1).f0) ((rd_T29 l1 x5_1).f1) false _ A7.out).mono ?_
   rintro e w12 ⟨rfl, hb⟩
   refine ⟨_, rfl, ?_⟩
   have n0_ := mk0 (below_step z4_1 hb)
   clear HB; have HB := n0_; clear n0_; (try clear hb); (try clear hb2); (try clear hk); (try clear hi)
   refine hK.out _ _ ⟨((HB.out.cell (World.block_lt_of_cell? w _ hw268_0)).trans hw268_0), ((HB.out.cell (World.block_lt_of_cell? w _ hw268_1)).trans hw268_1), ((HB.out.cell (World.block_lt_of_cell? w _ hw269_0)).trans hw269_0), ((HB.out.cell (World.block_lt_of_cell? w _ hw269_1)).trans hw269_1)⟩ (fun hHeld => ?_)
   clear hK K
   refine norm_ (a' := ?_) ?_ ?_
   rotate_left
   ·show Act.put _ (some 25) _ = _
    simp only [Act.put, List.setIfInBounds_toArray, List.set_cons_zero, List.set_cons_succ, i64_w, i32_w]
    rfl
   refine pzv (i := 9) (N := 26) (v := ?_) (a' := ?_) (bA 10 1023) HT_ ?_ ?_ ?_
   rotate_left
   ·intro w'
    go_simp; with_reducible rfl
   rotate_left
   ·exact x4_put
   refine done_ (done_of HT_.out (by kernel_rfl)) ?_
   try go_wp2
   go_ret
   exact ⟨z4_6, z4_1⟩

/-! ### laws_eqPath: function 105 -/
def laws_eqPath.f (k : Nat) (l0_0 : List Int) (l0_1 : List (S29)) (l1_0 : List Int) (l1_1 : List (S29)) : Option (Bool) := (laws_eqIntS.f k l0_0 l1_0).bind fun t273 => (if t273 = true then ((laws_eqPointS.f k l0_1 l1_1).bind fun t274 => (if t274 = true then (some true) else (some false))) else (some false))
theorem laws_eqPath.mono : ∀ a0 a1 a2 a3 k, LeO (laws_eqPath.f k a0 a1 a2 a3) (laws_eqPath.f (k + 1) a0 a1 a2 a3) := by
 intro a0 a1 a2 a3 k
 unfold laws_eqPath.f
 repeat' first
   | (with_reducible exact laws_eqIntS.mono _ _ _)
   | (with_reducible exact laws_eqPointS.mono _ _ _)
   | (with_reducible exact LeO.refl _)
   | (with_reducible exact LeO.none _)
   | (with_reducible refine LeO.ite ?_ ?_)
   | (with_reducible refine LeO.bind ?_ (fun _ => ?_))
set_option maxHeartbeats 8000000 in
set_option maxRecDepth 100000 in
theorem laws_eqPath.calls (k : Nat) (A0_0 : Option Addr) (c0_0 : Nat) (l0_0 : List Int) (A0_1 : Option Addr) (c0_1 : Nat) (l0_1 : List (S29)) (A1_0 : Option Addr) (c1_0 : Nat) (l1_0 : List Int) (A1_1 : Option Addr) (c1_1 : Nat) (l1_1 : List (S29)) (r : Bool) (w : World) (hr0_0 : Kd.C (Kd.int .i64) w A0_0 l0_0.length l0_0) (hc0_0 : l0_0.length ≤ c0_0) (hr0_1 : Kd.C k29 w A0_1 l0_1.length l0_1) (hc0_1 : l0_1.length ≤ c0_1) (hr1_0 : Kd.C (Kd.int .i64) w A1_0 l1_0.length l1_0) (hc1_0 : l1_0.length ≤ c1_0) (hr1_1 : Kd.C k29 w A1_1 l1_1.length l1_1) (hc1_1 : l1_1.length ≤ c1_1) (h : laws_eqPath.f k l0_0 l0_1 l1_0 l1_1 = some r) :
  Calls Try.prog 105 #[.agg #[.slice A0_0 l0_0.length c0_0, .slice A0_1 l0_1.length c0_1], .agg #[.slice A1_0 l1_0.length c1_0, .slice A1_1 l1_1.length c1_1]] w fun e w' => e = .returned (.bool r) ∧ Below w.heap.size w w' := by
 have hu63 := Try.underlying63
 have HR0_0 := mk0 hr0_0
 have HC0_0 := mk0 hc0_0
 clear hr0_0 hc0_0
 have HR0_1 := mk0 hr0_1
 have HC0_1 := mk0 hc0_1
 clear hr0_1 hc0_1
 have HR1_0 := mk0 hr1_0
 have HC1_0 := mk0 hc1_0
 clear hr1_0 hc1_0
 have HR1_1 := mk0 hr1_1
 have HC1_1 := mk0 hc1_1
 clear hr1_1 hc1_1
 have HB := mk0 (Below.refl w.heap.size w)
 have H : ((laws_eqIntS.f k l0_0 l1_0).bind fun t273 => (if t273 = true then ((laws_eqPointS.f k l0_1 l1_1).bind fun t274 => (if t274 = true then (some true) else (some false))) else (some false))) = some r := h
 clear h
 replace H := Option.bind_eq_some_iff.mp H
 obtain ⟨t273, A30, H⟩ := H
 try dsimp only at H
 have A3 := mk0 A30
 clear A30
 by_cases c4 : t273 = true
 rotate_left
 ·replace c4 := Bool.eq_false_iff.mpr c4
  subst c4
  rw [if_neg (show ¬ (false = true) by decide)] at H
  obtain rfl := Option.some.inj H
  simp only [Option.some.injEq, Prod.mk.injEq] at H
  obtain ⟨rfl⟩ := H
  go_enter Try.func105, Try.ntmps105
  go_wp2_with (first | ((with_reducible refine gate_dst (N := 2) rfl ?_); refine boxz (cs := #[.slice A0_0 l0_0.length c0_0, .slice A0_1 l0_1.length c0_1]) (t := 63) rfl ?_; intro gb271 hg w19 hbox hb; have n0_ := mk0 (below_step z4_1 hb); have n1_ := mk0 (hbox); have GW271 := mk0 (ge_go (a := w.heap.size) hg (below_size z4_1)); have GE271 := GW271; clear HB; have HB := n0_; have BK271 := n1_; clear n0_ n1_ ; clear hb hbox hg) | ((with_reducible refine gate_dst (N := 3) rfl ?_); refine boxz (cs := #[.slice A1_0 l1_0.length c1_0, .slice A1_1 l1_1.length c1_1]) (t := 63) rfl ?_; intro gb272 hg w20 hbox hb; have n0_ := mk0 (blk_belowB BK271 (pkb BK271) hb); have n1_ := mk0 (below_step z4_8 hb); have n2_ := mk0 (hbox); have GW272 := mk0 (ge_go (a := w.heap.size) hg (below_size z4_8)); have GE272 := GW272; have NB271_272 := mk0 (nb_lt hg (blk_ltB BK271 (pkb BK271))); have NB272_271 := mk0 (nb_gt hg (blk_ltB BK271 (pkb BK271))); clear BK271 HB; have BK271 := n0_; have HB := n1_; have BK272 := n2_; clear n0_ n1_ n2_ ; clear hb hbox hg; have hnb21 := NB271_272.out; have hnc21 := NB272_271.out; obtain ⟨_, _, _, _⟩ := be_2 BK271.out; obtain ⟨_, _, _, _⟩ := be_2 BK272.out) | ((with_reducible refine gate_callee (f := 24) rfl ?_); refine goesL_ (some 9) rfl rfl Try.func24 (by kernel_rfl) rfl #[.slice A0_0 l0_0.length c0_0, .slice A1_0 l1_0.length c1_0] rfl z4_11 ?_; (with_reducible refine (laws_eqIntS.calls k _ _ l0_0 _ _ l1_0 false _ ?side1 ?side2 ?side3 ?side4 A3.out).mono ?_); (case side1 => exact z4_15); (case side2 => exact HC0_0.out); (case side3 => exact z4_16); (case side4 => exact HC1_0.out); rintro e w' ⟨rfl, ⟨nd, rfl⟩⟩; refine ⟨_, rfl, ?_⟩))
  go_ret
  exact ⟨z4_6, z4_5⟩
 subst c4
 rw [if_pos rfl] at H
 replace H := Option.bind_eq_some_iff.mp H
 obtain ⟨t274, A50, H⟩ := H
 try dsimp only at H
 have A5 := mk0 A50
 clear A50
 by_cases c6 : t274 = true
 ·subst c6
  rw [if_pos rfl] at H
  obtain rfl := Option.some.inj H
  simp only [Option.some.injEq, Prod.mk.injEq] at H
  obtain ⟨rfl⟩ := H
  go_enter Try.func105, Try.ntmps105
  go_wp2_with (first | ((with_reducible refine gate_dst (N := 2) rfl ?_); refine boxz (cs := #[.slice A0_0 l0_0.length c0_0, .slice A0_1 l0_1.length c0_1]) (t := 63) rfl ?_; intro gb271 hg w7 hbox hb; have n0_ := mk0 (below_step z4_1 hb); have n1_ := mk0 (hbox); have GW271 := mk0 (ge_go (a := w.heap.size) hg (below_size z4_1)); have GE271 := GW271; clear HB; have HB := n0_; have BK271 := n1_; clear n0_ n1_ ; clear hb hbox hg) | ((with_reducible refine gate_dst (N := 3) rfl ?_); refine boxz (cs := #[.slice A1_0 l1_0.length c1_0, .slice A1_1 l1_1.length c1_1]) (t := 63) rfl ?_; intro gb272 hg w8 hbox hb; have n0_ := mk0 (blk_belowB BK271 (pkb BK271) hb); have n1_ := mk0 (below_step z4_8 hb); have n2_ := mk0 (hbox); have GW272 := mk0 (ge_go (a := w.heap.size) hg (below_size z4_8)); have GE272 := GW272; have NB271_272 := mk0 (nb_lt hg (blk_ltB BK271 (pkb BK271))); have NB272_271 := mk0 (nb_gt hg (blk_ltB BK271 (pkb BK271))); clear BK271 HB; have BK271 := n0_; have HB := n1_; have BK272 := n2_; clear n0_ n1_ n2_ ; clear hb hbox hg; have hnb9 := NB271_272.out; have hnc9 := NB272_271.out; obtain ⟨_, _, _, _⟩ := be_2 BK271.out; obtain ⟨_, _, _, _⟩ := be_2 BK272.out) | ((with_reducible refine gate_callee (f := 24) rfl ?_); refine goesL_ (some 9) rfl rfl Try.func24 (by kernel_rfl) rfl #[.slice A0_0 l0_0.length c0_0, .slice A1_0 l1_0.length c1_0] rfl z4_11 ?_; (with_reducible refine (laws_eqIntS.calls k _ _ l0_0 _ _ l1_0 true _ ?side1 ?side2 ?side3 ?side4 A3.out).mono ?_); (case side1 => exact z4_15); (case side2 => exact HC0_0.out); (case side3 => exact z4_16); (case side4 => exact HC1_0.out); rintro e w' ⟨rfl, ⟨nd, rfl⟩⟩; refine ⟨_, rfl, ?_⟩) | ((with_reducible refine gate_callee (f := 23) rfl ?_); refine goesL_ (some 15) rfl rfl Try.func23 (by kernel_rfl) rfl #[.slice A0_1 l0_1.length c0_1, .slice A1_1 l1_1.length c1_1] rfl z4_11 ?_; (with_reducible refine (laws_eqPointS.calls k _ _ l0_1 _ _ l1_1 true _ ?side1 ?side2 ?side3 ?side4 A5.out).mono ?_); (case side1 => repeat (first | exact (Kd.C_below HR0_1.out z4_5) | (with_reducible refine Kd.C_alloc ?_ _) | (with_reducible refine Kd.C_drewN ?_ _) | (with_reducible refine Kd.C_drew ?_))); (case side2 => exact HC0_1.out); (case side3 => repeat (first | exact (Kd.C_below HR1_1.out z4_5) | (with_reducible refine Kd.C_alloc ?_ _) | (with_reducible refine Kd.C_drewN ?_ _) | (with_reducible refine Kd.C_drew ?_))); (case side4 => exact HC1_1.out); rintro e w12 ⟨rfl, hb⟩; refine ⟨_, rfl, ?_⟩; have n0_ := mk0 (blk_belowB BK271 (pkb BK271) hb); have n1_ := mk0 (blk_belowB BK272 (pkb BK272) hb); have n2_ := mk0 (below_step z4_5 hb); clear BK271 BK272 HB; have BK271 := n0_; have BK272 := n1_; have HB := n2_; clear n0_ n1_ n2_; (try clear hb)))
  go_ret
  exact ⟨z4_6, z4_5⟩
 replace c6 := Bool.eq_false_iff.mpr c6
 subst c6
 rw [if_neg (show ¬ (false = true) by decide)] at H
 obtain rfl := Option.some.inj H
 simp only [Option.some.injEq, Prod.mk.injEq] at H
 obtain ⟨rfl⟩ := H
 go_enter Try.func105, Try.ntmps105
 go_wp2_with (first | ((with_reducible refine gate_dst (N := 2) rfl ?_); refine boxz (cs := #[.slice A0_0 l0_0.length c0_0, .slice A0_1 l0_1.length c0_1]) (t := 63) rfl ?_; intro gb271 hg w13 hbox hb; have n0_ := mk0 (below_step z4_1 hb); have n1_ := mk0 (hbox); have GW271 := mk0 (ge_go (a := w.heap.size) hg (below_size z4_1)); have GE271 := GW271; clear HB; have HB := n0_; have BK271 := n1_; clear n0_ n1_ ; clear hb hbox hg) | ((with_reducible refine gate_dst (N := 3) rfl ?_); refine boxz (cs := #[.slice A1_0 l1_0.length c1_0, .slice A1_1 l1_1.length c1_1]) (t := 63) rfl ?_; intro gb272 hg w14 hbox hb; have n0_ := mk0 (blk_belowB BK271 (pkb BK271) hb); have n1_ := mk0 (below_step z4_8 hb); have n2_ := mk0 (hbox); have GW272 := mk0 (ge_go (a := w.heap.size) hg (below_size z4_8)); have GE272 := GW272; have NB271_272 := mk0 (nb_lt hg (blk_ltB BK271 (pkb BK271))); have NB272_271 := mk0 (nb_gt hg (blk_ltB BK271 (pkb BK271))); clear BK271 HB; have BK271 := n0_; have HB := n1_; have BK272 := n2_; clear n0_ n1_ n2_ ; clear hb hbox hg; have hnb15 := NB271_272.out; have hnc15 := NB272_271.out; obtain ⟨_, _, _, _⟩ := be_2 BK271.out; obtain ⟨_, _, _, _⟩ := be_2 BK272.out) | ((with_reducible refine gate_callee (f := 24) rfl ?_); refine goesL_ (some 9) rfl rfl Try.func24 (by kernel_rfl) rfl #[.slice A0_0 l0_0.length c0_0, .slice A1_0 l1_0.length c1_0] rfl z4_11 ?_; (with_reducible refine (laws_eqIntS.calls k _ _ l0_0 _ _ l1_0 true _ ?side1 ?side2 ?side3 ?side4 A3.out).mono ?_); (case side1 => exact z4_15); (case side2 => exact HC0_0.out); (case side3 => exact z4_16); (case side4 => exact HC1_0.out); rintro e w' ⟨rfl, ⟨nd, rfl⟩⟩; refine ⟨_, rfl, ?_⟩) | ((with_reducible refine gate_callee (f := 23) rfl ?_); refine goesL_ (some 15) rfl rfl Try.func23 (by kernel_rfl) rfl #[.slice A0_1 l0_1.length c0_1, .slice A1_1 l1_1.length c1_1] rfl z4_11 ?_; (with_reducible refine (laws_eqPointS.calls k _ _ l0_1 _ _ l1_1 false _ ?side1 ?side2 ?side3 ?side4 A5.out).mono ?_); (case side1 => repeat (first | exact (Kd.C_below HR0_1.out z4_5) | (with_reducible refine Kd.C_alloc ?_ _) | (with_reducible refine Kd.C_drewN ?_ _) | (with_reducible refine Kd.C_drew ?_))); (case side2 => exact HC0_1.out); (case side3 => repeat (first | exact (Kd.C_below HR1_1.out z4_5) | (with_reducible refine Kd.C_alloc ?_ _) | (with_reducible refine Kd.C_drewN ?_ _) | (with_reducible refine Kd.C_drew ?_))); (case side4 => exact HC1_1.out); rintro e w18 ⟨rfl, hb⟩; refine ⟨_, rfl, ?_⟩; have n0_ := mk0 (blk_belowB BK271 (pkb BK271) hb); have n1_ := mk0 (blk_belowB BK272 (pkb BK272) hb); have n2_ := mk0 (below_step z4_5 hb); clear BK271 BK272 HB; have BK271 := n0_; have BK272 := n1_; have HB := n2_; clear n0_ n1_ n2_; (try clear hb)))
 go_ret
 exact ⟨z4_6, z4_5⟩

end Go.Proofs.Ytjfienkbcacijaa.MFnExactKidsOf
