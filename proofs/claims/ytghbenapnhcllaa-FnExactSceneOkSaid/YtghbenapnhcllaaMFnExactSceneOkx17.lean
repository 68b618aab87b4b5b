/- Functions of the program as Lean functions, and the proof that a call comes to just these: machine text of this session's own program (myprint.py). -/
import Derived.Test.YtghbenapnhcllaaMFnExactSceneOkx0
import Derived.Test.YtghbenapnhcllaaMFnExactSceneOkx13
import Derived.Test.YtghbenapnhcllaaMFnExactSceneOkx15
import Derived.Test.YtghbenapnhcllaaMFnExactSceneOkx16
namespace Go.Proofs.Ytghbenapnhcllaa.MFnExactSceneOk
open Go.RowKit Go.Proofs.YtghbenapnhcllaaW.PrintWords Go.Proofs.YtghbenapnhcllaaW.PrintLast Go.Proofs.YtghbenapnhcllaaW.PrintMore
attribute [local go_sem] max2_int min2_int max_two min_two max_three min_three max_four min_four   -- for this text's walks alone
set_option linter.unusedVariables false
set_option linter.unusedSimpArgs false

theorem z17_0 {P : Prop} (h : P := by (with_reducible repeat (first | refine blk_drewN ?_ _ | refine blk_drew ?_ | refine blk_alloc ?_ _)); refine blk_far ?_ NB401_403.out _; (with_reducible repeat (first | refine blk_drewN ?_ _ | refine blk_drew ?_ | refine blk_alloc ?_ _)); refine blk_far ?_ NB401_403.out _; (with_reducible repeat (first | refine blk_drewN ?_ _ | refine blk_drew ?_ | refine blk_alloc ?_ _)); refine blk_far ?_ NB401_403.out _; (with_reducible repeat (first | refine blk_drewN ?_ _ | refine blk_drew ?_ | refine blk_alloc ?_ _)); refine blk_far ?_ NB401_403.out _; (with_reducible repeat (first | refine blk_drewN ?_ _ | refine blk_drew ?_ | refine blk_alloc ?_ _)); refine blk_far ?_ NB401_403.out _; (with_reducible repeat (first | refine blk_drewN ?_ _ | refine blk_drew ?_ | refine blk_alloc ?_ _)); refine blk_far ?_ NB401_403.out _; (with_reducible repeat (first | refine blk_drewN ?_ _ | refine blk_drew ?_ | refine blk_alloc ?_ _)); refine blk_far ?_ NB401_403.out _; (with_reducible repeat (first | refine blk_drewN ?_ _ | refine blk_drew ?_ | refine blk_alloc ?_ _)); refine blk_far ?_ NB401_403.out _; (with_reducible repeat (first | refine blk_drewN ?_ _ | refine blk_drew ?_ | refine blk_alloc ?_ _)); refine blk_far ?_ NB401_403.out _; (with_reducible repeat (first | refine blk_drewN ?_ _ | refine blk_drew ?_ | refine blk_alloc ?_ _)); refine blk_far ?_ NB401_403.out _; (with_reducible repeat (first | refine blk_drewN ?_ _ | refine blk_drew ?_ | refine blk_alloc ?_ _)); refine blk_far ?_ NB401_403.out _; (with_reducible repeat (first | refine blk_drewN ?_ _ | refine blk_drew ?_ | refine blk_alloc ?_ _)); refine blk_far ?_ NB401_403.out _; (with_reducible repeat (first | refine blk_drewN ?_ _ | refine blk_drew ?_ | refine blk_alloc ?_ _)); refine blk_far ?_ NB401_403.out _; (with_reducible repeat (first | refine blk_drewN ?_ _ | refine blk_drew ?_ | refine blk_alloc ?_ _)); refine blk_far ?_ NB401_403.out _; (with_reducible repeat (first | refine blk_drewN ?_ _ | refine blk_drew ?_ | refine blk_alloc ?_ _)); refine blk_far ?_ NB401_403.out _; (with_reducible repeat (first | refine blk_drewN ?_ _ | refine blk_drew ?_ | refine blk_alloc ?_ _)); refine blk_far ?_ NB401_403.out _; (with_reducible repeat (first | refine blk_drewN ?_ _ | refine blk_drew ?_ | refine blk_alloc ?_ _)); refine blk_far ?_ NB401_403.out _; (with_reducible repeat (first | refine blk_drewN ?_ _ | refine blk_drew ?_ | refine blk_alloc ?_ _)); refine blk_far ?_ NB401_403.out _; (with_reducible repeat (first | refine blk_drewN ?_ _ | refine blk_drew ?_ | refine blk_alloc ?_ _)); refine blk_far ?_ NB401_403.out _; (with_reducible repeat (first | refine blk_drewN ?_ _ | refine blk_drew ?_ | refine blk_alloc ?_ _)); refine blk_far ?_ NB401_403.out _; (with_reducible repeat (first | refine blk_drewN ?_ _ | refine blk_drew ?_ | refine blk_alloc ?_ _)); refine blk_far ?_ NB401_403.out _; (with_reducible repeat (first | refine blk_drewN ?_ _ | refine blk_drew ?_ | refine blk_alloc ?_ _)); refine blk_far ?_ NB401_403.out _; (with_reducible repeat (first | refine blk_drewN ?_ _ | refine blk_drew ?_ | refine blk_alloc ?_ _)); refine blk_far ?_ NB401_403.out _; (with_reducible repeat (first | refine blk_drewN ?_ _ | refine blk_drew ?_ | refine blk_alloc ?_ _)); refine blk_far ?_ NB401_403.out _; (with_reducible repeat (first | refine blk_drewN ?_ _ | refine blk_drew ?_ | refine blk_alloc ?_ _)); refine blk_far ?_ NB401_403.out _; (with_reducible repeat (first | refine blk_drewN ?_ _ | refine blk_drew ?_ | refine blk_alloc ?_ _)); refine blk_far ?_ NB401_403.out _; (with_reducible repeat (first | refine blk_drewN ?_ _ | refine blk_drew ?_ | refine blk_alloc ?_ _)); refine blk_far ?_ NB401_403.out _; (with_reducible repeat (first | refine blk_drewN ?_ _ | refine blk_drew ?_ | refine blk_alloc ?_ _)); refine blk_far ?_ NB401_403.out _; (with_reducible repeat (first | refine blk_drewN ?_ _ | refine blk_drew ?_ | refine blk_alloc ?_ _)); refine blk_far ?_ NB401_403.out _; (with_reducible repeat (first | refine blk_drewN ?_ _ | refine blk_drew ?_ | refine blk_alloc ?_ _)); refine blk_far ?_ NB401_403.out _; (with_reducible repeat (first | refine blk_drewN ?_ _ | refine blk_drew ?_ | refine blk_alloc ?_ _)); refine blk_far ?_ NB401_403.out _; (with_reducible repeat (first | refine blk_drewN ?_ _ | refine blk_drew ?_ | refine blk_alloc ?_ _)); exact BK401.out) : P := h
theorem z17_1 {P : Prop} (h : P := by repeat (first | (with_reducible first | exact HB.out | apply below_alloc | apply pw_below_drewN | apply below_drew1 | refine below_set ?_ GE401.out | refine below_set ?_ GE403.out) | exact HB.out)) : P := h
theorem z17_2 {P : Prop} (h : P := by (with_reducible repeat (first | refine blk_drewN ?_ _ | refine blk_drew ?_ | refine blk_alloc ?_ _)); exact BK401.out) : P := h
theorem z17_3 {P : Prop} (h : P := by repeat (first | (with_reducible first | exact HB.out | apply below_alloc | apply pw_below_drewN | apply below_drew1 | refine below_set ?_ GE401.out) | exact HB.out)) : P := h
theorem z17_4 {P : Prop} (h : P := by apply blk_fin; (focus ((with_reducible repeat (first | apply blk_putQ | refine blk_drewN ?_ _ | refine blk_drew ?_ | refine blk_alloc ?_ _)); exact BK403.out)); first | (simp only [List.setIfInBounds_toArray, List.set_cons_zero, List.set_cons_succ]; done) | rfl) : P := h
theorem z17_5 {P : Prop} (h : P := by (with_reducible repeat (first | refine blk_drewN ?_ _ | refine blk_drew ?_ | refine blk_alloc ?_ _)); with_reducible exact BK403.out) : P := h
theorem z17_6 {P : Prop} (h : P := by repeat (first | exact (Kd.C_below HR0_0.out HB.out) | (with_reducible refine Kd.C_alloc ?_ _) | (with_reducible refine Kd.C_drewN ?_ _) | (with_reducible refine Kd.C_drew ?_))) : P := h
theorem z17_7 {P : Prop} (h : P := by (with_reducible repeat (first | refine blk_drewN ?_ _ | refine blk_drew ?_ | refine blk_alloc ?_ _)); exact BK403.out) : P := h
theorem z17_8 {P : Prop} (h : P := by repeat (first | (with_reducible first | exact HB.out | apply below_alloc | apply pw_below_drewN | apply below_drew1) | exact HB.out)) : P := h
theorem z17_9 {P : Prop} (h : P := by (try simp only [List.map_toArray, List.map_cons, List.map_nil]); first | done | rfl | (simp only [List.length_drop, List.length_take]; rfl)) : P := h
theorem z17_10 {P : Prop} (h : P := by first | rfl | (simp [errW_none, errW_some] <;> rfl) | (simp [*, errW_none, errW_some] <;> rfl)) : P := h
/-! ### impl_SceneOk: function 49 -/
def impl_SceneOk.l0 : Nat → List (S56) → Int → Int → List (S56) → Option (Bool)
 | 0, _, _, _, _ => none
 | k + 1, x10, x11, x12, x402000 => if x12 < x11 then (if 0 ≤ x12 then (if x12 < (x10.length : Int) then ((impl_NodeOk.f k ((rd_T56 x10 x12).f0) ((rd_T56 x10 x12).f1) ((rd_T56 x10 x12).f2) ((rd_T56 x10 x12).f3.f0) ((rd_T56 x10 x12).f3.f1) ((rd_T56 x10 x12).f3.f2) ((rd_T56 x10 x12).f3.f3) ((rd_T56 x10 x12).f3.f4) ((rd_T56 x10 x12).f3.f5) ((rd_T56 x10 x12).f4.f0) ((rd_T56 x10 x12).f4.f1) ((rd_T56 x10 x12).f5) ((rd_T56 x10 x12).f6) ((rd_T56 x10 x12).f7) ((rd_T56 x10 x12).f8.f0) ((rd_T56 x10 x12).f8.f1.f0) ((rd_T56 x10 x12).f8.f1.f1) ((rd_T56 x10 x12).f8.f1.f2) ((rd_T56 x10 x12).f8.f1.f3) ((rd_T56 x10 x12).f8.f2.f0) ((rd_T56 x10 x12).f8.f2.f1) ((rd_T56 x10 x12).f8.f2.f2) ((rd_T56 x10 x12).f8.f2.f3) ((rd_T56 x10 x12).f8.f3.f0) ((rd_T56 x10 x12).f8.f3.f1) ((rd_T56 x10 x12).f8.f4.f0) ((rd_T56 x10 x12).f8.f4.f1) ((rd_T56 x10 x12).f9) ((rd_T56 x10 x12).f10) ((rd_T56 x10 x12).f11.f0) ((rd_T56 x10 x12).f11.f1)).bind fun t404 => (if t404 = true then ((impl_NodeAt.f k x402000 ((rd_T56 x10 x12).f0)).bind fun t405 => (if t405 = x12 then ((impl_Scene_isParent.f k x402000 ((rd_T56 x10 x12).f1)).bind fun t406 => (if t406 = true then ((impl_DepthOf.f k x402000 ((rd_T56 x10 x12).f0)).bind fun t407 => ((impl_inRange.f t407 1 4).bind fun t408 => (if t408 = true then (impl_SceneOk.l0 k x10 x11 (wrap64 (x12 + 1)) x402000) else (some false)))) else (some false))) else (some false))) else (some false))) else (none)) else (none)) else (some true)
def impl_SceneOk.f (k : Nat) (l0_0 : List (S56)) : Option (Bool) := if (l0_0.length : Int) > 8 then (some false) else (impl_SceneOk.l0 k l0_0 (l0_0.length : Int) 0 l0_0)
theorem impl_SceneOk.mono_l : ∀ k, (∀ y0 y1 y2 y3, LeO (impl_SceneOk.l0 k y0 y1 y2 y3) (impl_SceneOk.l0 (k + 1) y0 y1 y2 y3))
 | 0 => fun _ _ _ _ r h => by simp [impl_SceneOk.l0] at h
 | k + 1 => by
  have ih0 := impl_SceneOk.mono_l k
  ·intro y0 y1 y2 y3
   unfold impl_SceneOk.l0
   repeat' first
   | (with_reducible exact ih0 _ _ _ _)
   | (with_reducible exact impl_DepthOf.mono _ _ _)
   | (with_reducible exact impl_NodeAt.mono _ _ _)
   | (with_reducible exact impl_NodeOk.mono _ _ _ _ _ _ _ _ _ _ _ _ _ _ _ _ _ _ _ _ _ _ _ _ _ _ _ _ _ _ _ _)
   | (with_reducible exact impl_Scene_isParent.mono _ _ _)
   | (with_reducible exact LeO.refl _)
   | (with_reducible exact LeO.none _)
   | (with_reducible refine LeO.ite ?_ ?_)
   | (with_reducible refine LeO.bind ?_ (fun _ => ?_))
   | exact ih0 _ _ _ _
   | exact impl_DepthOf.mono _ _ _
   | exact impl_NodeAt.mono _ _ _
   | exact impl_NodeOk.mono _ _ _ _ _ _ _ _ _ _ _ _ _ _ _ _ _ _ _ _ _ _ _ _ _ _ _ _ _ _ _ _
   | exact impl_Scene_isParent.mono _ _ _
   | exact LeO.none _
   | refine LeO.ite ?_ ?_
   | refine LeO.bind ?_ (fun _ => ?_)
theorem impl_SceneOk.mono : ∀ a0 k, LeO (impl_SceneOk.f k a0) (impl_SceneOk.f (k + 1) a0) := by
 intro a0 k
 have ih0 := impl_SceneOk.mono_l k
 unfold impl_SceneOk.f
 repeat' first
   | (with_reducible exact ih0 _ _ _ _)
   | (with_reducible exact impl_DepthOf.mono _ _ _)
   | (with_reducible exact impl_NodeAt.mono _ _ _)
   | (with_reducible exact impl_NodeOk.mono _ _ _ _ _ _ _ _ _ _ _ _ _ _ _ _ _ _ _ _ _ _ _ _ _ _ _ _ _ _ _ _)
   | (with_reducible exact impl_Scene_isParent.mono _ _ _)
   | (with_reducible exact LeO.refl _)
   | (with_reducible exact LeO.none _)
   | (with_reducible refine LeO.ite ?_ ?_)
   | (with_reducible refine LeO.bind ?_ (fun _ => ?_))
   | exact ih0 _ _ _ _
   | exact impl_DepthOf.mono _ _ _
   | exact impl_NodeAt.mono _ _ _
   | exact impl_NodeOk.mono _ _ _ _ _ _ _ _ _ _ _ _ _ _ _ _ _ _ _ _ _ _ _ _ _ _ _ _ _ _ _ _
   | exact impl_Scene_isParent.mono _ _ _
   | exact LeO.none _
   | refine LeO.ite ?_ ?_
   | refine LeO.bind ?_ (fun _ => ?_)
set_option maxHeartbeats 8000000 in
set_option maxRecDepth 100000 in
theorem impl_SceneOk.calls (k : Nat) (A0_0 : Option Addr) (c0_0 : Nat) (l0_0 : List (S56)) (r : Bool) (w : World) (hr0_0 : Kd.C k56 w A0_0 l0_0.length l0_0) (hc0_0 : l0_0.length ≤ c0_0) (h : impl_SceneOk.f k l0_0 = some r) :
  Calls Try.prog 49 #[.agg #[.slice A0_0 l0_0.length c0_0]] w fun e w' => e = .returned (.bool r) ∧ Below w.heap.size w w' := by
 have hu83 := Try.underlying83
 have hu56 := Try.underlying56
 have HR0_0 := Aside0.mk hr0_0
 have HC0_0 := Aside0.mk hc0_0
 clear hr0_0 hc0_0
 have HB := Aside0.mk (Below.refl w.heap.size w)
 have H : (if (l0_0.length : Int) > 8 then (some false) else (impl_SceneOk.l0 k l0_0 (l0_0.length : Int) 0 l0_0)) = some r := h
 clear h
 by_cases c2 : (l0_0.length : Int) > 8
 ·rw [if_pos c2] at H
  have c2b0 : decide (8 < (l0_0.length : Int)) = true := decide_eq_true c2
  have c2b1 : decide (8 < l0_0.length) = true := decide_eq_true (by omega)
  clear c2
  obtain rfl := Option.some.inj H
  simp only [Option.some.injEq, Prod.mk.injEq] at H
  obtain ⟨rfl⟩ := H
  go_enter Try.func49, Try.ntmps49
  go_wp2_with (first | ((with_reducible refine gate_dst (N := 1) rfl ?_); refine boxz (cs := #[.slice A0_0 l0_0.length c0_0]) (t := 83) rfl ?_; intro gb401 hg w3 hbox hb; have n0_ := Aside0.mk (below_step z17_8 hb); have n1_ := Aside0.mk (hbox); have n2_ := Aside0.mk (ge_go (a := w.heap.size) hg (below_size z17_8)); have n3_ := Aside0.mk (ge_go (a := w.heap.size) hg (below_size z17_8)); clear HB; have HB := n0_; have BK401 := n1_; have GW401 := n2_; have GE401 := n3_; clear n0_ n1_ n2_ n3_; clear hb hbox hg; obtain ⟨_, _⟩ := be_1 BK401.out))
  go_ret
  exact ⟨z17_10, z17_3⟩
 ·rw [if_neg c2] at H
  have c2b0 : decide (8 < (l0_0.length : Int)) = false := decide_eq_false c2
  have c2b1 : decide (8 < l0_0.length) = false := decide_eq_false (by omega)
  clear c2
  have H' := Aside0.mk H
  clear H
  go_enter Try.func49, Try.ntmps49
  go_wp2_with (first | ((with_reducible refine gate_dst (N := 1) rfl ?_); refine boxz (cs := #[.slice A0_0 l0_0.length c0_0]) (t := 83) rfl ?_; intro gb401 hg w5 hbox hb; have n0_ := Aside0.mk (below_step z17_8 hb); have n1_ := Aside0.mk (hbox); have n2_ := Aside0.mk (ge_go (a := w.heap.size) hg (below_size z17_8)); have n3_ := Aside0.mk (ge_go (a := w.heap.size) hg (below_size z17_8)); clear HB; have HB := n0_; have BK401 := n1_; have GW401 := n2_; have GE401 := n3_; clear n0_ n1_ n2_ n3_; clear hb hbox hg; obtain ⟨_, _⟩ := be_1 BK401.out))
  go_loopg [12] k (fun kq v12 w' => ∃ (x12_1 : Int), v12 = .int .i64 x12_1 ∧ Aside0 (impl_SceneOk.l0 kq l0_0 (l0_0.length : Int) x12_1 l0_0 = some r) ∧ Aside0 (kq ≤ k) ∧ Aside0 (w'.heap[gb401]? = some (.cells #[(.slice A0_0 l0_0.length c0_0)] 83 (0, 0))) ∧ Aside0 (Below w.heap.size w w'))
  case atStart => exact ⟨(0), (by first | rfl | (simp; done) | (simp [*]; done)), H', ⟨Nat.le_refl _⟩, ⟨by (with_reducible repeat (first | refine blk_drewN ?_ _ | refine blk_drew ?_ | refine blk_alloc ?_ _)); exact BK401.out⟩, ⟨by repeat (first | (with_reducible first | exact HB.out | apply below_alloc | apply pw_below_drewN | apply below_drew1 | refine below_set ?_ GE401.out) | exact HB.out)⟩⟩
  case round =>
   clear H'
   try clear c2
   try clear c2b0
   try clear c2b1
   try clear p2
   try clear c4
   try clear hcz4_0
   try clear hcz6_0
   try clear hfz4_0
   try clear hfz6_0
   obtain ⟨x12_1, rfl, HA, HK1, BK401, HB⟩ := hrel
   cases gk with
   | zero => exact absurd HA.out (by simp [impl_SceneOk.l0])
   | succ k1 =>
    have H := HA.out; clear HA
    simp only [impl_SceneOk.l0] at H
    by_cases c7 : x12_1 < (l0_0.length : Int)
    ·rw [if_pos c7] at H
     have c7b0 : decide (x12_1 < (l0_0.length : Int)) = true := decide_eq_true c7
     clear c7
     by_cases c8 : 0 ≤ x12_1
     ·rw [if_pos c8] at H
      have c8b0 : decide (0 ≤ x12_1) = true := decide_eq_true c8
      clear c8
      by_cases c9 : x12_1 < (l0_0.length : Int)
      ·rw [if_pos c9] at H
       have c9b0 : decide (x12_1 < (l0_0.length : Int)) = true := decide_eq_true c9
       clear c9
       replace H := Option.bind_eq_some_iff.mp H
       obtain ⟨t404, A100, H⟩ := H
       try dsimp only at H
       have A10 := Aside0.mk A100
       clear A100
       by_cases c11 : t404 = true
       ·subst c11
        have H1 : ((impl_NodeAt.f k1 l0_0 ((rd_T56 l0_0 x12_1).f0)).bind fun t405 => (if t405 = x12_1 then ((impl_Scene_isParent.f k1 l0_0 ((rd_T56 l0_0 x12_1).f1)).bind fun t406 => (if t406 = true then ((impl_DepthOf.f k1 l0_0 ((rd_T56 l0_0 x12_1).f0)).bind fun t407 => ((impl_inRange.f t407 1 4).bind fun t408 => (if t408 = true then (impl_SceneOk.l0 k1 l0_0 (l0_0.length : Int) (wrap64 (x12_1 + 1)) l0_0) else (some false)))) else (some false))) else (some false))) = some r := by rw [if_pos rfl] at H; exact H
        clear H; have H := H1; clear H1
        replace H := Option.bind_eq_some_iff.mp H
        obtain ⟨t405, A120, H⟩ := H
        try dsimp only at H
        have A12 := Aside0.mk A120
        clear A120
        by_cases c13 : t405 = x12_1
        ·rw [if_pos c13] at H
         have c13b0 : (t405 == x12_1) = true := beq_iff_eq.mpr c13
         have c13b1 : (t405 != x12_1) = false := bne_eq_false_iff_eq.mpr c13
         clear c13
         replace H := Option.bind_eq_some_iff.mp H
         obtain ⟨t406, A140, H⟩ := H
         try dsimp only at H
         have A14 := Aside0.mk A140
         clear A140
         by_cases c15 : t406 = true
         ·subst c15
          have H1 : ((impl_DepthOf.f k1 l0_0 ((rd_T56 l0_0 x12_1).f0)).bind fun t407 => ((impl_inRange.f t407 1 4).bind fun t408 => (if t408 = true then (impl_SceneOk.l0 k1 l0_0 (l0_0.length : Int) (wrap64 (x12_1 + 1)) l0_0) else (some false)))) = some r := by rw [if_pos rfl] at H; exact H
          clear H; have H := H1; clear H1
          replace H := Option.bind_eq_some_iff.mp H
          obtain ⟨t407, A160, H⟩ := H
          try dsimp only at H
          have A16 := Aside0.mk A160
          clear A160
          replace H := Option.bind_eq_some_iff.mp H
          obtain ⟨t408, A170, H⟩ := H
          try dsimp only at H
          have A17 := Aside0.mk A170
          clear A170
          by_cases c18 : t408 = true
          ·subst c18
           have H1 : (impl_SceneOk.l0 k1 l0_0 (l0_0.length : Int) (wrap64 (x12_1 + 1)) l0_0) = some r := by rw [if_pos rfl] at H; exact H
           clear H; have H := H1; clear H1
           have H' := Aside0.mk H
           clear H
           have p402 : 0 ≤ (x12_1 : Int) := of_decide_eq_true (by first | (with_reducible assumption) | assumption)
           have q402 : x12_1 < (l0_0.length : Int) := of_decide_eq_true (by first | (with_reducible assumption) | assumption)
           obtain ⟨ad402, A402_9, c402_9, A402_10, c402_10, A402_13, c402_13, A402_29, c402_29, A402_30, c402_30, e402, hx402_0, hx402_1, hx402_2, hx402_3, hx402_4, hx402_5, hx402_6, hx402_7, hx402_8, hx402_9, hx402_10, hx402_11, hx402_12, hx402_13, hx402_14, hx402_15, hx402_16, hx402_17, hx402_18, hx402_19, hx402_20, hx402_21, hx402_22, hx402_23, hx402_24, hx402_25, hx402_26, hx402_27, hx402_28, hx402_29, hx402_30, hl402_9, hi402_9, hl402_10, hi402_10, hl402_13, hi402_13, hl402_29, hi402_29, hl402_30, hi402_30⟩ := at_T56 HR0_0.out x12_1 p402 q402
           have hM402 := lie_zero hx402_0 (lie_n hx402_1 (lie_n hx402_2 (lie_n hx402_3 (lie_n hx402_4 (lie_n hx402_5 (lie_n hx402_6 (lie_n hx402_7 (lie_n hx402_8 (lie_n hx402_9 (lie_n hx402_10 (lie_n hx402_11 (lie_n hx402_12 (lie_n hx402_13 (lie_n hx402_14 (lie_n hx402_15 (lie_n hx402_16 (lie_n hx402_17 (lie_n hx402_18 (lie_n hx402_19 (lie_n hx402_20 (lie_n hx402_21 (lie_n hx402_22 (lie_n hx402_23 (lie_n hx402_24 (lie_n hx402_25 (lie_n hx402_26 (lie_n hx402_27 (lie_n hx402_28 (lie_n hx402_29 (lie_n hx402_30 (lie_nil _ _ _)))))))))))))))))))))))))))))))
           cases e402
           replace hx402_0 := cell_go HB hx402_0
           replace hx402_1 := cell_go HB hx402_1
           replace hx402_2 := cell_go HB hx402_2
           replace hx402_3 := cell_go HB hx402_3
           replace hx402_4 := cell_go HB hx402_4
           replace hx402_5 := cell_go HB hx402_5
           replace hx402_6 := cell_go HB hx402_6
           replace hx402_7 := cell_go HB hx402_7
           replace hx402_8 := cell_go HB hx402_8
           replace hx402_9 := cell_go HB hx402_9
           replace hx402_10 := cell_go HB hx402_10
           replace hx402_11 := cell_go HB hx402_11
           replace hx402_12 := cell_go HB hx402_12
           replace hx402_13 := cell_go HB hx402_13
           replace hx402_14 := cell_go HB hx402_14
           replace hx402_15 := cell_go HB hx402_15
           replace hx402_16 := cell_go HB hx402_16
           replace hx402_17 := cell_go HB hx402_17
           replace hx402_18 := cell_go HB hx402_18
           replace hx402_19 := cell_go HB hx402_19
           replace hx402_20 := cell_go HB hx402_20
           replace hx402_21 := cell_go HB hx402_21
           replace hx402_22 := cell_go HB hx402_22
           replace hx402_23 := cell_go HB hx402_23
           replace hx402_24 := cell_go HB hx402_24
           replace hx402_25 := cell_go HB hx402_25
           replace hx402_26 := cell_go HB hx402_26
           replace hx402_27 := cell_go HB hx402_27
           replace hx402_28 := cell_go HB hx402_28
           replace hx402_29 := cell_go HB hx402_29
           replace hx402_30 := cell_go HB hx402_30
           have HR402_9 := Aside0.mk hi402_9
           have HC402_9 := Aside0.mk hl402_9
           clear hi402_9 hl402_9
           have HR402_10 := Aside0.mk hi402_10
           have HC402_10 := Aside0.mk hl402_10
           clear hi402_10 hl402_10
           have HR402_13 := Aside0.mk hi402_13
           have HC402_13 := Aside0.mk hl402_13
           clear hi402_13 hl402_13
           have HR402_29 := Aside0.mk hi402_29
           have HC402_29 := Aside0.mk hl402_29
           clear hi402_29 hl402_29
           have HR402_30 := Aside0.mk hi402_30
           have HC402_30 := Aside0.mk hl402_30
           clear hi402_30 hl402_30
           replace p402 := eq_true p402
           replace q402 := eq_true q402
           go_wp2_with (first | ((with_reducible refine gate_load (t := 56) rfl ?_); refine load_lie (t := 56) rfl rfl hM402 HB (by with_reducible rfl) rfl Try.underlying56 rfl (show (Try.prog.info? 56).map (·.size) = some 31 by kernel_rfl) rfl ?_) | ((with_reducible refine gate_load (t := 56) rfl ?_); refine load_lie0 (t := 56) rfl rfl hM402 (by with_reducible rfl) rfl Try.underlying56 rfl (show (Try.prog.info? 56).map (·.size) = some 31 by kernel_rfl) rfl ?_) | ((with_reducible refine gate_dst (N := 4) rfl ?_); refine boxz (cs := #[.int .i64 0, .int .i64 0, .bool false, .int .i64 0, .int .i64 0, .int .i64 0, .int .i64 0, .int .i64 0, .int .i64 0, .slice none 0 0, .slice none 0 0, .bool false, .int .i64 0, .slice none 0 0, .int .i64 0, .int .i64 0, .int .i64 0, .int .i64 0, .int .i64 0, .int .i64 0, .int .i64 0, .int .i64 0, .int .i64 0, .int .i64 0, .int .i64 0, .int .i64 0, .int .i64 0, .int .i64 0, .int .i64 0, .slice none 0 0, .slice none 0 0]) (t := 56) rfl ?_; intro gb403 hg w19 hbox hb; have n0_ := Aside0.mk (blk_belowB BK401 z17_2 hb); have n1_ := Aside0.mk (below_step z17_3 hb); have n2_ := Aside0.mk (hbox); have n3_ := Aside0.mk (ge_go (a := w.heap.size) hg (below_size z17_3)); have n4_ := Aside0.mk (ge_go (a := w.heap.size) hg (below_size z17_3)); have n5_ := Aside0.mk (nb_lt hg (blk_ltB BK401 z17_2)); have n6_ := Aside0.mk (nb_gt hg (blk_ltB BK401 z17_2)); clear BK401; clear HB; have BK401 := n0_; have HB := n1_; have BK403 := n2_; have GW403 := n3_; have GE403 := n4_; have NB401_403 := n5_; have NB403_401 := n6_; clear n0_ n1_ n2_ n3_ n4_ n5_ n6_; clear hb hbox hg; have hnb20 := NB403_401.out; have hnc20 := NB401_403.out; obtain ⟨_, _, _, _, _, _, _, _, _, _, _, _, _, _, _, _, _, _, _, _, _, _, _, _, _, _, _, _, _, _, _, _, _, _, _, _, _, _, _, _, _, _, _, _, _, _, _, _, _, _, _, _, _, _, _, _, _, _, _, _, _, _⟩ := be_31 BK403.out) | ((with_reducible refine gate_callee (f := 22) rfl ?_); refine goesL_ (some 18) rfl rfl Try.func22 (by kernel_rfl) rfl #[.agg #[.int .i64 ((rd_T56 l0_0 x12_1).f0), .int .i64 ((rd_T56 l0_0 x12_1).f1), .bool ((rd_T56 l0_0 x12_1).f2), .int .i64 ((rd_T56 l0_0 x12_1).f3.f0), .int .i64 ((rd_T56 l0_0 x12_1).f3.f1), .int .i64 ((rd_T56 l0_0 x12_1).f3.f2), .int .i64 ((rd_T56 l0_0 x12_1).f3.f3), .int .i64 ((rd_T56 l0_0 x12_1).f3.f4), .int .i64 ((rd_T56 l0_0 x12_1).f3.f5), .slice A402_9 ((rd_T56 l0_0 x12_1).f4.f0).length c402_9, .slice A402_10 ((rd_T56 l0_0 x12_1).f4.f1).length c402_10, .bool ((rd_T56 l0_0 x12_1).f5), .int .i64 ((rd_T56 l0_0 x12_1).f6), .slice A402_13 ((rd_T56 l0_0 x12_1).f7).length c402_13, .int .i64 ((rd_T56 l0_0 x12_1).f8.f0), .int .i64 ((rd_T56 l0_0 x12_1).f8.f1.f0), .int .i64 ((rd_T56 l0_0 x12_1).f8.f1.f1), .int .i64 ((rd_T56 l0_0 x12_1).f8.f1.f2), .int .i64 ((rd_T56 l0_0 x12_1).f8.f1.f3), .int .i64 ((rd_T56 l0_0 x12_1).f8.f2.f0), .int .i64 ((rd_T56 l0_0 x12_1).f8.f2.f1), .int .i64 ((rd_T56 l0_0 x12_1).f8.f2.f2), .int .i64 ((rd_T56 l0_0 x12_1).f8.f2.f3), .int .i64 ((rd_T56 l0_0 x12_1).f8.f3.f0), .int .i64 ((rd_T56 l0_0 x12_1).f8.f3.f1), .int .i64 ((rd_T56 l0_0 x12_1).f8.f4.f0), .int .i64 ((rd_T56 l0_0 x12_1).f8.f4.f1), .int .i64 ((rd_T56 l0_0 x12_1).f9), .int .i64 ((rd_T56 l0_0 x12_1).f10), .slice A402_29 ((rd_T56 l0_0 x12_1).f11.f0).length c402_29, .slice A402_30 ((rd_T56 l0_0 x12_1).f11.f1).length c402_30]] rfl z17_9 ?_; (with_reducible refine (impl_NodeOk.calls k1 ((rd_T56 l0_0 x12_1).f0) ((rd_T56 l0_0 x12_1).f1) ((rd_T56 l0_0 x12_1).f2) ((rd_T56 l0_0 x12_1).f3.f0) ((rd_T56 l0_0 x12_1).f3.f1) ((rd_T56 l0_0 x12_1).f3.f2) ((rd_T56 l0_0 x12_1).f3.f3) ((rd_T56 l0_0 x12_1).f3.f4) ((rd_T56 l0_0 x12_1).f3.f5) _ _ ((rd_T56 l0_0 x12_1).f4.f0) _ _ ((rd_T56 l0_0 x12_1).f4.f1) ((rd_T56 l0_0 x12_1).f5) ((rd_T56 l0_0 x12_1).f6) _ _ ((rd_T56 l0_0 x12_1).f7) ((rd_T56 l0_0 x12_1).f8.f0) ((rd_T56 l0_0 x12_1).f8.f1.f0) ((rd_T56 l0_0 x12_1).f8.f1.f1) ((rd_T56 l0_0 x12_1).f8.f1.f2) ((rd_T56 l0_0 x12_1).f8.f1.f3) ((rd_T56 l0_0 x12_1).f8.f2.f0) ((rd_T56 l0_0 x12_1).f8.f2.f1) ((rd_T56 l0_0 x12_1).f8.f2.f2) ((rd_T56 l0_0 x12_1).f8.f2.f3) ((rd_T56 l0_0 x12_1).f8.f3.f0) ((rd_T56 l0_0 x12_1).f8.f3.f1) ((rd_T56 l0_0 x12_1).f8.f4.f0) ((rd_T56 l0_0 x12_1).f8.f4.f1) ((rd_T56 l0_0 x12_1).f9) ((rd_T56 l0_0 x12_1).f10) _ _ ((rd_T56 l0_0 x12_1).f11.f0) _ _ ((rd_T56 l0_0 x12_1).f11.f1) true _ ?side1 ?side2 ?side3 ?side4 ?side5 ?side6 ?side7 ?side8 ?side9 ?side10 A10.out).mono ?_); (case side1 => exact Kd.C_below HR402_9.out z17_1); (case side2 => exact HC402_9.out); (case side3 => exact Kd.C_below HR402_10.out z17_1); (case side4 => exact HC402_10.out); (case side5 => exact Kd.C_below HR402_13.out z17_1); (case side6 => exact HC402_13.out); (case side7 => exact Kd.C_below HR402_29.out z17_1); (case side8 => exact HC402_29.out); (case side9 => exact Kd.C_below HR402_30.out z17_1); (case side10 => exact HC402_30.out); rintro e w22 ⟨rfl, hb⟩; refine ⟨_, rfl, ?_⟩; have n0_ := Aside0.mk (blk_belowB BK401 z17_0 hb); have n1_ := Aside0.mk (blk_below (g := gb403) (o := .cells #[.int .i64 ((rd_T56 l0_0 x12_1).f0), .int .i64 ((rd_T56 l0_0 x12_1).f1), .bool ((rd_T56 l0_0 x12_1).f2), .int .i64 ((rd_T56 l0_0 x12_1).f3.f0), .int .i64 ((rd_T56 l0_0 x12_1).f3.f1), .int .i64 ((rd_T56 l0_0 x12_1).f3.f2), .int .i64 ((rd_T56 l0_0 x12_1).f3.f3), .int .i64 ((rd_T56 l0_0 x12_1).f3.f4), .int .i64 ((rd_T56 l0_0 x12_1).f3.f5), .slice A402_9 ((rd_T56 l0_0 x12_1).f4.f0).length c402_9, .slice A402_10 ((rd_T56 l0_0 x12_1).f4.f1).length c402_10, .bool ((rd_T56 l0_0 x12_1).f5), .int .i64 ((rd_T56 l0_0 x12_1).f6), .slice A402_13 ((rd_T56 l0_0 x12_1).f7).length c402_13, .int .i64 ((rd_T56 l0_0 x12_1).f8.f0), .int .i64 ((rd_T56 l0_0 x12_1).f8.f1.f0), .int .i64 ((rd_T56 l0_0 x12_1).f8.f1.f1), .int .i64 ((rd_T56 l0_0 x12_1).f8.f1.f2), .int .i64 ((rd_T56 l0_0 x12_1).f8.f1.f3), .int .i64 ((rd_T56 l0_0 x12_1).f8.f2.f0), .int .i64 ((rd_T56 l0_0 x12_1).f8.f2.f1), .int .i64 ((rd_T56 l0_0 x12_1).f8.f2.f2), .int .i64 ((rd_T56 l0_0 x12_1).f8.f2.f3), .int .i64 ((rd_T56 l0_0 x12_1).f8.f3.f0), .int .i64 ((rd_T56 l0_0 x12_1).f8.f3.f1), .int .i64 ((rd_T56 l0_0 x12_1).f8.f4.f0), .int .i64 ((rd_T56 l0_0 x12_1).f8.f4.f1), .int .i64 ((rd_T56 l0_0 x12_1).f9), .int .i64 ((rd_T56 l0_0 x12_1).f10), .slice A402_29 ((rd_T56 l0_0 x12_1).f11.f0).length c402_29, .slice A402_30 ((rd_T56 l0_0 x12_1).f11.f1).length c402_30] 56 (0, 0)) z17_4 hb); have n2_ := Aside0.mk (below_step z17_1 hb); clear BK401; clear BK403; clear HB; have BK401 := n0_; have BK403 := n1_; have HB := n2_; clear n0_ n1_ n2_; (try clear hb); obtain ⟨_, _⟩ := be_1 BK401.out; obtain ⟨_, _, _, _, _, _, _, _, _, _, _, _, _, _, _, _, _, _, _, _, _, _, _, _, _, _, _, _, _, _, _, _, _, _, _, _, _, _, _, _, _, _, _, _, _, _, _, _, _, _, _, _, _, _, _, _, _, _, _, _, _, _⟩ := be_31 BK403.out) | (go_at_call 106; (with_reducible refine (impl_NodeAt.calls k1 _ _ l0_0 ((rd_T56 l0_0 x12_1).f0) t405 _ ?side1 ?side2 A12.out).mono ?_); (case side1 => exact z17_6); (case side2 => exact HC0_0.out); rintro e w25 ⟨rfl, hb⟩; have n0_ := Aside0.mk (blk_belowB BK401 z17_2 hb); have n1_ := Aside0.mk (blk_belowB BK403 z17_7 hb); have n2_ := Aside0.mk (below_step z17_1 hb); clear BK401; clear BK403; clear HB; have BK401 := n0_; have BK403 := n1_; have HB := n2_; clear n0_ n1_ n2_; (try clear hb); obtain ⟨_, _, _, _, _, _, _, _, _, _, _, _, _, _, _, _, _, _, _, _, _, _, _, _, _, _, _, _, _, _, _, _, _, _, _, _, _, _, _, _, _, _, _, _, _, _, _, _, _, _, _, _, _, _, _, _, _, _, _, _, _, _⟩ := be_31 BK403.out) | (go_at_call 115; (with_reducible refine (impl_Scene_isParent.calls k1 gb401 (some ad402) c0_0 l0_0 ((rd_T56 l0_0 x12_1).f1) true _ ?side1 ?side2 ?side3 A14.out).mono ?_); (case side1 => (with_reducible repeat (first | refine blk_drewN ?_ _ | refine blk_drew ?_ | refine blk_alloc ?_ _)); exact BK401.out); (case side2 => exact z17_6); (case side3 => exact HC0_0.out); rintro e w27 ⟨rfl, hb⟩; have n0_ := Aside0.mk (blk_belowB BK401 z17_2 hb); have n1_ := Aside0.mk (blk_belowB BK403 z17_7 hb); have n2_ := Aside0.mk (below_step z17_1 hb); clear BK401; clear BK403; clear HB; have BK401 := n0_; have BK403 := n1_; have HB := n2_; clear n0_ n1_ n2_; (try clear hb); obtain ⟨_, _⟩ := be_1 BK401.out; obtain ⟨_, _, _, _, _, _, _, _, _, _, _, _, _, _, _, _, _, _, _, _, _, _, _, _, _, _, _, _, _, _, _, _, _, _, _, _, _, _, _, _, _, _, _, _, _, _, _, _, _, _, _, _, _, _, _, _, _, _, _, _, _, _⟩ := be_31 BK403.out) | (go_at_call 116; (with_reducible refine (impl_DepthOf.calls k1 _ _ l0_0 ((rd_T56 l0_0 x12_1).f0) t407 _ ?side1 ?side2 A16.out).mono ?_); (case side1 => exact z17_6); (case side2 => exact HC0_0.out); rintro e w30 ⟨rfl, hb⟩; have n0_ := Aside0.mk (blk_belowB BK401 z17_2 hb); have n1_ := Aside0.mk (blk_belowB BK403 z17_7 hb); have n2_ := Aside0.mk (below_step z17_1 hb); clear BK401; clear BK403; clear HB; have BK401 := n0_; have BK403 := n1_; have HB := n2_; clear n0_ n1_ n2_; (try clear hb)) | (go_at_call 72; (with_reducible refine (impl_inRange.calls t407 1 4 true _ A17.out).mono ?_); rintro e w' ⟨rfl, ⟨nd, rfl⟩⟩) | ((with_reducible refine gate_load (t := 56) rfl ?_); refine load_blk (t := 56) rfl rfl BK403 rfl z17_5 Try.underlying56 rfl (show (Try.prog.info? 56).map (·.size) = some 31 by kernel_rfl) rfl ?_) | ((with_reducible refine gate_store (t := 56) rfl ?_); refine wstore_blk (t := 56) rfl rfl BK403 rfl rfl z17_5 rfl (show (Try.prog.info? 56).map (·.size) = some 31 by kernel_rfl) rfl ?_; simp only [World.setCells, Nat.reduceAdd]) | ((with_reducible refine gate_load (t := 56) rfl ?_); refine load_event (t := 56) rfl rfl (p := ⟨gb403, 0, none⟩) rfl [.int .i64 ((rd_T56 l0_0 x12_1).f0), .int .i64 ((rd_T56 l0_0 x12_1).f1), .bool ((rd_T56 l0_0 x12_1).f2), .int .i64 ((rd_T56 l0_0 x12_1).f3.f0), .int .i64 ((rd_T56 l0_0 x12_1).f3.f1), .int .i64 ((rd_T56 l0_0 x12_1).f3.f2), .int .i64 ((rd_T56 l0_0 x12_1).f3.f3), .int .i64 ((rd_T56 l0_0 x12_1).f3.f4), .int .i64 ((rd_T56 l0_0 x12_1).f3.f5), .slice A402_9 ((rd_T56 l0_0 x12_1).f4.f0).length c402_9, .slice A402_10 ((rd_T56 l0_0 x12_1).f4.f1).length c402_10, .bool ((rd_T56 l0_0 x12_1).f5), .int .i64 ((rd_T56 l0_0 x12_1).f6), .slice A402_13 ((rd_T56 l0_0 x12_1).f7).length c402_13, .int .i64 ((rd_T56 l0_0 x12_1).f8.f0), .int .i64 ((rd_T56 l0_0 x12_1).f8.f1.f0), .int .i64 ((rd_T56 l0_0 x12_1).f8.f1.f1), .int .i64 ((rd_T56 l0_0 x12_1).f8.f1.f2), .int .i64 ((rd_T56 l0_0 x12_1).f8.f1.f3), .int .i64 ((rd_T56 l0_0 x12_1).f8.f2.f0), .int .i64 ((rd_T56 l0_0 x12_1).f8.f2.f1), .int .i64 ((rd_T56 l0_0 x12_1).f8.f2.f2), .int .i64 ((rd_T56 l0_0 x12_1).f8.f2.f3), .int .i64 ((rd_T56 l0_0 x12_1).f8.f3.f0), .int .i64 ((rd_T56 l0_0 x12_1).f8.f3.f1), .int .i64 ((rd_T56 l0_0 x12_1).f8.f4.f0), .int .i64 ((rd_T56 l0_0 x12_1).f8.f4.f1), .int .i64 ((rd_T56 l0_0 x12_1).f9), .int .i64 ((rd_T56 l0_0 x12_1).f10), .slice A402_29 ((rd_T56 l0_0 x12_1).f11.f0).length c402_29, .slice A402_30 ((rd_T56 l0_0 x12_1).f11.f1).length c402_30] _ (lie_of_blk (cs := #[.int .i64 ((rd_T56 l0_0 x12_1).f0), .int .i64 ((rd_T56 l0_0 x12_1).f1), .bool ((rd_T56 l0_0 x12_1).f2), .int .i64 ((rd_T56 l0_0 x12_1).f3.f0), .int .i64 ((rd_T56 l0_0 x12_1).f3.f1), .int .i64 ((rd_T56 l0_0 x12_1).f3.f2), .int .i64 ((rd_T56 l0_0 x12_1).f3.f3), .int .i64 ((rd_T56 l0_0 x12_1).f3.f4), .int .i64 ((rd_T56 l0_0 x12_1).f3.f5), .slice A402_9 ((rd_T56 l0_0 x12_1).f4.f0).length c402_9, .slice A402_10 ((rd_T56 l0_0 x12_1).f4.f1).length c402_10, .bool ((rd_T56 l0_0 x12_1).f5), .int .i64 ((rd_T56 l0_0 x12_1).f6), .slice A402_13 ((rd_T56 l0_0 x12_1).f7).length c402_13, .int .i64 ((rd_T56 l0_0 x12_1).f8.f0), .int .i64 ((rd_T56 l0_0 x12_1).f8.f1.f0), .int .i64 ((rd_T56 l0_0 x12_1).f8.f1.f1), .int .i64 ((rd_T56 l0_0 x12_1).f8.f1.f2), .int .i64 ((rd_T56 l0_0 x12_1).f8.f1.f3), .int .i64 ((rd_T56 l0_0 x12_1).f8.f2.f0), .int .i64 ((rd_T56 l0_0 x12_1).f8.f2.f1), .int .i64 ((rd_T56 l0_0 x12_1).f8.f2.f2), .int .i64 ((rd_T56 l0_0 x12_1).f8.f2.f3), .int .i64 ((rd_T56 l0_0 x12_1).f8.f3.f0), .int .i64 ((rd_T56 l0_0 x12_1).f8.f3.f1), .int .i64 ((rd_T56 l0_0 x12_1).f8.f4.f0), .int .i64 ((rd_T56 l0_0 x12_1).f8.f4.f1), .int .i64 ((rd_T56 l0_0 x12_1).f9), .int .i64 ((rd_T56 l0_0 x12_1).f10), .slice A402_29 ((rd_T56 l0_0 x12_1).f11.f0).length c402_29, .slice A402_30 ((rd_T56 l0_0 x12_1).f11.f1).length c402_30]) (t := 56) z17_4) Try.underlying56 rfl (show (Try.prog.info? 56).map (·.size) = some 31 by kernel_rfl) ?_))
           go_roundg k1
           case measure => have := HK1.out; omega
           case rel => exact ⟨(wrap64 (x12_1 + 1)), (by first | rfl | (simp; done) | (simp [*]; done)), H', ⟨by have := HK1.out; omega⟩, ⟨by (with_reducible repeat (first | refine blk_drewN ?_ _ | refine blk_drew ?_ | refine blk_alloc ?_ _)); exact BK401.out⟩, ⟨by repeat (first | (with_reducible first | exact HB.out | apply below_alloc | apply pw_below_drewN | apply below_drew1 | refine below_set ?_ GE401.out | refine below_set ?_ GE403.out) | exact HB.out)⟩⟩
          ·replace c18 := Bool.eq_false_iff.mpr c18
           subst c18
           have H1 : (some false) = some r := by rw [if_neg (show ¬ (false = true) by decide)] at H; exact H
           clear H; have H := H1; clear H1
           obtain rfl := Option.some.inj H
           simp only [Option.some.injEq, Prod.mk.injEq] at H
           obtain ⟨rfl⟩ := H
           have p402 : 0 ≤ (x12_1 : Int) := of_decide_eq_true (by first | (with_reducible assumption) | assumption)
           have q402 : x12_1 < (l0_0.length : Int) := of_decide_eq_true (by first | (with_reducible assumption) | assumption)
           obtain ⟨ad402, A402_9, c402_9, A402_10, c402_10, A402_13, c402_13, A402_29, c402_29, A402_30, c402_30, e402, hx402_0, hx402_1, hx402_2, hx402_3, hx402_4, hx402_5, hx402_6, hx402_7, hx402_8, hx402_9, hx402_10, hx402_11, hx402_12, hx402_13, hx402_14, hx402_15, hx402_16, hx402_17, hx402_18, hx402_19, hx402_20, hx402_21, hx402_22, hx402_23, hx402_24, hx402_25, hx402_26, hx402_27, hx402_28, hx402_29, hx402_30, hl402_9, hi402_9, hl402_10, hi402_10, hl402_13, hi402_13, hl402_29, hi402_29, hl402_30, hi402_30⟩ := at_T56 HR0_0.out x12_1 p402 q402
           have hM402 := lie_zero hx402_0 (lie_n hx402_1 (lie_n hx402_2 (lie_n hx402_3 (lie_n hx402_4 (lie_n hx402_5 (lie_n hx402_6 (lie_n hx402_7 (lie_n hx402_8 (lie_n hx402_9 (lie_n hx402_10 (lie_n hx402_11 (lie_n hx402_12 (lie_n hx402_13 (lie_n hx402_14 (lie_n hx402_15 (lie_n hx402_16 (lie_n hx402_17 (lie_n hx402_18 (lie_n hx402_19 (lie_n hx402_20 (lie_n hx402_21 (lie_n hx402_22 (lie_n hx402_23 (lie_n hx402_24 (lie_n hx402_25 (lie_n hx402_26 (lie_n hx402_27 (lie_n hx402_28 (lie_n hx402_29 (lie_n hx402_30 (lie_nil _ _ _)))))))))))))))))))))))))))))))
           cases e402
           replace hx402_0 := cell_go HB hx402_0
           replace hx402_1 := cell_go HB hx402_1
           replace hx402_2 := cell_go HB hx402_2
           replace hx402_3 := cell_go HB hx402_3
           replace hx402_4 := cell_go HB hx402_4
           replace hx402_5 := cell_go HB hx402_5
           replace hx402_6 := cell_go HB hx402_6
           replace hx402_7 := cell_go HB hx402_7
           replace hx402_8 := cell_go HB hx402_8
           replace hx402_9 := cell_go HB hx402_9
           replace hx402_10 := cell_go HB hx402_10
           replace hx402_11 := cell_go HB hx402_11
           replace hx402_12 := cell_go HB hx402_12
           replace hx402_13 := cell_go HB hx402_13
           replace hx402_14 := cell_go HB hx402_14
           replace hx402_15 := cell_go HB hx402_15
           replace hx402_16 := cell_go HB hx402_16
           replace hx402_17 := cell_go HB hx402_17
           replace hx402_18 := cell_go HB hx402_18
           replace hx402_19 := cell_go HB hx402_19
           replace hx402_20 := cell_go HB hx402_20
           replace hx402_21 := cell_go HB hx402_21
           replace hx402_22 := cell_go HB hx402_22
           replace hx402_23 := cell_go HB hx402_23
           replace hx402_24 := cell_go HB hx402_24
           replace hx402_25 := cell_go HB hx402_25
           replace hx402_26 := cell_go HB hx402_26
           replace hx402_27 := cell_go HB hx402_27
           replace hx402_28 := cell_go HB hx402_28
           replace hx402_29 := cell_go HB hx402_29
           replace hx402_30 := cell_go HB hx402_30
           have HR402_9 := Aside0.mk hi402_9
           have HC402_9 := Aside0.mk hl402_9
           clear hi402_9 hl402_9
           have HR402_10 := Aside0.mk hi402_10
           have HC402_10 := Aside0.mk hl402_10
           clear hi402_10 hl402_10
           have HR402_13 := Aside0.mk hi402_13
           have HC402_13 := Aside0.mk hl402_13
           clear hi402_13 hl402_13
           have HR402_29 := Aside0.mk hi402_29
           have HC402_29 := Aside0.mk hl402_29
           clear hi402_29 hl402_29
           have HR402_30 := Aside0.mk hi402_30
           have HC402_30 := Aside0.mk hl402_30
           clear hi402_30 hl402_30
           replace p402 := eq_true p402
           replace q402 := eq_true q402
           go_wp2_with (first | ((with_reducible refine gate_load (t := 56) rfl ?_); refine load_lie (t := 56) rfl rfl hM402 HB (by with_reducible rfl) rfl Try.underlying56 rfl (show (Try.prog.info? 56).map (·.size) = some 31 by kernel_rfl) rfl ?_) | ((with_reducible refine gate_load (t := 56) rfl ?_); refine load_lie0 (t := 56) rfl rfl hM402 (by with_reducible rfl) rfl Try.underlying56 rfl (show (Try.prog.info? 56).map (·.size) = some 31 by kernel_rfl) rfl ?_) | ((with_reducible refine gate_dst (N := 4) rfl ?_); refine boxz (cs := #[.int .i64 0, .int .i64 0, .bool false, .int .i64 0, .int .i64 0, .int .i64 0, .int .i64 0, .int .i64 0, .int .i64 0, .slice none 0 0, .slice none 0 0, .bool false, .int .i64 0, .slice none 0 0, .int .i64 0, .int .i64 0, .int .i64 0, .int .i64 0, .int .i64 0, .int .i64 0, .int .i64 0, .int .i64 0, .int .i64 0, .int .i64 0, .int .i64 0, .int .i64 0, .int .i64 0, .int .i64 0, .int .i64 0, .slice none 0 0, .slice none 0 0]) (t := 56) rfl ?_; intro gb403 hg w31 hbox hb; have n0_ := Aside0.mk (blk_belowB BK401 z17_2 hb); have n1_ := Aside0.mk (below_step z17_3 hb); have n2_ := Aside0.mk (hbox); have n3_ := Aside0.mk (ge_go (a := w.heap.size) hg (below_size z17_3)); have n4_ := Aside0.mk (ge_go (a := w.heap.size) hg (below_size z17_3)); have n5_ := Aside0.mk (nb_lt hg (blk_ltB BK401 z17_2)); have n6_ := Aside0.mk (nb_gt hg (blk_ltB BK401 z17_2)); clear BK401; clear HB; have BK401 := n0_; have HB := n1_; have BK403 := n2_; have GW403 := n3_; have GE403 := n4_; have NB401_403 := n5_; have NB403_401 := n6_; clear n0_ n1_ n2_ n3_ n4_ n5_ n6_; clear hb hbox hg; have hnb32 := NB403_401.out; have hnc32 := NB401_403.out; obtain ⟨_, _, _, _, _, _, _, _, _, _, _, _, _, _, _, _, _, _, _, _, _, _, _, _, _, _, _, _, _, _, _, _, _, _, _, _, _, _, _, _, _, _, _, _, _, _, _, _, _, _, _, _, _, _, _, _, _, _, _, _, _, _⟩ := be_31 BK403.out) | ((with_reducible refine gate_callee (f := 22) rfl ?_); refine goesL_ (some 18) rfl rfl Try.func22 (by kernel_rfl) rfl #[.agg #[.int .i64 ((rd_T56 l0_0 x12_1).f0), .int .i64 ((rd_T56 l0_0 x12_1).f1), .bool ((rd_T56 l0_0 x12_1).f2), .int .i64 ((rd_T56 l0_0 x12_1).f3.f0), .int .i64 ((rd_T56 l0_0 x12_1).f3.f1), .int .i64 ((rd_T56 l0_0 x12_1).f3.f2), .int .i64 ((rd_T56 l0_0 x12_1).f3.f3), .int .i64 ((rd_T56 l0_0 x12_1).f3.f4), .int .i64 ((rd_T56 l0_0 x12_1).f3.f5), .slice A402_9 ((rd_T56 l0_0 x12_1).f4.f0).length c402_9, .slice A402_10 ((rd_T56 l0_0 x12_1).f4.f1).length c402_10, .bool ((rd_T56 l0_0 x12_1).f5), .int .i64 ((rd_T56 l0_0 x12_1).f6), .slice A402_13 ((rd_T56 l0_0 x12_1).f7).length c402_13, .int .i64 ((rd_T56 l0_0 x12_1).f8.f0), .int .i64 ((rd_T56 l0_0 x12_1).f8.f1.f0), .int .i64 ((rd_T56 l0_0 x12_1).f8.f1.f1), .int .i64 ((rd_T56 l0_0 x12_1).f8.f1.f2), .int .i64 ((rd_T56 l0_0 x12_1).f8.f1.f3), .int .i64 ((rd_T56 l0_0 x12_1).f8.f2.f0), .int .i64 ((rd_T56 l0_0 x12_1).f8.f2.f1), .int .i64 ((rd_T56 l0_0 x12_1).f8.f2.f2), .int .i64 ((rd_T56 l0_0 x12_1).f8.f2.f3), .int .i64 ((rd_T56 l0_0 x12_1).f8.f3.f0), .int .i64 ((rd_T56 l0_0 x12_1).f8.f3.f1), .int .i64 ((rd_T56 l0_0 x12_1).f8.f4.f0), .int .i64 ((rd_T56 l0_0 x12_1).f8.f4.f1), .int .i64 ((rd_T56 l0_0 x12_1).f9), .int .i64 ((rd_T56 l0_0 x12_1).f10), .slice A402_29 ((rd_T56 l0_0 x12_1).f11.f0).length c402_29, .slice A402_30 ((rd_T56 l0_0 x12_1).f11.f1).length c402_30]] rfl z17_9 ?_; (with_reducible refine (impl_NodeOk.calls k1 ((rd_T56 l0_0 x12_1).f0) ((rd_T56 l0_0 x12_1).f1) ((rd_T56 l0_0 x12_1).f2) ((rd_T56 l0_0 x12_1).f3.f0) ((rd_T56 l0_0 x12_1).f3.f1) ((rd_T56 l0_0 x12_1).f3.f2) ((rd_T56 l0_0 x12_1).f3.f3) ((rd_T56 l0_0 x12_1).f3.f4) ((rd_T56 l0_0 x12_1).f3.f5) _ _ ((rd_T56 l0_0 x12_1).f4.f0) _ _ ((rd_T56 l0_0 x12_1).f4.f1) ((rd_T56 l0_0 x12_1).f5) ((rd_T56 l0_0 x12_1).f6) _ _ ((rd_T56 l0_0 x12_1).f7) ((rd_T56 l0_0 x12_1).f8.f0) ((rd_T56 l0_0 x12_1).f8.f1.f0) ((rd_T56 l0_0 x12_1).f8.f1.f1) ((rd_T56 l0_0 x12_1).f8.f1.f2) ((rd_T56 l0_0 x12_1).f8.f1.f3) ((rd_T56 l0_0 x12_1).f8.f2.f0) ((rd_T56 l0_0 x12_1).f8.f2.f1) ((rd_T56 l0_0 x12_1).f8.f2.f2) ((rd_T56 l0_0 x12_1).f8.f2.f3) ((rd_T56 l0_0 x12_1).f8.f3.f0) ((rd_T56 l0_0 x12_1).f8.f3.f1) ((rd_T56 l0_0 x12_1).f8.f4.f0) ((rd_T56 l0_0 x12_1).f8.f4.f1) ((rd_T56 l0_0 x12_1).f9) ((rd_T56 l0_0 x12_1).f10) _ _ ((rd_T56 l0_0 x12_1).f11.f0) _ _ ((rd_T56 l0_0 x12_1).f11.f1) true _ ?side1 ?side2 ?side3 ?side4 ?side5 ?side6 ?side7 ?side8 ?side9 ?side10 A10.out).mono ?_); (case side1 => exact Kd.C_below HR402_9.out z17_1); (case side2 => exact HC402_9.out); (case side3 => exact Kd.C_below HR402_10.out z17_1); (case side4 => exact HC402_10.out); (case side5 => exact Kd.C_below HR402_13.out z17_1); (case side6 => exact HC402_13.out); (case side7 => exact Kd.C_below HR402_29.out z17_1); (case side8 => exact HC402_29.out); (case side9 => exact Kd.C_below HR402_30.out z17_1); (case side10 => exact HC402_30.out); rintro e w34 ⟨rfl, hb⟩; refine ⟨_, rfl, ?_⟩; have n0_ := Aside0.mk (blk_belowB BK401 z17_0 hb); have n1_ := Aside0.mk (blk_below (g := gb403) (o := .cells #[.int .i64 ((rd_T56 l0_0 x12_1).f0), .int .i64 ((rd_T56 l0_0 x12_1).f1), .bool ((rd_T56 l0_0 x12_1).f2), .int .i64 ((rd_T56 l0_0 x12_1).f3.f0), .int .i64 ((rd_T56 l0_0 x12_1).f3.f1), .int .i64 ((rd_T56 l0_0 x12_1).f3.f2), .int .i64 ((rd_T56 l0_0 x12_1).f3.f3), .int .i64 ((rd_T56 l0_0 x12_1).f3.f4), .int .i64 ((rd_T56 l0_0 x12_1).f3.f5), .slice A402_9 ((rd_T56 l0_0 x12_1).f4.f0).length c402_9, .slice A402_10 ((rd_T56 l0_0 x12_1).f4.f1).length c402_10, .bool ((rd_T56 l0_0 x12_1).f5), .int .i64 ((rd_T56 l0_0 x12_1).f6), .slice A402_13 ((rd_T56 l0_0 x12_1).f7).length c402_13, .int .i64 ((rd_T56 l0_0 x12_1).f8.f0), .int .i64 ((rd_T56 l0_0 x12_1).f8.f1.f0), .int .i64 ((rd_T56 l0_0 x12_1).f8.f1.f1), .int .i64 ((rd_T56 l0_0 x12_1).f8.f1.f2), .int .i64 ((rd_T56 l0_0 x12_1).f8.f1.f3), .int .i64 ((rd_T56 l0_0 x12_1).f8.f2.f0), .int .i64 ((rd_T56 l0_0 x12_1).f8.f2.f1), .int .i64 ((rd_T56 l0_0 x12_1).f8.f2.f2), .int .i64 ((rd_T56 l0_0 x12_1).f8.f2.f3), .int .i64 ((rd_T56 l0_0 x12_1).f8.f3.f0), .int .i64 ((rd_T56 l0_0 x12_1).f8.f3.f1), .int .i64 ((rd_T56 l0_0 x12_1).f8.f4.f0), .int .i64 ((rd_T56 l0_0 x12_1).f8.f4.f1), .int .i64 ((rd_T56 l0_0 x12_1).f9), .int .i64 ((rd_T56 l0_0 x12_1).f10), .slice A402_29 ((rd_T56 l0_0 x12_1).f11.f0).length c402_29, .slice A402_30 ((rd_T56 l0_0 x12_1).f11.f1).length c402_30] 56 (0, 0)) z17_4 hb); have n2_ := Aside0.mk (below_step z17_1 hb); clear BK401; clear BK403; clear HB; have BK401 := n0_; have BK403 := n1_; have HB := n2_; clear n0_ n1_ n2_; (try clear hb); obtain ⟨_, _⟩ := be_1 BK401.out; obtain ⟨_, _, _, _, _, _, _, _, _, _, _, _, _, _, _, _, _, _, _, _, _, _, _, _, _, _, _, _, _, _, _, _, _, _, _, _, _, _, _, _, _, _, _, _, _, _, _, _, _, _, _, _, _, _, _, _, _, _, _, _, _, _⟩ := be_31 BK403.out) | (go_at_call 106; (with_reducible refine (impl_NodeAt.calls k1 _ _ l0_0 ((rd_T56 l0_0 x12_1).f0) t405 _ ?side1 ?side2 A12.out).mono ?_); (case side1 => exact z17_6); (case side2 => exact HC0_0.out); rintro e w37 ⟨rfl, hb⟩; have n0_ := Aside0.mk (blk_belowB BK401 z17_2 hb); have n1_ := Aside0.mk (blk_belowB BK403 z17_7 hb); have n2_ := Aside0.mk (below_step z17_1 hb); clear BK401; clear BK403; clear HB; have BK401 := n0_; have BK403 := n1_; have HB := n2_; clear n0_ n1_ n2_; (try clear hb); obtain ⟨_, _, _, _, _, _, _, _, _, _, _, _, _, _, _, _, _, _, _, _, _, _, _, _, _, _, _, _, _, _, _, _, _, _, _, _, _, _, _, _, _, _, _, _, _, _, _, _, _, _, _, _, _, _, _, _, _, _, _, _, _, _⟩ := be_31 BK403.out) | (go_at_call 115; (with_reducible refine (impl_Scene_isParent.calls k1 gb401 (some ad402) c0_0 l0_0 ((rd_T56 l0_0 x12_1).f1) true _ ?side1 ?side2 ?side3 A14.out).mono ?_); (case side1 => (with_reducible repeat (first | refine blk_drewN ?_ _ | refine blk_drew ?_ | refine blk_alloc ?_ _)); exact BK401.out); (case side2 => exact z17_6); (case side3 => exact HC0_0.out); rintro e w39 ⟨rfl, hb⟩; have n0_ := Aside0.mk (blk_belowB BK401 z17_2 hb); have n1_ := Aside0.mk (blk_belowB BK403 z17_7 hb); have n2_ := Aside0.mk (below_step z17_1 hb); clear BK401; clear BK403; clear HB; have BK401 := n0_; have BK403 := n1_; have HB := n2_; clear n0_ n1_ n2_; (try clear hb); obtain ⟨_, _⟩ := be_1 BK401.out; obtain ⟨_, _, _, _, _, _, _, _, _, _, _, _, _, _, _, _, _, _, _, _, _, _, _, _, _, _, _, _, _, _, _, _, _, _, _, _, _, _, _, _, _, _, _, _, _, _, _, _, _, _, _, _, _, _, _, _, _, _, _, _, _, _⟩ := be_31 BK403.out) | (go_at_call 116; (with_reducible refine (impl_DepthOf.calls k1 _ _ l0_0 ((rd_T56 l0_0 x12_1).f0) t407 _ ?side1 ?side2 A16.out).mono ?_); (case side1 => exact z17_6); (case side2 => exact HC0_0.out); rintro e w42 ⟨rfl, hb⟩; have n0_ := Aside0.mk (blk_belowB BK401 z17_2 hb); have n1_ := Aside0.mk (blk_belowB BK403 z17_7 hb); have n2_ := Aside0.mk (below_step z17_1 hb); clear BK401; clear BK403; clear HB; have BK401 := n0_; have BK403 := n1_; have HB := n2_; clear n0_ n1_ n2_; (try clear hb)) | (go_at_call 72; (with_reducible refine (impl_inRange.calls t407 1 4 false _ A17.out).mono ?_); rintro e w' ⟨rfl, ⟨nd, rfl⟩⟩) | ((with_reducible refine gate_load (t := 56) rfl ?_); refine load_blk (t := 56) rfl rfl BK403 rfl z17_5 Try.underlying56 rfl (show (Try.prog.info? 56).map (·.size) = some 31 by kernel_rfl) rfl ?_) | ((with_reducible refine gate_store (t := 56) rfl ?_); refine wstore_blk (t := 56) rfl rfl BK403 rfl rfl z17_5 rfl (show (Try.prog.info? 56).map (·.size) = some 31 by kernel_rfl) rfl ?_; simp only [World.setCells, Nat.reduceAdd]) | ((with_reducible refine gate_load (t := 56) rfl ?_); refine load_event (t := 56) rfl rfl (p := ⟨gb403, 0, none⟩) rfl [.int .i64 ((rd_T56 l0_0 x12_1).f0), .int .i64 ((rd_T56 l0_0 x12_1).f1), .bool ((rd_T56 l0_0 x12_1).f2), .int .i64 ((rd_T56 l0_0 x12_1).f3.f0), .int .i64 ((rd_T56 l0_0 x12_1).f3.f1), .int .i64 ((rd_T56 l0_0 x12_1).f3.f2), .int .i64 ((rd_T56 l0_0 x12_1).f3.f3), .int .i64 ((rd_T56 l0_0 x12_1).f3.f4), .int .i64 ((rd_T56 l0_0 x12_1).f3.f5), .slice A402_9 ((rd_T56 l0_0 x12_1).f4.f0).length c402_9, .slice A402_10 ((rd_T56 l0_0 x12_1).f4.f1).length c402_10, .bool ((rd_T56 l0_0 x12_1).f5), .int .i64 ((rd_T56 l0_0 x12_1).f6), .slice A402_13 ((rd_T56 l0_0 x12_1).f7).length c402_13, .int .i64 ((rd_T56 l0_0 x12_1).f8.f0), .int .i64 ((rd_T56 l0_0 x12_1).f8.f1.f0), .int .i64 ((rd_T56 l0_0 x12_1).f8.f1.f1), .int .i64 ((rd_T56 l0_0 x12_1).f8.f1.f2), .int .i64 ((rd_T56 l0_0 x12_1).f8.f1.f3), .int .i64 ((rd_T56 l0_0 x12_1).f8.f2.f0), .int .i64 ((rd_T56 l0_0 x12_1).f8.f2.f1), .int .i64 ((rd_T56 l0_0 x12_1).f8.f2.f2), .int .i64 ((rd_T56 l0_0 x12_1).f8.f2.f3), .int .i64 ((rd_T56 l0_0 x12_1).f8.f3.f0), .int .i64 ((rd_T56 l0_0 x12_1).f8.f3.f1), .int .i64 ((rd_T56 l0_0 x12_1).f8.f4.f0), .int .i64 ((rd_T56 l0_0 x12_1).f8.f4.f1), .int .i64 ((rd_T56 l0_0 x12_1).f9), .int .i64 ((rd_T56 l0_0 x12_1).f10), .slice A402_29 ((rd_T56 l0_0 x12_1).f11.f0).length c402_29, .slice A402_30 ((rd_T56 l0_0 x12_1).f11.f1).length c402_30] _ (lie_of_blk (cs := #[.int .i64 ((rd_T56 l0_0 x12_1).f0), .int .i64 ((rd_T56 l0_0 x12_1).f1), .bool ((rd_T56 l0_0 x12_1).f2), .int .i64 ((rd_T56 l0_0 x12_1).f3.f0), .int .i64 ((rd_T56 l0_0 x12_1).f3.f1), .int .i64 ((rd_T56 l0_0 x12_1).f3.f2), .int .i64 ((rd_T56 l0_0 x12_1).f3.f3), .int .i64 ((rd_T56 l0_0 x12_1).f3.f4), .int .i64 ((rd_T56 l0_0 x12_1).f3.f5), .slice A402_9 ((rd_T56 l0_0 x12_1).f4.f0).length c402_9, .slice A402_10 ((rd_T56 l0_0 x12_1).f4.f1).length c402_10, .bool ((rd_T56 l0_0 x12_1).f5), .int .i64 ((rd_T56 l0_0 x12_1).f6), .slice A402_13 ((rd_T56 l0_0 x12_1).f7).length c402_13, .int .i64 ((rd_T56 l0_0 x12_1).f8.f0), .int .i64 ((rd_T56 l0_0 x12_1).f8.f1.f0), .int .i64 ((rd_T56 l0_0 x12_1).f8.f1.f1), .int .i64 ((rd_T56 l0_0 x12_1).f8.f1.f2), .int .i64 ((rd_T56 l0_0 x12_1).f8.f1.f3), .int .i64 ((rd_T56 l0_0 x12_1).f8.f2.f0), .int .i64 ((rd_T56 l0_0 x12_1).f8.f2.f1), .int .i64 ((rd_T56 l0_0 x12_1).f8.f2.f2), .int .i64 ((rd_T56 l0_0 x12_1).f8.f2.f3), .int .i64 ((rd_T56 l0_0 x12_1).f8.f3.f0), .int .i64 ((rd_T56 l0_0 x12_1).f8.f3.f1), .int .i64 ((rd_T56 l0_0 x12_1).f8.f4.f0), .int .i64 ((rd_T56 l0_0 x12_1).f8.f4.f1), .int .i64 ((rd_T56 l0_0 x12_1).f9), .int .i64 ((rd_T56 l0_0 x12_1).f10), .slice A402_29 ((rd_T56 l0_0 x12_1).f11.f0).length c402_29, .slice A402_30 ((rd_T56 l0_0 x12_1).f11.f1).length c402_30]) (t := 56) z17_4) Try.underlying56 rfl (show (Try.prog.info? 56).map (·.size) = some 31 by kernel_rfl) ?_))
           go_ret
           exact ⟨z17_10, z17_1⟩
         ·replace c15 := Bool.eq_false_iff.mpr c15
          subst c15
          have H1 : (some false) = some r := by rw [if_neg (show ¬ (false = true) by decide)] at H; exact H
          clear H; have H := H1; clear H1
          obtain rfl := Option.some.inj H
          simp only [Option.some.injEq, Prod.mk.injEq] at H
          obtain ⟨rfl⟩ := H
          have p402 : 0 ≤ (x12_1 : Int) := of_decide_eq_true (by first | (with_reducible assumption) | assumption)
          have q402 : x12_1 < (l0_0.length : Int) := of_decide_eq_true (by first | (with_reducible assumption) | assumption)
          obtain ⟨ad402, A402_9, c402_9, A402_10, c402_10, A402_13, c402_13, A402_29, c402_29, A402_30, c402_30, e402, hx402_0, hx402_1, hx402_2, hx402_3, hx402_4, hx402_5, hx402_6, hx402_7, hx402_8, hx402_9, hx402_10, hx402_11, hx402_12, hx402_13, hx402_14, hx402_15, hx402_16, hx402_17, hx402_18, hx402_19, hx402_20, hx402_21, hx402_22, hx402_23, hx402_24, hx402_25, hx402_26, hx402_27, hx402_28, hx402_29, hx402_30, hl402_9, hi402_9, hl402_10, hi402_10, hl402_13, hi402_13, hl402_29, hi402_29, hl402_30, hi402_30⟩ := at_T56 HR0_0.out x12_1 p402 q402
          have hM402 := lie_zero hx402_0 (lie_n hx402_1 (lie_n hx402_2 (lie_n hx402_3 (lie_n hx402_4 (lie_n hx402_5 (lie_n hx402_6 (lie_n hx402_7 (lie_n hx402_8 (lie_n hx402_9 (lie_n hx402_10 (lie_n hx402_11 (lie_n hx402_12 (lie_n hx402_13 (lie_n hx402_14 (lie_n hx402_15 (lie_n hx402_16 (lie_n hx402_17 (lie_n hx402_18 (lie_n hx402_19 (lie_n hx402_20 (lie_n hx402_21 (lie_n hx402_22 (lie_n hx402_23 (lie_n hx402_24 (lie_n hx402_25 (lie_n hx402_26 (lie_n hx402_27 (lie_n hx402_28 (lie_n hx402_29 (lie_n hx402_30 (lie_nil _ _ _)))))))))))))))))))))))))))))))
          cases e402
          replace hx402_0 := cell_go HB hx402_0
          replace hx402_1 := cell_go HB hx402_1
          replace hx402_2 := cell_go HB hx402_2
          replace hx402_3 := cell_go HB hx402_3
          replace hx402_4 := cell_go HB hx402_4
          replace hx402_5 := cell_go HB hx402_5
          replace hx402_6 := cell_go HB hx402_6
          replace hx402_7 := cell_go HB hx402_7
          replace hx402_8 := cell_go HB hx402_8
          replace hx402_9 := cell_go HB hx402_9
          replace hx402_10 := cell_go HB hx402_10
          replace hx402_11 := cell_go HB hx402_11
          replace hx402_12 := cell_go HB hx402_12
          replace hx402_13 := cell_go HB hx402_13
          replace hx402_14 := cell_go HB hx402_14
          replace hx402_15 := cell_go HB hx402_15
          replace hx402_16 := cell_go HB hx402_16
          replace hx402_17 := cell_go HB hx402_17
          replace hx402_18 := cell_go HB hx402_18
          replace hx402_19 := cell_go HB hx402_19
          replace hx402_20 := cell_go HB hx402_20
          replace hx402_21 := cell_go HB hx402_21
          replace hx402_22 := cell_go HB hx402_22
          replace hx402_23 := cell_go HB hx402_23
          replace hx402_24 := cell_go HB hx402_24
          replace hx402_25 := cell_go HB hx402_25
          replace hx402_26 := cell_go HB hx402_26
          replace hx402_27 := cell_go HB hx402_27
          replace hx402_28 := cell_go HB hx402_28
          replace hx402_29 := cell_go HB hx402_29
          replace hx402_30 := cell_go HB hx402_30
          have HR402_9 := Aside0.mk hi402_9
          have HC402_9 := Aside0.mk hl402_9
          clear hi402_9 hl402_9
          have HR402_10 := Aside0.mk hi402_10
          have HC402_10 := Aside0.mk hl402_10
          clear hi402_10 hl402_10
          have HR402_13 := Aside0.mk hi402_13
          have HC402_13 := Aside0.mk hl402_13
          clear hi402_13 hl402_13
          have HR402_29 := Aside0.mk hi402_29
          have HC402_29 := Aside0.mk hl402_29
          clear hi402_29 hl402_29
          have HR402_30 := Aside0.mk hi402_30
          have HC402_30 := Aside0.mk hl402_30
          clear hi402_30 hl402_30
          replace p402 := eq_true p402
          replace q402 := eq_true q402
          go_wp2_with (first | ((with_reducible refine gate_load (t := 56) rfl ?_); refine load_lie (t := 56) rfl rfl hM402 HB (by with_reducible rfl) rfl Try.underlying56 rfl (show (Try.prog.info? 56).map (·.size) = some 31 by kernel_rfl) rfl ?_) | ((with_reducible refine gate_load (t := 56) rfl ?_); refine load_lie0 (t := 56) rfl rfl hM402 (by with_reducible rfl) rfl Try.underlying56 rfl (show (Try.prog.info? 56).map (·.size) = some 31 by kernel_rfl) rfl ?_) | ((with_reducible refine gate_dst (N := 4) rfl ?_); refine boxz (cs := #[.int .i64 0, .int .i64 0, .bool false, .int .i64 0, .int .i64 0, .int .i64 0, .int .i64 0, .int .i64 0, .int .i64 0, .slice none 0 0, .slice none 0 0, .bool false, .int .i64 0, .slice none 0 0, .int .i64 0, .int .i64 0, .int .i64 0, .int .i64 0, .int .i64 0, .int .i64 0, .int .i64 0, .int .i64 0, .int .i64 0, .int .i64 0, .int .i64 0, .int .i64 0, .int .i64 0, .int .i64 0, .int .i64 0, .slice none 0 0, .slice none 0 0]) (t := 56) rfl ?_; intro gb403 hg w43 hbox hb; have n0_ := Aside0.mk (blk_belowB BK401 z17_2 hb); have n1_ := Aside0.mk (below_step z17_3 hb); have n2_ := Aside0.mk (hbox); have n3_ := Aside0.mk (ge_go (a := w.heap.size) hg (below_size z17_3)); have n4_ := Aside0.mk (ge_go (a := w.heap.size) hg (below_size z17_3)); have n5_ := Aside0.mk (nb_lt hg (blk_ltB BK401 z17_2)); have n6_ := Aside0.mk (nb_gt hg (blk_ltB BK401 z17_2)); clear BK401; clear HB; have BK401 := n0_; have HB := n1_; have BK403 := n2_; have GW403 := n3_; have GE403 := n4_; have NB401_403 := n5_; have NB403_401 := n6_; clear n0_ n1_ n2_ n3_ n4_ n5_ n6_; clear hb hbox hg; have hnb44 := NB403_401.out; have hnc44 := NB401_403.out; obtain ⟨_, _, _, _, _, _, _, _, _, _, _, _, _, _, _, _, _, _, _, _, _, _, _, _, _, _, _, _, _, _, _, _, _, _, _, _, _, _, _, _, _, _, _, _, _, _, _, _, _, _, _, _, _, _, _, _, _, _, _, _, _, _⟩ := be_31 BK403.out) | ((with_reducible refine gate_callee (f := 22) rfl ?_); refine goesL_ (some 18) rfl rfl Try.func22 (by kernel_rfl) rfl #[.agg #[.int .i64 ((rd_T56 l0_0 x12_1).f0), .int .i64 ((rd_T56 l0_0 x12_1).f1), .bool ((rd_T56 l0_0 x12_1).f2), .int .i64 ((rd_T56 l0_0 x12_1).f3.f0), .int .i64 ((rd_T56 l0_0 x12_1).f3.f1), .int .i64 ((rd_T56 l0_0 x12_1).f3.f2), .int .i64 ((rd_T56 l0_0 x12_1).f3.f3), .int .i64 ((rd_T56 l0_0 x12_1).f3.f4), .int .i64 ((rd_T56 l0_0 x12_1).f3.f5), .slice A402_9 ((rd_T56 l0_0 x12_1).f4.f0).length c402_9, .slice A402_10 ((rd_T56 l0_0 x12_1).f4.f1).length c402_10, .bool ((rd_T56 l0_0 x12_1).f5), .int .i64 ((rd_T56 l0_0 x12_1).f6), .slice A402_13 ((rd_T56 l0_0 x12_1).f7).length c402_13, .int .i64 ((rd_T56 l0_0 x12_1).f8.f0), .int .i64 ((rd_T56 l0_0 x12_1).f8.f1.f0), .int .i64 ((rd_T56 l0_0 x12_1).f8.f1.f1), .int .i64 ((rd_T56 l0_0 x12_1).f8.f1.f2), .int .i64 ((rd_T56 l0_0 x12_1).f8.f1.f3), .int .i64 ((rd_T56 l0_0 x12_1).f8.f2.f0), .int .i64 ((rd_T56 l0_0 x12_1).f8.f2.f1), .int .i64 ((rd_T56 l0_0 x12_1).f8.f2.f2), .int .i64 ((rd_T56 l0_0 x12_1).f8.f2.f3), .int .i64 ((rd_T56 l0_0 x12_1).f8.f3.f0), .int .i64 ((rd_T56 l0_0 x12_1).f8.f3.f1), .int .i64 ((rd_T56 l0_0 x12_1).f8.f4.f0), .int .i64 ((rd_T56 l0_0 x12_1).f8.f4.f1), .int .i64 ((rd_T56 l0_0 x12_1).f9), .int .i64 ((rd_T56 l0_0 x12_1).f10), .slice A402_29 ((rd_T56 l0_0 x12_1).f11.f0).length c402_29, .slice A402_30 ((rd_T56 l0_0 x12_1).f11.f1).length c402_30]] rfl z17_9 ?_; (with_reducible refine (impl_NodeOk.calls k1 ((rd_T56 l0_0 x12_1).f0) ((rd_T56 l0_0 x12_1).f1) ((rd_T56 l0_0 x12_1).f2) ((rd_T56 l0_0 x12_1).f3.f0) ((rd_T56 l0_0 x12_1).f3.f1) ((rd_T56 l0_0 x12_1).f3.f2) ((rd_T56 l0_0 x12_1).f3.f3) ((rd_T56 l0_0 x12_1).f3.f4) ((rd_T56 l0_0 x12_1).f3.f5) _ _ ((rd_T56 l0_0 x12_1).f4.f0) _ _ ((rd_T56 l0_0 x12_1).f4.f1) ((rd_T56 l0_0 x12_1).f5) ((rd_T56 l0_0 x12_1).f6) _ _ ((rd_T56 l0_0 x12_1).f7) ((rd_T56 l0_0 x12_1).f8.f0) ((rd_T56 l0_0 x12_1).f8.f1.f0) ((rd_T56 l0_0 x12_1).f8.f1.f1) ((rd_T56 l0_0 x12_1).f8.f1.f2) ((rd_T56 l0_0 x12_1).f8.f1.f3) ((rd_T56 l0_0 x12_1).f8.f2.f0) ((rd_T56 l0_0 x12_1).f8.f2.f1) ((rd_T56 l0_0 x12_1).f8.f2.f2) ((rd_T56 l0_0 x12_1).f8.f2.f3) ((rd_T56 l0_0 x12_1).f8.f3.f0) ((rd_T56 l0_0 x12_1).f8.f3.f1) ((rd_T56 l0_0 x12_1).f8.f4.f0) ((rd_T56 l0_0 x12_1).f8.f4.f1) ((rd_T56 l0_0 x12_1).f9) ((rd_T56 l0_0 x12_1).f10) _ _ ((rd_T56 l0_0 x12_1).f11.f0) _ _ ((rd_T56 l0_0 x12_1).f11.f1) true _ ?side1 ?side2 ?side3 ?side4 ?side5 ?side6 ?side7 ?side8 ?side9 ?side10 A10.out).mono ?_); (case side1 => exact Kd.C_below HR402_9.out z17_1); (case side2 => exact HC402_9.out); (case side3 => exact Kd.C_below HR402_10.out z17_1); (case side4 => exact HC402_10.out); (case side5 => exact Kd.C_below HR402_13.out z17_1); (case side6 => exact HC402_13.out); (case side7 => exact Kd.C_below HR402_29.out z17_1); (case side8 => exact HC402_29.out); (case side9 => exact Kd.C_below HR402_30.out z17_1); (case side10 => exact HC402_30.out); rintro e w46 ⟨rfl, hb⟩; refine ⟨_, rfl, ?_⟩; have n0_ := Aside0.mk (blk_belowB BK401 z17_0 hb); have n1_ := Aside0.mk (blk_below (g := gb403) (o := .cells #[.int .i64 ((rd_T56 l0_0 x12_1).f0), .int .i64 ((rd_T56 l0_0 x12_1).f1), .bool ((rd_T56 l0_0 x12_1).f2), .int .i64 ((rd_T56 l0_0 x12_1).f3.f0), .int .i64 ((rd_T56 l0_0 x12_1).f3.f1), .int .i64 ((rd_T56 l0_0 x12_1).f3.f2), .int .i64 ((rd_T56 l0_0 x12_1).f3.f3), .int .i64 ((rd_T56 l0_0 x12_1).f3.f4), .int .i64 ((rd_T56 l0_0 x12_1).f3.f5), .slice A402_9 ((rd_T56 l0_0 x12_1).f4.f0).length c402_9, .slice A402_10 ((rd_T56 l0_0 x12_1).f4.f1).length c402_10, .bool ((rd_T56 l0_0 x12_1).f5), .int .i64 ((rd_T56 l0_0 x12_1).f6), .slice A402_13 ((rd_T56 l0_0 x12_1).f7).length c402_13, .int .i64 ((rd_T56 l0_0 x12_1).f8.f0), .int .i64 ((rd_T56 l0_0 x12_1).f8.f1.f0), .int .i64 ((rd_T56 l0_0 x12_1).f8.f1.f1), .int .i64 ((rd_T56 l0_0 x12_1).f8.f1.f2), .int .i64 ((rd_T56 l0_0 x12_1).f8.f1.f3), .int .i64 ((rd_T56 l0_0 x12_1).f8.f2.f0), .int .i64 ((rd_T56 l0_0 x12_1).f8.f2.f1), .int .i64 ((rd_T56 l0_0 x12_1).f8.f2.f2), .int .i64 ((rd_T56 l0_0 x12_1).f8.f2.f3), .int .i64 ((rd_T56 l0_0 x12_1).f8.f3.f0), .int .i64 ((rd_T56 l0_0 x12_1).f8.f3.f1), .int .i64 ((rd_T56 l0_0 x12_1).f8.f4.f0), .int .i64 ((rd_T56 l0_0 x12_1).f8.f4.f1), .int .i64 ((rd_T56 l0_0 x12_1).f9), .int .i64 ((rd_T56 l0_0 x12_1).f10), .slice A402_29 ((rd_T56 l0_0 x12_1).f11.f0).length c402_29, .slice A402_30 ((rd_T56 l0_0 x12_1).f11.f1).length c402_30] 56 (0, 0)) z17_4 hb); have n2_ := Aside0.mk (below_step z17_1 hb); clear BK401; clear BK403; clear HB; have BK401 := n0_; have BK403 := n1_; have HB := n2_; clear n0_ n1_ n2_; (try clear hb); obtain ⟨_, _⟩ := be_1 BK401.out; obtain ⟨_, _, _, _, _, _, _, _, _, _, _, _, _, _, _, _, _, _, _, _, _, _, _, _, _, _, _, _, _, _, _, _, _, _, _, _, _, _, _, _, _, _, _, _, _, _, _, _, _, _, _, _, _, _, _, _, _, _, _, _, _, _⟩ := be_31 BK403.out) | (go_at_call 106; (with_reducible refine (impl_NodeAt.calls k1 _ _ l0_0 ((rd_T56 l0_0 x12_1).f0) t405 _ ?side1 ?side2 A12.out).mono ?_); (case side1 => exact z17_6); (case side2 => exact HC0_0.out); rintro e w49 ⟨rfl, hb⟩; have n0_ := Aside0.mk (blk_belowB BK401 z17_2 hb); have n1_ := Aside0.mk (blk_belowB BK403 z17_7 hb); have n2_ := Aside0.mk (below_step z17_1 hb); clear BK401; clear BK403; clear HB; have BK401 := n0_; have BK403 := n1_; have HB := n2_; clear n0_ n1_ n2_; (try clear hb); obtain ⟨_, _, _, _, _, _, _, _, _, _, _, _, _, _, _, _, _, _, _, _, _, _, _, _, _, _, _, _, _, _, _, _, _, _, _, _, _, _, _, _, _, _, _, _, _, _, _, _, _, _, _, _, _, _, _, _, _, _, _, _, _, _⟩ := be_31 BK403.out) | (go_at_call 115; (with_reducible refine (impl_Scene_isParent.calls k1 gb401 (some ad402) c0_0 l0_0 ((rd_T56 l0_0 x12_1).f1) false _ ?side1 ?side2 ?side3 A14.out).mono ?_); (case side1 => (with_reducible repeat (first | refine blk_drewN ?_ _ | refine blk_drew ?_ | refine blk_alloc ?_ _)); exact BK401.out); (case side2 => exact z17_6); (case side3 => exact HC0_0.out); rintro e w51 ⟨rfl, hb⟩; have n0_ := Aside0.mk (blk_belowB BK401 z17_2 hb); have n1_ := Aside0.mk (blk_belowB BK403 z17_7 hb); have n2_ := Aside0.mk (below_step z17_1 hb); clear BK401; clear BK403; clear HB; have BK401 := n0_; have BK403 := n1_; have HB := n2_; clear n0_ n1_ n2_; (try clear hb)) | ((with_reducible refine gate_load (t := 56) rfl ?_); refine load_blk (t := 56) rfl rfl BK403 rfl z17_5 Try.underlying56 rfl (show (Try.prog.info? 56).map (·.size) = some 31 by kernel_rfl) rfl ?_) | ((with_reducible refine gate_store (t := 56) rfl ?_); refine wstore_blk (t := 56) rfl rfl BK403 rfl rfl z17_5 rfl (show (Try.prog.info? 56).map (·.size) = some 31 by kernel_rfl) rfl ?_; simp only [World.setCells, Nat.reduceAdd]) | ((with_reducible refine gate_load (t := 56) rfl ?_); refine load_event (t := 56) rfl rfl (p := ⟨gb403, 0, none⟩) rfl [.int .i64 ((rd_T56 l0_0 x12_1).f0), .int .i64 ((rd_T56 l0_0 x12_1).f1), .bool ((rd_T56 l0_0 x12_1).f2), .int .i64 ((rd_T56 l0_0 x12_1).f3.f0), .int .i64 ((rd_T56 l0_0 x12_1).f3.f1), .int .i64 ((rd_T56 l0_0 x12_1).f3.f2), .int .i64 ((rd_T56 l0_0 x12_1).f3.f3), .int .i64 ((rd_T56 l0_0 x12_1).f3.f4), .int .i64 ((rd_T56 l0_0 x12_1).f3.f5), .slice A402_9 ((rd_T56 l0_0 x12_1).f4.f0).length c402_9, .slice A402_10 ((rd_T56 l0_0 x12_1).f4.f1).length c402_10, .bool ((rd_T56 l0_0 x12_1).f5), .int .i64 ((rd_T56 l0_0 x12_1).f6), .slice A402_13 ((rd_T56 l0_0 x12_1).f7).length c402_13, .int .i64 ((rd_T56 l0_0 x12_1).f8.f0), .int .i64 ((rd_T56 l0_0 x12_1).f8.f1.f0), .int .i64 ((rd_T56 l0_0 x12_1).f8.f1.f1), .int .i64 ((rd_T56 l0_0 x12_1).f8.f1.f2), .int .i64 ((rd_T56 l0_0 x12_1).f8.f1.f3), .int .i64 ((rd_T56 l0_0 x12_1).f8.f2.f0), .int .i64 ((rd_T56 l0_0 x12_1).f8.f2.f1), .int .i64 ((rd_T56 l0_0 x12_1).f8.f2.f2), .int .i64 ((rd_T56 l0_0 x12_1).f8.f2.f3), .int .i64 ((rd_T56 l0_0 x12_1).f8.f3.f0), .int .i64 ((rd_T56 l0_0 x12_1).f8.f3.f1), .int .i64 ((rd_T56 l0_0 x12_1).f8.f4.f0), .int .i64 ((rd_T56 l0_0 x12_1).f8.f4.f1), .int .i64 ((rd_T56 l0_0 x12_1).f9), .int .i64 ((rd_T56 l0_0 x12_1).f10), .slice A402_29 ((rd_T56 l0_0 x12_1).f11.f0).length c402_29, .slice A402_30 ((rd_T56 l0_0 x12_1).f11.f1).length c402_30] _ (lie_of_blk (cs := #[.int .i64 ((rd_T56 l0_0 x12_1).f0), .int .i64 ((rd_T56 l0_0 x12_1).f1), .bool ((rd_T56 l0_0 x12_1).f2), .int .i64 ((rd_T56 l0_0 x12_1).f3.f0), .int .i64 ((rd_T56 l0_0 x12_1).f3.f1), .int .i64 ((rd_T56 l0_0 x12_1).f3.f2), .int .i64 ((rd_T56 l0_0 x12_1).f3.f3), .int .i64 ((rd_T56 l0_0 x12_1).f3.f4), .int .i64 ((rd_T56 l0_0 x12_1).f3.f5), .slice A402_9 ((rd_T56 l0_0 x12_1).f4.f0).length c402_9, .slice A402_10 ((rd_T56 l0_0 x12_1).f4.f1).length c402_10, .bool ((rd_T56 l0_0 x12_1).f5), .int .i64 ((rd_T56 l0_0 x12_1).f6), .slice A402_13 ((rd_T56 l0_0 x12_1).f7).length c402_13, .int .i64 ((rd_T56 l0_0 x12_1).f8.f0), .int .i64 ((rd_T56 l0_0 x12_1).f8.f1.f0), .int .i64 ((rd_T56 l0_0 x12_1).f8.f1.f1), .int .i64 ((rd_T56 l0_0 x12_1).f8.f1.f2), .int .i64 ((rd_T56 l0_0 x12_1).f8.f1.f3), .int .i64 ((rd_T56 l0_0 x12_1).f8.f2.f0), .int .i64 ((rd_T56 l0_0 x12_1).f8.f2.f1), .int .i64 ((rd_T56 l0_0 x12_1).f8.f2.f2), .int .i64 ((rd_T56 l0_0 x12_1).f8.f2.f3), .int .i64 ((rd_T56 l0_0 x12_1).f8.f3.f0), .int .i64 ((rd_T56 l0_0 x12_1).f8.f3.f1), .int .i64 ((rd_T56 l0_0 x12_1).f8.f4.f0), .int .i64 ((rd_T56 l0_0 x12_1).f8.f4.f1), .int .i64 ((rd_T56 l0_0 x12_1).f9), .int .i64 ((rd_T56 l0_0 x12_1).f10), .slice A402_29 ((rd_T56 l0_0 x12_1).f11.f0).length c402_29, .slice A402_30 ((rd_T56 l0_0 x12_1).f11.f1).length c402_30]) (t := 56) z17_4) Try.underlying56 rfl (show (Try.prog.info? 56).map (·.size) = some 31 by kernel_rfl) ?_))
          go_ret
          exact ⟨z17_10, z17_1⟩
        ·rw [if_neg c13] at H
         have c13b0 : (t405 == x12_1) = false := beq_eq_false_iff_ne.mpr c13
         have c13b1 : (t405 != x12_1) = true := bne_iff_ne.mpr c13
         obtain rfl := Option.some.inj H
         simp only [Option.some.injEq, Prod.mk.injEq] at H
         obtain ⟨rfl⟩ := H
         have p402 : 0 ≤ (x12_1 : Int) := of_decide_eq_true (by first | (with_reducible assumption) | assumption)
         have q402 : x12_1 < (l0_0.length : Int) := of_decide_eq_true (by first | (with_reducible assumption) | assumption)
         obtain ⟨ad402, A402_9, c402_9, A402_10, c402_10, A402_13, c402_13, A402_29, c402_29, A402_30, c402_30, e402, hx402_0, hx402_1, hx402_2, hx402_3, hx402_4, hx402_5, hx402_6, hx402_7, hx402_8, hx402_9, hx402_10, hx402_11, hx402_12, hx402_13, hx402_14, hx402_15, hx402_16, hx402_17, hx402_18, hx402_19, hx402_20, hx402_21, hx402_22, hx402_23, hx402_24, hx402_25, hx402_26, hx402_27, hx402_28, hx402_29, hx402_30, hl402_9, hi402_9, hl402_10, hi402_10, hl402_13, hi402_13, hl402_29, hi402_29, hl402_30, hi402_30⟩ := at_T56 HR0_0.out x12_1 p402 q402
         have hM402 := lie_zero hx402_0 (lie_n hx402_1 (lie_n hx402_2 (lie_n hx402_3 (lie_n hx402_4 (lie_n hx402_5 (lie_n hx402_6 (lie_n hx402_7 (lie_n hx402_8 (lie_n hx402_9 (lie_n hx402_10 (lie_n hx402_11 (lie_n hx402_12 (lie_n hx402_13 (lie_n hx402_14 (lie_n hx402_15 (lie_n hx402_16 (lie_n hx402_17 (lie_n hx402_18 (lie_n hx402_19 (lie_n hx402_20 (lie_n hx402_21 (lie_n hx402_22 (lie_n hx402_23 (lie_n hx402_24 (lie_n hx402_25 (lie_n hx402_26 (lie_n hx402_27 (lie_n hx402_28 (lie_n hx402_29 (lie_n hx402_30 (lie_nil _ _ _)))))))))))))))))))))))))))))))
         cases e402
         replace hx402_0 := cell_go HB hx402_0
         replace hx402_1 := cell_go HB hx402_1
         replace hx402_2 := cell_go HB hx402_2
         replace hx402_3 := cell_go HB hx402_3
         replace hx402_4 := cell_go HB hx402_4
         replace hx402_5 := cell_go HB hx402_5
         replace hx402_6 := cell_go HB hx402_6
         replace hx402_7 := cell_go HB hx402_7
         replace hx402_8 := cell_go HB hx402_8
         replace hx402_9 := cell_go HB hx402_9
         replace hx402_10 := cell_go HB hx402_10
         replace hx402_11 := cell_go HB hx402_11
         replace hx402_12 := cell_go HB hx402_12
         replace hx402_13 := cell_go HB hx402_13
         replace hx402_14 := cell_go HB hx402_14
         replace hx402_15 := cell_go HB hx402_15
         replace hx402_16 := cell_go HB hx402_16
         replace hx402_17 := cell_go HB hx402_17
         replace hx402_18 := cell_go HB hx402_18
         replace hx402_19 := cell_go HB hx402_19
         replace hx402_20 := cell_go HB hx402_20
         replace hx402_21 := cell_go HB hx402_21
         replace hx402_22 := cell_go HB hx402_22
         replace hx402_23 := cell_go HB hx402_23
         replace hx402_24 := cell_go HB hx402_24
         replace hx402_25 := cell_go HB hx402_25
         replace hx402_26 := cell_go HB hx402_26
         replace hx402_27 := cell_go HB hx402_27
         replace hx402_28 := cell_go HB hx402_28
         replace hx402_29 := cell_go HB hx402_29
         replace hx402_30 := cell_go HB hx402_30
         have HR402_9 := Aside0.mk hi402_9
         have HC402_9 := Aside0.mk hl402_9
         clear hi402_9 hl402_9
         have HR402_10 := Aside0.mk hi402_10
         have HC402_10 := Aside0.mk hl402_10
         clear hi402_10 hl402_10
         have HR402_13 := Aside0.mk hi402_13
         have HC402_13 := Aside0.mk hl402_13
         clear hi402_13 hl402_13
         have HR402_29 := Aside0.mk hi402_29
         have HC402_29 := Aside0.mk hl402_29
         clear hi402_29 hl402_29
         have HR402_30 := Aside0.mk hi402_30
         have HC402_30 := Aside0.mk hl402_30
         clear hi402_30 hl402_30
         replace p402 := eq_true p402
         replace q402 := eq_true q402
         go_wp2_with (first | ((with_reducible refine gate_load (t := 56) rfl ?_); refine load_lie (t := 56) rfl rfl hM402 HB (by with_reducible rfl) rfl Try.underlying56 rfl (show (Try.prog.info? 56).map (·.size) = some 31 by kernel_rfl) rfl ?_) | ((with_reducible refine gate_load (t := 56) rfl ?_); refine load_lie0 (t := 56) rfl rfl hM402 (by with_reducible rfl) rfl Try.underlying56 rfl (show (Try.prog.info? 56).map (·.size) = some 31 by kernel_rfl) rfl ?_) | ((with_reducible refine gate_dst (N := 4) rfl ?_); refine boxz (cs := #[.int .i64 0, .int .i64 0, .bool false, .int .i64 0, .int .i64 0, .int .i64 0, .int .i64 0, .int .i64 0, .int .i64 0, .slice none 0 0, .slice none 0 0, .bool false, .int .i64 0, .slice none 0 0, .int .i64 0, .int .i64 0, .int .i64 0, .int .i64 0, .int .i64 0, .int .i64 0, .int .i64 0, .int .i64 0, .int .i64 0, .int .i64 0, .int .i64 0, .int .i64 0, .int .i64 0, .int .i64 0, .int .i64 0, .slice none 0 0, .slice none 0 0]) (t := 56) rfl ?_; intro gb403 hg w52 hbox hb; have n0_ := Aside0.mk (blk_belowB BK401 z17_2 hb); have n1_ := Aside0.mk (below_step z17_3 hb); have n2_ := Aside0.mk (hbox); have n3_ := Aside0.mk (ge_go (a := w.heap.size) hg (below_size z17_3)); have n4_ := Aside0.mk (ge_go (a := w.heap.size) hg (below_size z17_3)); have n5_ := Aside0.mk (nb_lt hg (blk_ltB BK401 z17_2)); have n6_ := Aside0.mk (nb_gt hg (blk_ltB BK401 z17_2)); clear BK401; clear HB; have BK401 := n0_; have HB := n1_; have BK403 := n2_; have GW403 := n3_; have GE403 := n4_; have NB401_403 := n5_; have NB403_401 := n6_; clear n0_ n1_ n2_ n3_ n4_ n5_ n6_; clear hb hbox hg; have hnb53 := NB403_401.out; have hnc53 := NB401_403.out; obtain ⟨_, _, _, _, _, _, _, _, _, _, _, _, _, _, _, _, _, _, _, _, _, _, _, _, _, _, _, _, _, _, _, _, _, _, _, _, _, _, _, _, _, _, _, _, _, _, _, _, _, _, _, _, _, _, _, _, _, _, _, _, _, _⟩ := be_31 BK403.out) | ((with_reducible refine gate_callee (f := 22) rfl ?_); refine goesL_ (some 18) rfl rfl Try.func22 (by kernel_rfl) rfl #[.agg #[.int .i64 ((rd_T56 l0_0 x12_1).f0), .int .i64 ((rd_T56 l0_0 x12_1).f1), .bool ((rd_T56 l0_0 x12_1).f2), .int .i64 ((rd_T56 l0_0 x12_1).f3.f0), .int .i64 ((rd_T56 l0_0 x12_1).f3.f1), .int .i64 ((rd_T56 l0_0 x12_1).f3.f2), .int .i64 ((rd_T56 l0_0 x12_1).f3.f3), .int .i64 ((rd_T56 l0_0 x12_1).f3.f4), .int .i64 ((rd_T56 l0_0 x12_1).f3.f5), .slice A402_9 ((rd_T56 l0_0 x12_1).f4.f0).length c402_9, .slice A402_10 ((rd_T56 l0_0 x12_1).f4.f1).length c402_10, .bool ((rd_T56 l0_0 x12_1).f5), .int .i64 ((rd_T56 l0_0 x12_1).f6), .slice A402_13 ((rd_T56 l0_0 x12_1).f7).length c402_13, .int .i64 ((rd_T56 l0_0 x12_1).f8.f0), .int .i64 ((rd_T56 l0_0 x12_1).f8.f1.f0), .int .i64 ((rd_T56 l0_0 x12_1).f8.f1.f1), .int .i64 ((rd_T56 l0_0 x12_1).f8.f1.f2), .int .i64 ((rd_T56 l0_0 x12_1).f8.f1.f3), .int .i64 ((rd_T56 l0_0 x12_1).f8.f2.f0), .int .i64 ((rd_T56 l0_0 x12_1).f8.f2.f1), .int .i64 ((rd_T56 l0_0 x12_1).f8.f2.f2), .int .i64 ((rd_T56 l0_0 x12_1).f8.f2.f3), .int .i64 ((rd_T56 l0_0 x12_1).f8.f3.f0), .int .i64 ((rd_T56 l0_0 x12_1).f8.f3.f1), .int .i64 ((rd_T56 l0_0 x12_1).f8.f4.f0), .int .i64 ((rd_T56 l0_0 x12_1).f8.f4.f1), .int .i64 ((rd_T56 l0_0 x12_1).f9), .int .i64 ((rd_T56 l0_0 x12_1).f10), .slice A402_29 ((rd_T56 l0_0 x12_1).f11.f0).length c402_29, .slice A402_30 ((rd_T56 l0_0 x12_1).f11.f1).length c402_30]] rfl z17_9 ?_; (with_reducible refine (impl_NodeOk.calls k1 ((rd_T56 l0_0 x12_1).f0) ((rd_T56 l0_0 x12_1).f1) ((rd_T56 l0_0 x12_1).f2) ((rd_T56 l0_0 x12_1).f3.f0) ((rd_T56 l0_0 x12_1).f3.f1) ((rd_T56 l0_0 x12_1).f3.f2) ((rd_T56 l0_0 x12_1).f3.f3) ((rd_T56 l0_0 x12_1).f3.f4) ((rd_T56 l0_0 x12_1).f3.f5) _ _ ((rd_T56 l0_0 x12_1).f4.f0) _ _ ((rd_T56 l0_0 x12_1).f4.f1) ((rd_T56 l0_0 x12_1).f5) ((rd_T56 l0_0 x12_1).f6) _ _ ((rd_T56 l0_0 x12_1).f7) ((rd_T56 l0_0 x12_1).f8.f0) ((rd_T56 l0_0 x12_1).f8.f1.f0) ((rd_T56 l0_0 x12_1).f8.f1.f1) ((rd_T56 l0_0 x12_1).f8.f1.f2) ((rd_T56 l0_0 x12_1).f8.f1.f3) ((rd_T56 l0_0 x12_1).f8.f2.f0) ((rd_T56 l0_0 x12_1).f8.f2.f1) ((rd_T56 l0_0 x12_1).f8.f2.f2) ((rd_T56 l0_0 x12_1).f8.f2.f3) ((rd_T56 l0_0 x12_1).f8.f3.f0) ((rd_T56 l0_0 x12_1).f8.f3.f1) ((rd_T56 l0_0 x12_1).f8.f4.f0) ((rd_T56 l0_0 x12_1).f8.f4.f1) ((rd_T56 l0_0 x12_1).f9) ((rd_T56 l0_0 x12_1).f10) _ _ ((rd_T56 l0_0 x12_1).f11.f0) _ _ ((rd_T56 l0_0 x12_1).f11.f1) true _ ?side1 ?side2 ?side3 ?side4 ?side5 ?side6 ?side7 ?side8 ?side9 ?side10 A10.out).mono ?_); (case side1 => exact Kd.C_below HR402_9.out z17_1); (case side2 => exact HC402_9.out); (case side3 => exact Kd.C_below HR402_10.out z17_1); (case side4 => exact HC402_10.out); (case side5 => exact Kd.C_below HR402_13.out z17_1); (case side6 => exact HC402_13.out); (case side7 => exact Kd.C_below HR402_29.out z17_1); (case side8 => exact HC402_29.out); (case side9 => exact Kd.C_below HR402_30.out z17_1); (case side10 => exact HC402_30.out); rintro e w55 ⟨rfl, hb⟩; refine ⟨_, rfl, ?_⟩; have n0_ := Aside0.mk (blk_belowB BK401 z17_0 hb); have n1_ := Aside0.mk (blk_below (g := gb403) (o := .cells #[.int .i64 ((rd_T56 l0_0 x12_1).f0), .int .i64 ((rd_T56 l0_0 x12_1).f1), .bool ((rd_T56 l0_0 x12_1).f2), .int .i64 ((rd_T56 l0_0 x12_1).f3.f0), .int .i64 ((rd_T56 l0_0 x12_1).f3.f1), .int .i64 ((rd_T56 l0_0 x12_1).f3.f2), .int .i64 ((rd_T56 l0_0 x12_1).f3.f3), .int .i64 ((rd_T56 l0_0 x12_1).f3.f4), .int .i64 ((rd_T56 l0_0 x12_1).f3.f5), .slice A402_9 ((rd_T56 l0_0 x12_1).f4.f0).length c402_9, .slice A402_10 ((rd_T56 l0_0 x12_1).f4.f1).length c402_10, .bool ((rd_T56 l0_0 x12_1).f5), .int .i64 ((rd_T56 l0_0 x12_1).f6), .slice A402_13 ((rd_T56 l0_0 x12_1).f7).length c402_13, .int .i64 ((rd_T56 l0_0 x12_1).f8.f0), .int .i64 ((rd_T56 l0_0 x12_1).f8.f1.f0), .int .i64 ((rd_T56 l0_0 x12_1).f8.f1.f1), .int .i64 ((rd_T56 l0_0 x12_1).f8.f1.f2), .int .i64 ((rd_T56 l0_0 x12_1).f8.f1.f3), .int .i64 ((rd_T56 l0_0 x12_1).f8.f2.f0), .int .i64 ((rd_T56 l0_0 x12_1).f8.f2.f1), .int .i64 ((rd_T56 l0_0 x12_1).f8.f2.f2), .int .i64 ((rd_T56 l0_0 x12_1).f8.f2.f3), .int .i64 ((rd_T56 l0_0 x12_1).f8.f3.f0), .int .i64 ((rd_T56 l0_0 x12_1).f8.f3.f1), .int .i64 ((rd_T56 l0_0 x12_1).f8.f4.f0), .int .i64 ((rd_T56 l0_0 x12_1).f8.f4.f1), .int .i64 ((rd_T56 l0_0 x12_1).f9), .int .i64 ((rd_T56 l0_0 x12_1).f10), .slice A402_29 ((rd_T56 l0_0 x12_1).f11.f0).length c402_29, .slice A402_30 ((rd_T56 l0_0 x12_1).f11.f1).length c402_30] 56 (0, 0)) z17_4 hb); have n2_ := Aside0.mk (below_step z17_1 hb); clear BK401; clear BK403; clear HB; have BK401 := n0_; have BK403 := n1_; have HB := n2_; clear n0_ n1_ n2_; (try clear hb); obtain ⟨_, _⟩ := be_1 BK401.out; obtain ⟨_, _, _, _, _, _, _, _, _, _, _, _, _, _, _, _, _, _, _, _, _, _, _, _, _, _, _, _, _, _, _, _, _, _, _, _, _, _, _, _, _, _, _, _, _, _, _, _, _, _, _, _, _, _, _, _, _, _, _, _, _, _⟩ := be_31 BK403.out) | (go_at_call 106; (with_reducible refine (impl_NodeAt.calls k1 _ _ l0_0 ((rd_T56 l0_0 x12_1).f0) t405 _ ?side1 ?side2 A12.out).mono ?_); (case side1 => exact z17_6); (case side2 => exact HC0_0.out); rintro e w58 ⟨rfl, hb⟩; have n0_ := Aside0.mk (blk_belowB BK401 z17_2 hb); have n1_ := Aside0.mk (blk_belowB BK403 z17_7 hb); have n2_ := Aside0.mk (below_step z17_1 hb); clear BK401; clear BK403; clear HB; have BK401 := n0_; have BK403 := n1_; have HB := n2_; clear n0_ n1_ n2_; (try clear hb)) | ((with_reducible refine gate_load (t := 56) rfl ?_); refine load_blk (t := 56) rfl rfl BK403 rfl z17_5 Try.underlying56 rfl (show (Try.prog.info? 56).map (·.size) = some 31 by kernel_rfl) rfl ?_) | ((with_reducible refine gate_store (t := 56) rfl ?_); refine wstore_blk (t := 56) rfl rfl BK403 rfl rfl z17_5 rfl (show (Try.prog.info? 56).map (·.size) = some 31 by kernel_rfl) rfl ?_; simp only [World.setCells, Nat.reduceAdd]) | ((with_reducible refine gate_load (t := 56) rfl ?_); refine load_event (t := 56) rfl rfl (p := ⟨gb403, 0, none⟩) rfl [.int .i64 ((rd_T56 l0_0 x12_1).f0), .int .i64 ((rd_T56 l0_0 x12_1).f1), .bool ((rd_T56 l0_0 x12_1).f2), .int .i64 ((rd_T56 l0_0 x12_1).f3.f0), .int .i64 ((rd_T56 l0_0 x12_1).f3.f1), .int .i64 ((rd_T56 l0_0 x12_1).f3.f2), .int .i64 ((rd_T56 l0_0 x12_1).f3.f3), .int .i64 ((rd_T56 l0_0 x12_1).f3.f4), .int .i64 ((rd_T56 l0_0 x12_1).f3.f5), .slice A402_9 ((rd_T56 l0_0 x12_1).f4.f0).length c402_9, .slice A402_10 ((rd_T56 l0_0 x12_1).f4.f1).length c402_10, .bool ((rd_T56 l0_0 x12_1).f5), .int .i64 ((rd_T56 l0_0 x12_1).f6), .slice A402_13 ((rd_T56 l0_0 x12_1).f7).length c402_13, .int .i64 ((rd_T56 l0_0 x12_1).f8.f0), .int .i64 ((rd_T56 l0_0 x12_1).f8.f1.f0), .int .i64 ((rd_T56 l0_0 x12_1).f8.f1.f1), .int .i64 ((rd_T56 l0_0 x12_1).f8.f1.f2), .int .i64 ((rd_T56 l0_0 x12_1).f8.f1.f3), .int .i64 ((rd_T56 l0_0 x12_1).f8.f2.f0), .int .i64 ((rd_T56 l0_0 x12_1).f8.f2.f1), .int .i64 ((rd_T56 l0_0 x12_1).f8.f2.f2), .int .i64 ((rd_T56 l0_0 x12_1).f8.f2.f3), .int .i64 ((rd_T56 l0_0 x12_1).f8.f3.f0), .int .i64 ((rd_T56 l0_0 x12_1).f8.f3.f1), .int .i64 ((rd_T56 l0_0 x12_1).f8.f4.f0), .int .i64 ((rd_T56 l0_0 x12_1).f8.f4.f1), .int .i64 ((rd_T56 l0_0 x12_1).f9), .int .i64 ((rd_T56 l0_0 x12_1).f10), .slice A402_29 ((rd_T56 l0_0 x12_1).f11.f0).length c402_29, .slice A402_30 ((rd_T56 l0_0 x12_1).f11.f1).length c402_30] _ (lie_of_blk (cs := #[.int .i64 ((rd_T56 l0_0 x12_1).f0), .int .i64 ((rd_T56 l0_0 x12_1).f1), .bool ((rd_T56 l0_0 x12_1).f2), .int .i64 ((rd_T56 l0_0 x12_1).f3.f0), .int .i64 ((rd_T56 l0_0 x12_1).f3.f1), .int .i64 ((rd_T56 l0_0 x12_1).f3.f2), .int .i64 ((rd_T56 l0_0 x12_1).f3.f3), .int .i64 ((rd_T56 l0_0 x12_1).f3.f4), .int .i64 ((rd_T56 l0_0 x12_1).f3.f5), .slice A402_9 ((rd_T56 l0_0 x12_1).f4.f0).length c402_9, .slice A402_10 ((rd_T56 l0_0 x12_1).f4.f1).length c402_10, .bool ((rd_T56 l0_0 x12_1).f5), .int .i64 ((rd_T56 l0_0 x12_1).f6), .slice A402_13 ((rd_T56 l0_0 x12_1).f7).length c402_13, .int .i64 ((rd_T56 l0_0 x12_1).f8.f0), .int .i64 ((rd_T56 l0_0 x12_1).f8.f1.f0), .int .i64 ((rd_T56 l0_0 x12_1).f8.f1.f1), .int .i64 ((rd_T56 l0_0 x12_1).f8.f1.f2), .int .i64 ((rd_T56 l0_0 x12_1).f8.f1.f3), .int .i64 ((rd_T56 l0_0 x12_1).f8.f2.f0), .int .i64 ((rd_T56 l0_0 x12_1).f8.f2.f1), .int .i64 ((rd_T56 l0_0 x12_1).f8.f2.f2), .int .i64 ((rd_T56 l0_0 x12_1).f8.f2.f3), .int .i64 ((rd_T56 l0_0 x12_1).f8.f3.f0), .int .i64 ((rd_T56 l0_0 x12_1).f8.f3.f1), .int .i64 ((rd_T56 l0_0 x12_1).f8.f4.f0), .int .i64 ((rd_T56 l0_0 x12_1).f8.f4.f1), .int .i64 ((rd_T56 l0_0 x12_1).f9), .int .i64 ((rd_T56 l0_0 x12_1).f10), .slice A402_29 ((rd_T56 l0_0 x12_1).f11.f0).length c402_29, .slice A402_30 ((rd_T56 l0_0 x12_1).f11.f1).length c402_30]) (t := 56) z17_4) Try.underlying56 rfl (show (Try.prog.info? 56).map (·.size) = some 31 by kernel_rfl) ?_))
         go_ret
         exact ⟨z17_10, z17_1⟩
       ·replace c11 := Bool.eq_false_iff.mpr c11
        subst c11
        have H1 : (some false) = some r := by rw [if_neg (show ¬ (false = true) by decide)] at H; exact H
        clear H; have H := H1; clear H1
        obtain rfl := Option.some.inj H
        simp only [Option.some.injEq, Prod.mk.injEq] at H
        obtain ⟨rfl⟩ := H
        have p402 : 0 ≤ (x12_1 : Int) := of_decide_eq_true (by first | (with_reducible assumption) | assumption)
        have q402 : x12_1 < (l0_0.length : Int) := of_decide_eq_true (by first | (with_reducible assumption) | assumption)
        obtain ⟨ad402, A402_9, c402_9, A402_10, c402_10, A402_13, c402_13, A402_29, c402_29, A402_30, c402_30, e402, hx402_0, hx402_1, hx402_2, hx402_3, hx402_4, hx402_5, hx402_6, hx402_7, hx402_8, hx402_9, hx402_10, hx402_11, hx402_12, hx402_13, hx402_14, hx402_15, hx402_16, hx402_17, hx402_18, hx402_19, hx402_20, hx402_21, hx402_22, hx402_23, hx402_24, hx402_25, hx402_26, hx402_27, hx402_28, hx402_29, hx402_30, hl402_9, hi402_9, hl402_10, hi402_10, hl402_13, hi402_13, hl402_29, hi402_29, hl402_30, hi402_30⟩ := at_T56 HR0_0.out x12_1 p402 q402
        have hM402 := lie_zero hx402_0 (lie_n hx402_1 (lie_n hx402_2 (lie_n hx402_3 (lie_n hx402_4 (lie_n hx402_5 (lie_n hx402_6 (lie_n hx402_7 (lie_n hx402_8 (lie_n hx402_9 (lie_n hx402_10 (lie_n hx402_11 (lie_n hx402_12 (lie_n hx402_13 (lie_n hx402_14 (lie_n hx402_15 (lie_n hx402_16 (lie_n hx402_17 (lie_n hx402_18 (lie_n hx402_19 (lie_n hx402_20 (lie_n hx402_21 (lie_n hx402_22 (lie_n hx402_23 (lie_n hx402_24 (lie_n hx402_25 (lie_n hx402_26 (lie_n hx402_27 (lie_n hx402_28 (lie_n hx402_29 (lie_n hx402_30 (lie_nil _ _ _)))))))))))))))))))))))))))))))
        cases e402
        replace hx402_0 := cell_go HB hx402_0
        replace hx402_1 := cell_go HB hx402_1
        replace hx402_2 := cell_go HB hx402_2
        replace hx402_3 := cell_go HB hx402_3
        replace hx402_4 := cell_go HB hx402_4
        replace hx402_5 := cell_go HB hx402_5
        replace hx402_6 := cell_go HB hx402_6
        replace hx402_7 := cell_go HB hx402_7
        replace hx402_8 := cell_go HB hx402_8
        replace hx402_9 := cell_go HB hx402_9
        replace hx402_10 := cell_go HB hx402_10
        replace hx402_11 := cell_go HB hx402_11
        replace hx402_12 := cell_go HB hx402_12
        replace hx402_13 := cell_go HB hx402_13
        replace hx402_14 := cell_go HB hx402_14
        replace hx402_15 := cell_go HB hx402_15
        replace hx402_16 := cell_go HB hx402_16
        replace hx402_17 := cell_go HB hx402_17
        replace hx402_18 := cell_go HB hx402_18
        replace hx402_19 := cell_go HB hx402_19
        replace hx402_20 := cell_go HB hx402_20
        replace hx402_21 := cell_go HB hx402_21
        replace hx402_22 := cell_go HB hx402_22
        replace hx402_23 := cell_go HB hx402_23
        replace hx402_24 := cell_go HB hx402_24
        replace hx402_25 := cell_go HB hx402_25
        replace hx402_26 := cell_go HB hx402_26
        replace hx402_27 := cell_go HB hx402_27
        replace hx402_28 := cell_go HB hx402_28
        replace hx402_29 := cell_go HB hx402_29
        replace hx402_30 := cell_go HB hx402_30
        have HR402_9 := Aside0.mk hi402_9
        have HC402_9 := Aside0.mk hl402_9
        clear hi402_9 hl402_9
        have HR402_10 := Aside0.mk hi402_10
        have HC402_10 := Aside0.mk hl402_10
        clear hi402_10 hl402_10
        have HR402_13 := Aside0.mk hi402_13
        have HC402_13 := Aside0.mk hl402_13
        clear hi402_13 hl402_13
        have HR402_29 := Aside0.mk hi402_29
        have HC402_29 := Aside0.mk hl402_29
        clear hi402_29 hl402_29
        have HR402_30 := Aside0.mk hi402_30
        have HC402_30 := Aside0.mk hl402_30
        clear hi402_30 hl402_30
        replace p402 := eq_true p402
        replace q402 := eq_true q402
        go_wp2_with (first | ((with_reducible refine gate_load (t := 56) rfl ?_); refine load_lie (t := 56) rfl rfl hM402 HB (by with_reducible rfl) rfl Try.underlying56 rfl (show (Try.prog.info? 56).map (·.size) = some 31 by kernel_rfl) rfl ?_) | ((with_reducible refine gate_load (t := 56) rfl ?_); refine load_lie0 (t := 56) rfl rfl hM402 (by with_reducible rfl) rfl Try.underlying56 rfl (show (Try.prog.info? 56).map (·.size) = some 31 by kernel_rfl) rfl ?_) | ((with_reducible refine gate_dst (N := 4) rfl ?_); refine boxz (cs := #[.int .i64 0, .int .i64 0, .bool false, .int .i64 0, .int .i64 0, .int .i64 0, .int .i64 0, .int .i64 0, .int .i64 0, .slice none 0 0, .slice none 0 0, .bool false, .int .i64 0, .slice none 0 0, .int .i64 0, .int .i64 0, .int .i64 0, .int .i64 0, .int .i64 0, .int .i64 0, .int .i64 0, .int .i64 0, .int .i64 0, .int .i64 0, .int .i64 0, .int .i64 0, .int .i64 0, .int .i64 0, .int .i64 0, .slice none 0 0, .slice none 0 0]) (t := 56) rfl ?_; intro gb403 hg w59 hbox hb; have n0_ := Aside0.mk (blk_belowB BK401 z17_2 hb); have n1_ := Aside0.mk (below_step z17_3 hb); have n2_ := Aside0.mk (hbox); have n3_ := Aside0.mk (ge_go (a := w.heap.size) hg (below_size z17_3)); have n4_ := Aside0.mk (ge_go (a := w.heap.size) hg (below_size z17_3)); have n5_ := Aside0.mk (nb_lt hg (blk_ltB BK401 z17_2)); have n6_ := Aside0.mk (nb_gt hg (blk_ltB BK401 z17_2)); clear BK401; clear HB; have BK401 := n0_; have HB := n1_; have BK403 := n2_; have GW403 := n3_; have GE403 := n4_; have NB401_403 := n5_; have NB403_401 := n6_; clear n0_ n1_ n2_ n3_ n4_ n5_ n6_; clear hb hbox hg; have hnb60 := NB403_401.out; have hnc60 := NB401_403.out; obtain ⟨_, _, _, _, _, _, _, _, _, _, _, _, _, _, _, _, _, _, _, _, _, _, _, _, _, _, _, _, _, _, _, _, _, _, _, _, _, _, _, _, _, _, _, _, _, _, _, _, _, _, _, _, _, _, _, _, _, _, _, _, _, _⟩ := be_31 BK403.out) | ((with_reducible refine gate_callee (f := 22) rfl ?_); refine goesL_ (some 18) rfl rfl Try.func22 (by kernel_rfl) rfl #[.agg #[.int .i64 ((rd_T56 l0_0 x12_1).f0), .int .i64 ((rd_T56 l0_0 x12_1).f1), .bool ((rd_T56 l0_0 x12_1).f2), .int .i64 ((rd_T56 l0_0 x12_1).f3.f0), .int .i64 ((rd_T56 l0_0 x12_1).f3.f1), .int .i64 ((rd_T56 l0_0 x12_1).f3.f2), .int .i64 ((rd_T56 l0_0 x12_1).f3.f3), .int .i64 ((rd_T56 l0_0 x12_1).f3.f4), .int .i64 ((rd_T56 l0_0 x12_1).f3.f5), .slice A402_9 ((rd_T56 l0_0 x12_1).f4.f0).length c402_9, .slice A402_10 ((rd_T56 l0_0 x12_1).f4.f1).length c402_10, .bool ((rd_T56 l0_0 x12_1).f5), .int .i64 ((rd_T56 l0_0 x12_1).f6), .slice A402_13 ((rd_T56 l0_0 x12_1).f7).length c402_13, .int .i64 ((rd_T56 l0_0 x12_1).f8.f0), .int .i64 ((rd_T56 l0_0 x12_1).f8.f1.f0), .int .i64 ((rd_T56 l0_0 x12_1).f8.f1.f1), .int .i64 ((rd_T56 l0_0 x12_1).f8.f1.f2), .int .i64 ((rd_T56 l0_0 x12_1).f8.f1.f3), .int .i64 ((rd_T56 l0_0 x12_1).f8.f2.f0), .int .i64 ((rd_T56 l0_0 x12_1).f8.f2.f1), .int .i64 ((rd_T56 l0_0 x12_1).f8.f2.f2), .int .i64 ((rd_T56 l0_0 x12_1).f8.f2.f3), .int .i64 ((rd_T56 l0_0 x12_1).f8.f3.f0), .int .i64 ((rd_T56 l0_0 x12_1).f8.f3.f1), .int .i64 ((rd_T56 l0_0 x12_1).f8.f4.f0), .int .i64 ((rd_T56 l0_0 x12_1).f8.f4.f1), .int .i64 ((rd_T56 l0_0 x12_1).f9), .int .i64 ((rd_T56 l0_0 x12_1).f10), .slice A402_29 ((rd_T56 l0_0 x12_1).f11.f0).length c402_29, .slice A402_30 ((rd_T56 l0_0 x12_1).f11.f1).length c402_30]] rfl z17_9 ?_; (with_reducible refine (impl_NodeOk.calls k1 ((rd_T56 l0_0 x12_1).f0) ((rd_T56 l0_0 x12_1).f1) ((rd_T56 l0_0 x12_1).f2) ((rd_T56 l0_0 x12_1).f3.f0) ((rd_T56 l0_0 x12_1).f3.f1) ((rd_T56 l0_0 x12_1).f3.f2) ((rd_T56 l0_0 x12_1).f3.f3) ((rd_T56 l0_0 x12_1).f3.f4) ((rd_T56 l0_0 x12_1).f3.f5) _ _ ((rd_T56 l0_0 x12_1).f4.f0) _ _ ((rd_T56 l0_0 x12_1).f4.f1) ((rd_T56 l0_0 x12_1).f5) ((rd_T56 l0_0 x12_1).f6) _ _ ((rd_T56 l0_0 x12_1).f7) ((rd_T56 l0_0 x12_1).f8.f0) ((rd_T56 l0_0 x12_1).f8.f1.f0) ((rd_T56 l0_0 x12_1).f8.f1.f1) ((rd_T56 l0_0 x12_1).f8.f1.f2) ((rd_T56 l0_0 x12_1).f8.f1.f3) ((rd_T56 l0_0 x12_1).f8.f2.f0) ((rd_T56 l0_0 x12_1).f8.f2.f1) ((rd_T56 l0_0 x12_1).f8.f2.f2) ((rd_T56 l0_0 x12_1).f8.f2.f3) ((rd_T56 l0_0 x12_1).f8.f3.f0) ((rd_T56 l0_0 x12_1).f8.f3.f1) ((rd_T56 l0_0 x12_1).f8.f4.f0) ((rd_T56 l0_0 x12_1).f8.f4.f1) ((rd_T56 l0_0 x12_1).f9) ((rd_T56 l0_0 x12_1).f10) _ _ ((rd_T56 l0_0 x12_1).f11.f0) _ _ ((rd_T56 l0_0 x12_1).f11.f1) false _ ?side1 ?side2 ?side3 ?side4 ?side5 ?side6 ?side7 ?side8 ?side9 ?side10 A10.out).mono ?_); (case side1 => exact Kd.C_below HR402_9.out z17_1); (case side2 => exact HC402_9.out); (case side3 => exact Kd.C_below HR402_10.out z17_1); (case side4 => exact HC402_10.out); (case side5 => exact Kd.C_below HR402_13.out z17_1); (case side6 => exact HC402_13.out); (case side7 => exact Kd.C_below HR402_29.out z17_1); (case side8 => exact HC402_29.out); (case side9 => exact Kd.C_below HR402_30.out z17_1); (case side10 => exact HC402_30.out); rintro e w62 ⟨rfl, hb⟩; refine ⟨_, rfl, ?_⟩; have n0_ := Aside0.mk (blk_belowB BK401 z17_0 hb); have n1_ := Aside0.mk (blk_below (g := gb403) (o := .cells #[.int .i64 ((rd_T56 l0_0 x12_1).f0), .int .i64 ((rd_T56 l0_0 x12_1).f1), .bool ((rd_T56 l0_0 x12_1).f2), .int .i64 ((rd_T56 l0_0 x12_1).f3.f0), .int .i64 ((rd_T56 l0_0 x12_1).f3.f1), .int .i64 ((rd_T56 l0_0 x12_1).f3.f2), .int .i64 ((rd_T56 l0_0 x12_1).f3.f3), .int .i64 ((rd_T56 l0_0 x12_1).f3.f4), .int .i64 ((rd_T56 l0_0 x12_1).f3.f5), .slice A402_9 ((rd_T56 l0_0 x12_1).f4.f0).length c402_9, .slice A402_10 ((rd_T56 l0_0 x12_1).f4.f1).length c402_10, .bool ((rd_T56 l0_0 x12_1).f5), .int .i64 ((rd_T56 l0_0 x12_1).f6), .slice A402_13 ((rd_T56 l0_0 x12_1).f7).length c402_13, .int .i64 ((rd_T56 l0_0 x12_1).f8.f0), .int .i64 ((rd_T56 l0_0 x12_1).f8.f1.f0), .int .i64 ((rd_T56 l0_0 x12_1).f8.f1.f1), .int .i64 ((rd_T56 l0_0 x12_1).f8.f1.f2), .int .i64 ((rd_T56 l0_0 x12_1).f8.f1.f3), .int .i64 ((rd_T56 l0_0 x12_1).f8.f2.f0), .int .i64 ((rd_T56 l0_0 x12_1).f8.f2.f1), .int .i64 ((rd_T56 l0_0 x12_1).f8.f2.f2), .int .i64 ((rd_T56 l0_0 x12_1).f8.f2.f3), .int .i64 ((rd_T56 l0_0 x12_1).f8.f3.f0), .int .i64 ((rd_T56 l0_0 x12_1).f8.f3.f1), .int .i64 ((rd_T56 l0_0 x12_1).f8.f4.f0), .int .i64 ((rd_T56 l0_0 x12_1).f8.f4.f1), .int .i64 ((rd_T56 l0_0 x12_1).f9), .int .i64 ((rd_T56 l0_0 x12_1).f10), .slice A402_29 ((rd_T56 l0_0 x12_1).f11.f0).length c402_29, .slice A402_30 ((rd_T56 l0_0 x12_1).f11.f1).length c402_30] 56 (0, 0)) z17_4 hb); have n2_ := Aside0.mk (below_step z17_1 hb); clear BK401; clear BK403; clear HB; have BK401 := n0_; have BK403 := n1_; have HB := n2_; clear n0_ n1_ n2_; (try clear hb)) | ((with_reducible refine gate_load (t := 56) rfl ?_); refine load_blk (t := 56) rfl rfl BK403 rfl z17_5 Try.underlying56 rfl (show (Try.prog.info? 56).map (·.size) = some 31 by kernel_rfl) rfl ?_) | ((with_reducible refine gate_store (t := 56) rfl ?_); refine wstore_blk (t := 56) rfl rfl BK403 rfl rfl z17_5 rfl (show (Try.prog.info? 56).map (·.size) = some 31 by kernel_rfl) rfl ?_; simp only [World.setCells, Nat.reduceAdd]) | ((with_reducible refine gate_load (t := 56) rfl ?_); refine load_event (t := 56) rfl rfl (p := ⟨gb403, 0, none⟩) rfl [.int .i64 ((rd_T56 l0_0 x12_1).f0), .int .i64 ((rd_T56 l0_0 x12_1).f1), .bool ((rd_T56 l0_0 x12_1).f2), .int .i64 ((rd_T56 l0_0 x12_1).f3.f0), .int .i64 ((rd_T56 l0_0 x12_1).f3.f1), .int .i64 ((rd_T56 l0_0 x12_1).f3.f2), .int .i64 ((rd_T56 l0_0 x12_1).f3.f3), .int .i64 ((rd_T56 l0_0 x12_1).f3.f4), .int .i64 ((rd_T56 l0_0 x12_1).f3.f5), .slice A402_9 ((rd_T56 l0_0 x12_1).f4.f0).length c402_9, .slice A402_10 ((rd_T56 l0_0 x12_1).f4.f1).length c402_10, .bool ((rd_T56 l0_0 x12_1).f5), .int .i64 ((rd_T56 l0_0 x12_1).f6), .slice A402_13 ((rd_T56 l0_0 x12_1).f7).length c402_13, .int .i64 ((rd_T56 l0_0 x12_1).f8.f0), .int .i64 ((rd_T56 l0_0 x12_1).f8.f1.f0), .int .i64 ((rd_T56 l0_0 x12_1).f8.f1.f1), .int .i64 ((rd_T56 l0_0 x12_1).f8.f1.f2), .int .i64 ((rd_T56 l0_0 x12_1).f8.f1.f3), .int .i64 ((rd_T56 l0_0 x12_1).f8.f2.f0), .int .i64 ((rd_T56 l0_0 x12_1).f8.f2.f1), .int .i64 ((rd_T56 l0_0 x12_1).f8.f2.f2), .int .i64 ((rd_T56 l0_0 x12_1).f8.f2.f3), .int .i64 ((rd_T56 l0_0 x12_1).f8.f3.f0), .int .i64 ((rd_T56 l0_0 x12_1).f8.f3.f1), .int .i64 ((rd_T56 l0_0 x12_1).f8.f4.f0), .int .i64 ((rd_T56 l0_0 x12_1).f8.f4.f1), .int .i64 ((rd_T56 l0_0 x12_1).f9), .int .i64 ((rd_T56 l0_0 x12_1).f10), .slice A402_29 ((rd_T56 l0_0 x12_1).f11.f0).length c402_29, .slice A402_30 ((rd_T56 l0_0 x12_1).f11.f1).length c402_30] _ (lie_of_blk (cs := #[.int .i64 ((rd_T56 l0_0 x12_1).f0), .int .i64 ((rd_T56 l0_0 x12_1).f1), .bool ((rd_T56 l0_0 x12_1).f2), .int .i64 ((rd_T56 l0_0 x12_1).f3.f0), .int .i64 ((rd_T56 l0_0 x12_1).f3.f1), .int .i64 ((rd_T56 l0_0 x12_1).f3.f2), .int .i64 ((rd_T56 l0_0 x12_1).f3.f3), .int .i64 ((rd_T56 l0_0 x12_1).f3.f4), .int .i64 ((rd_T56 l0_0 x12_1).f3.f5), .slice A402_9 ((rd_T56 l0_0 x12_1).f4.f0).length c402_9, .slice A402_10 ((rd_T56 l0_0 x12_1).f4.f1).length c402_10, .bool ((rd_T56 l0_0 x12_1).f5), .int .i64 ((rd_T56 l0_0 x12_1).f6), .slice A402_13 ((rd_T56 l0_0 x12_1).f7).length c402_13, .int .i64 ((rd_T56 l0_0 x12_1).f8.f0), .int .i64 ((rd_T56 l0_0 x12_1).f8.f1.f0), .int .i64 ((rd_T56 l0_0 x12_1).f8.f1.f1), .int .i64 ((rd_T56 l0_0 x12_1).f8.f1.f2), .int .i64 ((rd_T56 l0_0 x12_1).f8.f1.f3), .int .i64 ((rd_T56 l0_0 x12_1).f8.f2.f0), .int .i64 ((rd_T56 l0_0 x12_1).f8.f2.f1), .int .i64 ((rd_T56 l0_0 x12_1).f8.f2.f2), .int .i64 ((rd_T56 l0_0 x12_1).f8.f2.f3), .int .i64 ((rd_T56 l0_0 x12_1).f8.f3.f0), .int .i64 ((rd_T56 l0_0 x12_1).f8.f3.f1), .int .i64 ((rd_T56 l0_0 x12_1).f8.f4.f0), .int .i64 ((rd_T56 l0_0 x12_1).f8.f4.f1), .int .i64 ((rd_T56 l0_0 x12_1).f9), .int .i64 ((rd_T56 l0_0 x12_1).f10), .slice A402_29 ((rd_T56 l0_0 x12_1).f11.f0).length c402_29, .slice A402_30 ((rd_T56 l0_0 x12_1).f11.f1).length c402_30]) (t := 56) z17_4) Try.underlying56 rfl (show (Try.prog.info? 56).map (·.size) = some 31 by kernel_rfl) ?_))
        go_ret
        exact ⟨z17_10, z17_1⟩
      ·rw [if_neg c9] at H
       exact absurd H (by simp)
     ·rw [if_neg c8] at H
      exact absurd H (by simp)
    ·rw [if_neg c7] at H
     have c7b0 : decide (x12_1 < (l0_0.length : Int)) = false := decide_eq_false c7
     clear c7
     obtain rfl := Option.some.inj H
     simp only [Option.some.injEq, Prod.mk.injEq] at H
     obtain ⟨rfl⟩ := H
     go_wp2_with (first | ((with_reducible refine gate_load (t := 56) rfl ?_); refine load_blk (t := 56) rfl rfl BK403 rfl z17_5 Try.underlying56 rfl (show (Try.prog.info? 56).map (·.size) = some 31 by kernel_rfl) rfl ?_) | ((with_reducible refine gate_store (t := 56) rfl ?_); refine wstore_blk (t := 56) rfl rfl BK403 rfl rfl z17_5 rfl (show (Try.prog.info? 56).map (·.size) = some 31 by kernel_rfl) rfl ?_; simp only [World.setCells, Nat.reduceAdd]))
     go_ret
     exact ⟨z17_10, z17_3⟩

end Go.Proofs.Ytghbenapnhcllaa.MFnExactSceneOk
