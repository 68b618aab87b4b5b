/- Functions of the program as Lean functions, and the proof that a call comes to just these: machine text of this session's own program (myprint.py). -/
import Derived.Test.YtdpnimngndemiaaMFnFlatsx0
import Derived.Test.YtdpnimngndemiaaMFnFlatsx1
import Derived.Test.YtdpnimngndemiaaMFnFlatsx6
import Derived.Test.YtdpnimngndemiaaMFnFlatsx10
import Derived.Test.YtdpnimngndemiaaMFnFlatsx11
namespace Go.Proofs.Ytdpnimngndemiaa.MFnFlats
open Go.RowKit Go.Proofs.YtdpnimngndemiaaW.PrintWords Go.Proofs.YtdpnimngndemiaaW.PrintLast Go.Proofs.YtdpnimngndemiaaW.PrintMore
attribute [local go_sem] max2_int min2_int max_two min_two max_three min_three max_four min_four   -- for this text's walks alone
set_option linter.unusedVariables false
set_option linter.unusedSimpArgs false

attribute [local go_sem high] eqA46
theorem z12_0 {P : Prop} (h : P := by (with_reducible repeat (first | refine blk_drewN ?_ _ | refine blk_drew ?_ | refine blk_alloc ?_ _)); refine blk_far ?_ NB446_449.out _; (with_reducible repeat (first | refine blk_drewN ?_ _ | refine blk_drew ?_ | refine blk_alloc ?_ _)); refine blk_far ?_ NB446_449.out _; (with_reducible repeat (first | refine blk_drewN ?_ _ | refine blk_drew ?_ | refine blk_alloc ?_ _)); exact BK446.out) : P := h
theorem z12_1 {P : Prop} (h : P := by (with_reducible repeat (first | refine blk_drewN ?_ _ | refine blk_drew ?_ | refine blk_alloc ?_ _)); refine blk_far ?_ NB447_449.out _; (with_reducible repeat (first | refine blk_drewN ?_ _ | refine blk_drew ?_ | refine blk_alloc ?_ _)); refine blk_far ?_ NB447_449.out _; (with_reducible repeat (first | refine blk_drewN ?_ _ | refine blk_drew ?_ | refine blk_alloc ?_ _)); exact BK447.out) : P := h
theorem z12_2 {P : Prop} (h : P := by apply blk_fin; (focus ((with_reducible repeat (first | apply blk_putQ | refine blk_drewN ?_ _ | refine blk_drew ?_ | refine blk_alloc ?_ _)); exact BK449.out)); first | (simp only [List.setIfInBounds_toArray, List.set_cons_zero, List.set_cons_succ]; done) | rfl) : P := h
theorem z12_3 {P : Prop} (h : P := by repeat (first | (with_reducible first | exact HB.out | apply below_alloc | apply pw_below_drewN | apply below_drew1) | exact HB.out)) : P := h
theorem z12_4 {P : Prop} (h : P := by repeat (first | (with_reducible first | exact HB.out | apply below_alloc | apply pw_below_drewN | apply below_drew1 | refine below_set ?_ GE446.out | refine below_set ?_ GE447.out | refine below_set ?_ GE449.out) | exact HB.out)) : P := h
theorem z12_5 {P : Prop} (h : P := by repeat (first | (with_reducible first | exact HB.out | apply below_alloc | apply pw_below_drewN | apply below_drew1 | refine below_set ?_ GE446.out | refine below_set ?_ GE447.out) | exact HB.out)) : P := h
theorem z12_6 {P : Prop} (h : P := by repeat (first | (with_reducible first | exact HB.out | apply below_alloc | apply pw_below_drewN | apply below_drew1 | refine below_set ?_ GE439.out | refine below_set ?_ GE440.out | refine below_set ?_ GE441.out) | exact HB.out)) : P := h
theorem z12_7 {P : Prop} (h : P := by (with_reducible repeat (first | refine blk_drewN ?_ _ | refine blk_drew ?_ | refine blk_alloc ?_ _)); refine blk_far ?_ NB446_447.out _; (with_reducible repeat (first | refine blk_drewN ?_ _ | refine blk_drew ?_ | refine blk_alloc ?_ _)); refine blk_far ?_ NB446_447.out _; (with_reducible repeat (first | refine blk_drewN ?_ _ | refine blk_drew ?_ | refine blk_alloc ?_ _)); refine blk_far ?_ NB446_447.out _; (with_reducible repeat (first | refine blk_drewN ?_ _ | refine blk_drew ?_ | refine blk_alloc ?_ _)); refine blk_far ?_ NB446_447.out _; (with_reducible repeat (first | refine blk_drewN ?_ _ | refine blk_drew ?_ | refine blk_alloc ?_ _)); refine blk_far ?_ NB446_452.out _; (with_reducible repeat (first | refine blk_drewN ?_ _ | refine blk_drew ?_ | refine blk_alloc ?_ _)); refine blk_far ?_ NB446_452.out _; (with_reducible repeat (first | refine blk_drewN ?_ _ | refine blk_drew ?_ | refine blk_alloc ?_ _)); refine blk_far ?_ NB446_452.out _; (with_reducible repeat (first | refine blk_drewN ?_ _ | refine blk_drew ?_ | refine blk_alloc ?_ _)); refine blk_far ?_ NB446_452.out _; (with_reducible repeat (first | refine blk_drewN ?_ _ | refine blk_drew ?_ | refine blk_alloc ?_ _)); exact BK446.out) : P := h
theorem z12_8 {P : Prop} (h : P := by (with_reducible repeat (first | refine blk_drewN ?_ _ | refine blk_drew ?_ | refine blk_alloc ?_ _)); refine blk_far ?_ NB449_447.out _; (with_reducible repeat (first | refine blk_drewN ?_ _ | refine blk_drew ?_ | refine blk_alloc ?_ _)); refine blk_far ?_ NB449_447.out _; (with_reducible repeat (first | refine blk_drewN ?_ _ | refine blk_drew ?_ | refine blk_alloc ?_ _)); refine blk_far ?_ NB449_447.out _; (with_reducible repeat (first | refine blk_drewN ?_ _ | refine blk_drew ?_ | refine blk_alloc ?_ _)); refine blk_far ?_ NB449_447.out _; (with_reducible repeat (first | refine blk_drewN ?_ _ | refine blk_drew ?_ | refine blk_alloc ?_ _)); refine blk_far ?_ NB449_452.out _; (with_reducible repeat (first | refine blk_drewN ?_ _ | refine blk_drew ?_ | refine blk_alloc ?_ _)); refine blk_far ?_ NB449_452.out _; (with_reducible repeat (first | refine blk_drewN ?_ _ | refine blk_drew ?_ | refine blk_alloc ?_ _)); refine blk_far ?_ NB449_452.out _; (with_reducible repeat (first | refine blk_drewN ?_ _ | refine blk_drew ?_ | refine blk_alloc ?_ _)); refine blk_far ?_ NB449_452.out _; (with_reducible repeat (first | refine blk_drewN ?_ _ | refine blk_drew ?_ | refine blk_alloc ?_ _)); exact BK449.out) : P := h
theorem z12_9 {P : Prop} (h : P := by repeat (first | (with_reducible first | exact HB.out | apply below_alloc | apply pw_below_drewN | apply below_drew1 | refine below_set ?_ GE446.out | refine below_set ?_ GE447.out | refine below_set ?_ GE449.out | refine below_set ?_ GE452.out) | exact HB.out)) : P := h
theorem z12_10 {P : Prop} (h : P := by (try simp only [List.map_toArray, List.map_cons, List.map_nil]); first | done | rfl | (simp only [List.length_drop, List.length_take]; rfl)) : P := h
theorem z12_11 {P : Prop} (h : P := by repeat (first | (with_reducible first | exact HB.out | apply below_alloc | apply pw_below_drewN | apply below_drew1 | refine below_set ?_ GE446.out) | exact HB.out)) : P := h
theorem z12_12 {P : Prop} (h : P := by (with_reducible repeat (first | refine blk_drewN ?_ _ | refine blk_drew ?_ | refine blk_alloc ?_ _)); refine blk_far ?_ NB446_452.out _; (with_reducible repeat (first | refine blk_drewN ?_ _ | refine blk_drew ?_ | refine blk_alloc ?_ _)); refine blk_far ?_ NB446_452.out _; (with_reducible repeat (first | refine blk_drewN ?_ _ | refine blk_drew ?_ | refine blk_alloc ?_ _)); refine blk_far ?_ NB446_452.out _; (with_reducible repeat (first | refine blk_drewN ?_ _ | refine blk_drew ?_ | refine blk_alloc ?_ _)); refine blk_far ?_ NB446_452.out _; (with_reducible repeat (first | refine blk_drewN ?_ _ | refine blk_drew ?_ | refine blk_alloc ?_ _)); exact BK446.out) : P := h
theorem z12_13 {P : Prop} (h : P := by (with_reducible repeat (first | refine blk_drewN ?_ _ | refine blk_drew ?_ | refine blk_alloc ?_ _)); refine blk_far ?_ NB447_452.out _; (with_reducible repeat (first | refine blk_drewN ?_ _ | refine blk_drew ?_ | refine blk_alloc ?_ _)); refine blk_far ?_ NB447_452.out _; (with_reducible repeat (first | refine blk_drewN ?_ _ | refine blk_drew ?_ | refine blk_alloc ?_ _)); refine blk_far ?_ NB447_452.out _; (with_reducible repeat (first | refine blk_drewN ?_ _ | refine blk_drew ?_ | refine blk_alloc ?_ _)); refine blk_far ?_ NB447_452.out _; (with_reducible repeat (first | refine blk_drewN ?_ _ | refine blk_drew ?_ | refine blk_alloc ?_ _)); exact BK447.out) : P := h
theorem z12_14 {P : Prop} (h : P := by (with_reducible repeat (first | refine blk_drewN ?_ _ | refine blk_drew ?_ | refine blk_alloc ?_ _)); refine blk_far ?_ NB449_452.out _; (with_reducible repeat (first | refine blk_drewN ?_ _ | refine blk_drew ?_ | refine blk_alloc ?_ _)); refine blk_far ?_ NB449_452.out _; (with_reducible repeat (first | refine blk_drewN ?_ _ | refine blk_drew ?_ | refine blk_alloc ?_ _)); refine blk_far ?_ NB449_452.out _; (with_reducible repeat (first | refine blk_drewN ?_ _ | refine blk_drew ?_ | refine blk_alloc ?_ _)); refine blk_far ?_ NB449_452.out _; (with_reducible repeat (first | refine blk_drewN ?_ _ | refine blk_drew ?_ | refine blk_alloc ?_ _)); exact BK449.out) : P := h
theorem z12_15 {P : Prop} (h : P := by repeat (first | (with_reducible first | exact HB.out | apply below_alloc | apply pw_below_drewN | apply below_drew1 | refine below_set ?_ GE461.out) | exact HB.out)) : P := h
theorem z12_16 {P : Prop} (h : P := by repeat (first | (with_reducible first | exact HB.out | apply below_alloc | apply pw_below_drewN | apply below_drew1 | refine below_set ?_ GE461.out | refine below_set ?_ GE462.out) | exact HB.out)) : P := h
theorem z12_17 {P : Prop} (h : P := by apply blk_fin; (focus ((with_reducible repeat (first | apply blk_putQ | refine blk_drewN ?_ _ | refine blk_drew ?_ | refine blk_alloc ?_ _)); exact BK441.out)); first | (simp only [List.setIfInBounds_toArray, List.set_cons_zero, List.set_cons_succ]; done) | rfl) : P := h
theorem z12_18 {P : Prop} (h : P := by first | rfl | (simp [errW_none, errW_some] <;> rfl) | (simp [*, errW_none, errW_some] <;> rfl)) : P := h
theorem z12_19 {P : Prop} (h : P := by repeat (first | (with_reducible first | exact HBW.out | apply below_alloc | apply pw_below_drewN | apply below_drew1) | exact HBW.out)) : P := h
theorem z12_20 {P : Prop} (h : P := by (with_reducible repeat (first | refine blk_drewN ?_ _ | refine blk_drew ?_ | refine blk_alloc ?_ _)); refine blk_far ?_ NB446_447.out _; (with_reducible repeat (first | refine blk_drewN ?_ _ | refine blk_drew ?_ | refine blk_alloc ?_ _)); refine blk_far ?_ NB446_447.out _; (with_reducible repeat (first | refine blk_drewN ?_ _ | refine blk_drew ?_ | refine blk_alloc ?_ _)); refine blk_far ?_ NB446_447.out _; (with_reducible repeat (first | refine blk_drewN ?_ _ | refine blk_drew ?_ | refine blk_alloc ?_ _)); refine blk_far ?_ NB446_447.out _; (with_reducible repeat (first | refine blk_drewN ?_ _ | refine blk_drew ?_ | refine blk_alloc ?_ _)); exact BK446.out) : P := h
theorem z12_21 {P : Prop} (h : P := by apply blk_fin; (focus ((with_reducible repeat (first | apply blk_putQ | refine blk_farQ NB447_452.out ?_ | refine blk_drewN ?_ _ | refine blk_drew ?_ | refine blk_alloc ?_ _)); exact BK447.out)); first | (simp only [List.setIfInBounds_toArray, List.set_cons_zero, List.set_cons_succ]; done) | rfl) : P := h
theorem z12_22 {P : Prop} (h : P := by apply blk_fin; (focus ((with_reducible repeat (first | apply blk_putQ | refine blk_farQ NB452_447.out ?_ | refine blk_drewN ?_ _ | refine blk_drew ?_ | refine blk_alloc ?_ _)); exact BK452.out)); first | (simp only [List.setIfInBounds_toArray, List.set_cons_zero, List.set_cons_succ]; done) | rfl) : P := h
theorem z12_23 {P : Prop} (h : P := by apply blk_fin; (focus ((with_reducible repeat (first | apply blk_putQ | refine blk_drewN ?_ _ | refine blk_drew ?_ | refine blk_alloc ?_ _)); exact BK452.out)); first | (simp only [List.setIfInBounds_toArray, List.set_cons_zero, List.set_cons_succ]; done) | rfl) : P := h
theorem z12_24 {P : Prop} (h : P := by repeat (first | (with_reducible first | exact HB.out | apply below_alloc | apply pw_below_drewN | apply below_drew1 | refine below_set ?_ (IsS78.ge HI428.out) | refine below_set ?_ GE424.out) | exact HB.out)) : P := h
theorem z12_25 {P : Prop} (h : P := by repeat (first | (with_reducible first | exact HB.out | apply below_alloc | apply pw_below_drewN | apply below_drew1 | refine below_set ?_ GE439.out | refine below_set ?_ GE440.out) | exact HB.out)) : P := h
theorem z12_26 {P : Prop} (h : P := by repeat (first | exact (Kd.C_below HR0_1.out HB.out) | (with_reducible refine Kd.C_alloc ?_ _) | (with_reducible refine Kd.C_drewN ?_ _) | (with_reducible refine Kd.C_drew ?_))) : P := h
theorem z12_27 {P : Prop} (h : P := by repeat (first | (with_reducible first | exact HB.out | apply below_alloc | apply pw_below_drewN | apply below_drew1 | refine below_set ?_ GE439.out) | exact HB.out)) : P := h
theorem z12_28 {P : Prop} (h : P := by repeat (first | exact Drawn0.refl _ | apply Drawn0.step)) : P := h
theorem z12_29 {P : Prop} (h : P := by apply blk_fin; (focus ((with_reducible repeat (first | apply blk_putQ | refine blk_drewN ?_ _ | refine blk_drew ?_ | refine blk_alloc ?_ _)); exact BK462.out)); first | (simp only [List.setIfInBounds_toArray, List.set_cons_zero, List.set_cons_succ]; done) | rfl) : P := h
theorem z12_30 {P : Prop} (h : P := by repeat (first | exact (Kd.C_below HR0_0.out HB.out) | (with_reducible refine Kd.C_alloc ?_ _) | (with_reducible refine Kd.C_drewN ?_ _) | (with_reducible refine Kd.C_drew ?_))) : P := h
theorem z12_31 {P : Prop} (h : P := by repeat (first | (with_reducible first | exact HB.out | apply below_alloc | apply pw_below_drewN | apply below_drew1 | refine below_set ?_ GE438.out) | exact HB.out)) : P := h
/-! ### spec_l01New: function 36 -/
def spec_l01New.l0 : Nat → List Int → Int → Int → Option (List Int × Int × Int)
 | 0, _, _, _ => none
 | k + 1, x0, x3, x4 => if x4 < (x0.length : Int) then (if x4 < 4000 then (if 0 ≤ x4 then (spec_l01New.l0 k x0 (Go.bits .and .i64 (wrap64 ((wrap64 ((wrap64 (x3 * 131)) + (wrap64 (rd x0 x4)))) + 7)) 1073741823) (wrap64 (x4 + 1))) else (none)) else (some (x0, 0, x3))) else (some (x0, 0, x3))
def spec_l01New.f (k : Nat) (l0 : List Int) : Option (List Int × Int × Int) := spec_l01New.l0 k l0 (wrap64 (28001 + (l0.length : Int))) 0
theorem spec_l01New.mono_l : ∀ k, (∀ y0 y1 y2, LeO (spec_l01New.l0 k y0 y1 y2) (spec_l01New.l0 (k + 1) y0 y1 y2))
 | 0 => fun _ _ _ r h => by simp [spec_l01New.l0] at h
 | k + 1 => by
  have ih0 := spec_l01New.mono_l k
  ·intro y0 y1 y2
   unfold spec_l01New.l0
   repeat' first
   | (with_reducible exact ih0 _ _ _)
   | (with_reducible exact LeO.refl _)
   | (with_reducible exact LeO.none _)
   | (with_reducible refine LeO.ite ?_ ?_)
   | (with_reducible refine LeO.bind ?_ (fun _ => ?_))
theorem spec_l01New.mono : ∀ a0 k, LeO (spec_l01New.f k a0) (spec_l01New.f (k + 1) a0) := by
 intro a0 k
 have ih0 := spec_l01New.mono_l k
 unfold spec_l01New.f
 repeat' first
   | (with_reducible exact ih0 _ _ _)
   | (with_reducible exact LeO.refl _)
   | (with_reducible exact LeO.none _)
   | (with_reducible refine LeO.ite ?_ ?_)
   | (with_reducible refine LeO.bind ?_ (fun _ => ?_))
set_option maxHeartbeats 8000000 in
set_option maxRecDepth 100000 in
theorem spec_l01New.calls (k : Nat) (A0 : Option Addr) (c0 : Nat) (l0 : List Int) (r1 : List Int) (r2 : Int) (r3 : Int) (w0 w : World) (hB : Below w0.heap.size w0 w) (hr0 : Kd.C (Kd.int .u8) w0 A0 l0.length l0) (hc0 : l0.length ≤ c0) (h : spec_l01New.f k l0 = some (r1, r2, r3)) :
  Calls Try.prog 36 #[.slice A0 l0.length c0] w fun e w' => ∃ g_ : Nat, e = .returned (.pointer (some ⟨g_, 0, none⟩)) ∧ IsS78 w0 w' g_ r1 r2 r3 ∧ Below w0.heap.size w0 w' ∧ Below w.heap.size w w' := by
 have hu78 := Try.underlying78
 have HR0 := mk0 hr0
 have HC0 := mk0 hc0
 clear hr0 hc0
 have HBW := mk0 (Below.refl w.heap.size w)
 have HW0 := mk0 hB.size
 have HB := mk0 hB
 clear hB
 have H : (spec_l01New.l0 k l0 (wrap64 (28001 + (l0.length : Int))) 0) = some (r1, r2, r3) := h
 clear h
 have H' := mk0 H
 clear H
 go_enter Try.func36, Try.ntmps36
 go_wp2
 go_loopg [3, 4] k (fun kq v3 v4 w' => ∃ (x3_1 : Int) (x4_1 : Int), v3 = .int .i64 x3_1 ∧ v4 = .int .i64 x4_1 ∧ Aside0 (spec_l01New.l0 kq l0 x3_1 x4_1 = some (r1, r2, r3)) ∧ Aside0 (kq ≤ k) ∧ Aside0 (Below w0.heap.size w0 w') ∧ Aside0 (Below w.heap.size w w'))
 case atStart => exact ⟨(wrap64 (28001 + (l0.length : Int))), (0), rs0, rs0, H', ⟨Nat.le_refl _⟩, ⟨z12_3⟩, ⟨z12_19⟩⟩
 case round =>
  clear H'
  obtain ⟨x3_1, x4_1, rfl, rfl, HA, HK1, HB, HBW⟩ := hrel
  cases gk with
  | zero => exact absurd HA.out (by simp [spec_l01New.l0])
  | succ k1 =>
   have H := HA.out; clear HA
   simp only [spec_l01New.l0] at H
   by_cases c2 : x4_1 < (l0.length : Int)
   rotate_left
   ·rw [if_neg c2] at H
    have c2b0 := decide_eq_false c2
    clear c2
    simp only [Option.some.injEq, Prod.mk.injEq] at H
    obtain ⟨rfl, rfl, rfl⟩ := H
    go_wp2_with (first | ((with_reducible refine gate_dst (N := 31) rfl ?_); refine boxz (cs := #[.slice A0 l0.length c0, .int .i64 0, .int .i64 x3_1]) (t := 78) rfl ?_; intro gb423 hg w6 hbox hb; have n0_ := mk0 (below_step HBW.out hb); have n1_ := mk0 (below_step z12_3 hb); have n2_ := mk0 (hbox); have GW423 := mk0 (ge_go (a := w.heap.size) hg (below_size z12_19)); have GE423 := mk0 ((Nat.le_trans HW0.out (by rw [hg]; exact (below_size z12_19) : w.heap.size ≤ gb423) : w0.heap.size ≤ gb423)); clear HBW HB; have HBW := n0_; have HB := n1_; have BK423 := n2_; clear n0_ n1_ n2_ ; clear hb hbox hg))
    go_ret
    exact ⟨_, rfl, (show IsS78 w0 _ gb423 l0 0 x3_1 from ⟨_, _, pkb BK423, GE423.out, HR0.out⟩), (by repeat (first | (with_reducible first | exact HB.out | apply below_alloc | apply pw_below_drewN | apply below_drew1 | refine below_set ?_ GE423.out) | exact HB.out)), (by repeat (first | (with_reducible first | exact HBW.out | apply below_alloc | apply pw_below_drewN | apply below_drew1 | refine below_set ?_ GW423.out) | exact HBW.out))⟩
   rw [if_pos c2] at H
   have c2b0 := decide_eq_true c2
   clear c2
   by_cases c3 : x4_1 < 4000
   ·rw [if_pos c3] at H
    have c3b0 := decide_eq_true c3
    clear c3
    by_cases c4 : 0 ≤ x4_1
    rotate_left
    ·rw [if_neg c4] at H
     exact absurd H (by simp)
    rw [if_pos c4] at H
    have c4b0 := decide_eq_true c4
    clear c4
    have H' := mk0 H
    clear H
    have p421 : 0 ≤ (x4_1 : Int) := of_decide_eq_true (by first | (with_reducible assumption) | assumption)
    have q421 : x4_1 < (l0.length : Int) := of_decide_eq_true (by first | (with_reducible assumption) | assumption)
    obtain ⟨ad421, e421, hx421_0⟩ := Kd.at_int HR0.out x4_1 p421 q421
    cases e421
    replace hx421_0 := pw_cell_below HB.out hx421_0
    replace p421 := eq_true p421
    replace q421 := eq_true q421
    go_wp2
    go_roundg k1
    case measure => have := HK1.out; omega
    case rel => exact ⟨(Go.bits .and .i64 (wrap64 ((wrap64 ((wrap64 (x3_1 * 131)) + (wrap64 (rd l0 x4_1)))) + 7)) 1073741823), (wrap64 (x4_1 + 1)), rs0, rs0, H', ⟨(by have := HK1.out; omega)⟩, ⟨z12_3⟩, ⟨z12_19⟩⟩
   rw [if_neg c3] at H
   have c3b0 := decide_eq_false c3
   clear c3
   simp only [Option.some.injEq, Prod.mk.injEq] at H
   obtain ⟨rfl, rfl, rfl⟩ := H
   go_wp2_with (first | ((with_reducible refine gate_dst (N := 31) rfl ?_); refine boxz (cs := #[.slice A0 l0.length c0, .int .i64 0, .int .i64 x3_1]) (t := 78) rfl ?_; intro gb422 hg w5 hbox hb; have n0_ := mk0 (below_step HBW.out hb); have n1_ := mk0 (below_step z12_3 hb); have n2_ := mk0 (hbox); have GW422 := mk0 (ge_go (a := w.heap.size) hg (below_size z12_19)); have GE422 := mk0 ((Nat.le_trans HW0.out (by rw [hg]; exact (below_size z12_19) : w.heap.size ≤ gb422) : w0.heap.size ≤ gb422)); clear HBW HB; have HBW := n0_; have HB := n1_; have BK422 := n2_; clear n0_ n1_ n2_ ; clear hb hbox hg))
   go_ret
   exact ⟨_, rfl, (show IsS78 w0 _ gb422 l0 0 x3_1 from ⟨_, _, pkb BK422, GE422.out, HR0.out⟩), (by repeat (first | (with_reducible first | exact HB.out | apply below_alloc | apply pw_below_drewN | apply below_drew1 | refine below_set ?_ GE422.out) | exact HB.out)), (by repeat (first | (with_reducible first | exact HBW.out | apply below_alloc | apply pw_below_drewN | apply below_drew1 | refine below_set ?_ GW422.out) | exact HBW.out))⟩

/-! ### spec_DrawRightPath: function 15 -/
def spec_DrawRightPath.f (k : Nat) (l0 : List Int) : Option (List Int × (List (S46))) := (spec_l01New.f k l0).bind fun bt425 => ((spec_l06Path.f k bt425.1 bt425.2.1 bt425.2.2).bind fun bt429 => (some (bt429.1, bt429.2.1)))
theorem spec_DrawRightPath.mono : ∀ a0 k, LeO (spec_DrawRightPath.f k a0) (spec_DrawRightPath.f (k + 1) a0) := by
 intro a0 k
 unfold spec_DrawRightPath.f
 repeat' first
   | (with_reducible exact spec_l01New.mono _ _)
   | (with_reducible exact spec_l06Path.mono _ _ _ _)
   | (with_reducible exact LeO.refl _)
   | (with_reducible exact LeO.none _)
   | (with_reducible refine LeO.ite ?_ ?_)
   | (with_reducible refine LeO.bind ?_ (fun _ => ?_))
set_option maxHeartbeats 8000000 in
set_option maxRecDepth 100000 in
theorem spec_DrawRightPath.calls (k : Nat) (A0 : Option Addr) (c0 : Nat) (l0 : List Int) (r1 : List Int) (r2 : List (S46)) (w : World) (hr0 : Kd.C (Kd.int .u8) w A0 l0.length l0) (hc0 : l0.length ≤ c0) (h : spec_DrawRightPath.f k l0 = some (r1, r2)) :
  Calls Try.prog 15 #[.slice A0 l0.length c0] w fun e w' => ∃ v0_ v1_ : Value, e = .returned (.agg #[v0_, v1_]) ∧ Kd.R (Kd.int .i64) 3 w' w.heap.size (fun _ => True) v0_ r1 ∧ Kd.R k46 46 w' w.heap.size (fun _ => True) v1_ r2 ∧ Below w.heap.size w w' := by
 have hu31 := Try.underlying31
 have HR0 := mk0 hr0
 have HC0 := mk0 hc0
 clear hr0 hc0
 have HB := mk0 (Below.refl w.heap.size w)
 have H : ((spec_l01New.f k l0).bind fun bt425 => ((spec_l06Path.f k bt425.1 bt425.2.1 bt425.2.2).bind fun bt429 => (some (bt429.1, bt429.2.1)))) = some (r1, r2) := h
 clear h
 replace H := Option.bind_eq_some_iff.mp H
 obtain ⟨⟨t425, t426, t427⟩, A20, H⟩ := H
 try dsimp only at H
 have A2 := mk0 A20
 clear A20
 replace H := Option.bind_eq_some_iff.mp H
 obtain ⟨⟨t429, t432, t435, t436⟩, A30, H⟩ := H
 try dsimp only at H
 have A3 := mk0 A30
 clear A30
 simp only [Option.some.injEq, Prod.mk.injEq] at H
 obtain ⟨rfl, rfl⟩ := H
 go_enter Try.func15, Try.ntmps15
 go_wp2_with (first | ((with_reducible refine gate_dst (N := 2) rfl ?_); refine boxz (cs := #[.slice none 0 0, .slice none 0 0]) (t := 31) rfl ?_; intro gb424 hg w4 hbox hb; have n0_ := mk0 (below_step z12_3 hb); have n1_ := mk0 (hbox); have GW424 := mk0 (ge_go (a := w.heap.size) hg (below_size z12_3)); have GE424 := GW424; clear HB; have HB := n0_; have BK424 := n1_; clear n0_ n1_ ; clear hb hbox hg) | ((with_reducible refine gate_callee (f := 36) rfl ?_); refine goesL_ (some 4) rfl rfl Try.func36 (by kernel_rfl) rfl #[.slice A0 l0.length c0] rfl z12_10 ?_; (with_reducible refine (spec_l01New.calls k _ _ l0 t425 t426 t427 w _ ?side1 ?side2 ?side3 A2.out).mono ?_); (case side1 => repeat (first | (with_reducible first | exact HB.out | apply below_alloc | apply pw_below_drewN | apply below_drew1 | refine below_set ?_ GE424.out) | exact HB.out)); (case side2 => exact HR0.out); (case side3 => exact HC0.out); rintro e w5 ⟨g428, rfl, hi, hb, hb2⟩; refine ⟨_, rfl, ?_⟩; have n0_ := mk0 (blk_belowB BK424 (pkb BK424) hb2); have n1_ := mk0 (hb); have n2_ := mk0 (hi); have n3_ := mk0 (IsS78.ne_blk hi (blk_belowB BK424 (pkb BK424) hb2) (by decide)); have n4_ := mk0 (Ne.symm (IsS78.ne_blk hi (blk_belowB BK424 (pkb BK424) hb2) (by decide))); clear BK424 HB; have BK424 := n0_; have HB := n1_; have HI428 := n2_; have NB428_424 := n3_; have NB424_428 := n4_; clear n0_ n1_ n2_ n3_ n4_; (try clear hb); (try clear hb2); (try clear hk); (try clear hi)) | ((with_reducible refine gate_callee (f := 35) rfl ?_); refine goesL_ (some 5) rfl rfl Try.func35 (by kernel_rfl) rfl #[.pointer (some ⟨g428, 0, none⟩)] rfl z12_10 ?_; (with_reducible refine (spec_l06Path.calls k g428 t425 t426 t427 t429 t432 t435 t436 w _ ?side1 ?side2 A3.out).mono ?_); (case side1 => repeat (first | (with_reducible first | exact HI428.out | apply IsS78.alloc | apply IsS78.drewN | apply IsS78.drew | apply IsS78.set_1 | apply IsS78.set_2 | apply IsS78.farB NB428_424.out) | exact HI428.out)); (case side2 => repeat (first | (with_reducible first | exact HB.out | apply below_alloc | apply pw_below_drewN | apply below_drew1 | refine below_set ?_ (IsS78.ge HI428.out) | refine below_set ?_ GE424.out) | exact HB.out)); rintro e w6 ⟨v430, v433, rfl, ho0, ho1, hi, hb, hk⟩; refine ⟨_, rfl, ?_⟩; have n0_ := mk0 (KeepBut.blk hk (g' := gb424) (o := .cells #[.slice none 0 0, .slice none 0 0] 31 (0, 0)) (pkb BK424) NB424_428.out (by simp)); have n1_ := mk0 (Kd.R_lower ho0 (below_size z12_24)); have n2_ := mk0 (Kd.R_lower ho1 (below_size z12_24)); have n3_ := mk0 (hb); have n4_ := mk0 (hi); clear BK424 HB HI428; have BK424 := n0_; have HO431 := n1_; have HO434 := n2_; have HB := n3_; have HI428 := n4_; clear n0_ n1_ n2_ n3_ n4_; (try clear hb); (try clear hb2); (try clear hk); (try clear hi); (try clear ho0); (try clear ho1); obtain ⟨Ao7, co7, eo7⟩ := Kd.R_slice HO431.out; subst eo7; have hnb8 := NB424_428.out; have hnc8 := NB428_424.out; obtain ⟨_, _, _, _⟩ := be_2 BK424.out; obtain ⟨Ao10, co10, eo10⟩ := Kd.R_slice HO434.out; subst eo10))
 refine bodyPost_ret (results_cell_row rfl _ _ gb424 31 #[.slice Ao7 t429.length co7, .slice Ao10 t432.length co10] (0, 0) _ rfl (by apply blk_fin; (focus ((with_reducible repeat (first | apply blk_putQ | refine blk_drewN ?_ _ | refine blk_drew ?_ | refine blk_alloc ?_ _)); exact BK424.out)); first | (simp only [List.setIfInBounds_toArray, List.set_cons_zero, List.set_cons_succ]; done) | rfl) Try.underlying31 rfl (by kernel_rfl)) rfl ?_
 exact ⟨_, _, z12_18, (by (with_reducible repeat (first | apply Kd.R_alloc | apply Kd.R_drewN | apply Kd.R_drew)); exact Kd.R_mono (Kd.R_far (p := ⟨gb424, 1, none⟩) (Kd.R_far (p := ⟨gb424, 0, none⟩) (Kd.R_types HO431.out BK424.out (by decide)) (fun _ hk => hk.2) (.slice Ao7 t429.length co7)) (fun _ hk => hk.2) (.slice Ao10 t432.length co10)) (fun _ hk => trivial)), (by (with_reducible repeat (first | apply Kd.R_alloc | apply Kd.R_drewN | apply Kd.R_drew)); exact Kd.R_mono (Kd.R_far (p := ⟨gb424, 1, none⟩) (Kd.R_far (p := ⟨gb424, 0, none⟩) (Kd.R_types HO434.out BK424.out (by decide)) (fun _ hk => hk.2) (.slice Ao7 t429.length co7)) (fun _ hk => hk.2) (.slice Ao10 t432.length co10)) (fun _ hk => trivial)), z12_24⟩

/-! ### impl_taken: function 53 -/
def impl_taken.f (a0 : Int) (a1 : Int) : Option (Int) := (impl_Clamp.f a0 (wrap64 (-a1)) a1).bind fun t437 => (some t437)
set_option maxHeartbeats 8000000 in
set_option maxRecDepth 100000 in
theorem impl_taken.calls (a0 : Int) (a1 : Int) (r : Int) (w : World) (h : impl_taken.f a0 a1 = some r) :
  Calls Try.prog 53 #[.int .i64 a0, .int .i64 a1] w fun e w' => e = .returned (.int .i64 r) ∧ Drawn0 w w' := by
 have H : ((impl_Clamp.f a0 (wrap64 (-a1)) a1).bind fun t437 => (some t437)) = some r := h
 clear h
 replace H := Option.bind_eq_some_iff.mp H
 obtain ⟨t437, A30, H⟩ := H
 try dsimp only at H
 have A3 := mk0 A30
 clear A30
 obtain rfl := Option.some.inj H
 simp only [Option.some.injEq, Prod.mk.injEq] at H
 obtain ⟨rfl⟩ := H
 go_enter Try.func53, Try.ntmps53
 go_wp2_with (first | ((with_reducible refine gate_callee (f := 57) rfl ?_); refine goesL_ (some 9) rfl rfl Try.func57 (by kernel_rfl) rfl #[.int .i64 a0, .int .i64 (wrap64 (-a1)), .int .i64 a1] rfl z12_10 ?_; (with_reducible refine (impl_Clamp.calls a0 (wrap64 (-a1)) a1 t437 _ A3.out).mono ?_); rintro e w' ⟨rfl, ⟨nd, rfl⟩⟩; refine ⟨_, rfl, ?_⟩))
 go_ret
 exact ⟨rs0, z12_28⟩

/-! ### impl_Empty: function 61 -/
def impl_Empty.f (a0_0 : Int) (a0_1 : Int) (a0_2 : Int) (a0_3 : Int) : Option (Bool) := if a0_0 ≥ a0_2 then (some true) else (some (decide (a0_1 ≥ a0_3)))
set_option maxHeartbeats 8000000 in
set_option maxRecDepth 100000 in
theorem impl_Empty.calls (a0_0 : Int) (a0_1 : Int) (a0_2 : Int) (a0_3 : Int) (r : Bool) (w : World) (h : impl_Empty.f a0_0 a0_1 a0_2 a0_3 = some r) :
  Calls Try.prog 61 #[.agg #[.int .i64 a0_0, .int .i64 a0_1, .int .i64 a0_2, .int .i64 a0_3]] w fun e w' => e = .returned (.bool r) ∧ Below w.heap.size w w' := by
 have hu42 := Try.underlying42
 have HB := mk0 (Below.refl w.heap.size w)
 have H : (if a0_0 ≥ a0_2 then (some true) else (some (decide (a0_1 ≥ a0_3)))) = some r := h
 clear h
 by_cases c2 : a0_0 ≥ a0_2
 ·rw [if_pos c2] at H
  have c2b0 := decide_eq_true c2
  clear c2
  obtain rfl := Option.some.inj H
  simp only [Option.some.injEq, Prod.mk.injEq] at H
  obtain ⟨rfl⟩ := H
  go_enter Try.func61, Try.ntmps61
  go_wp2_with (first | ((with_reducible refine gate_dst (N := 1) rfl ?_); refine boxz (cs := #[.int .i64 a0_0, .int .i64 a0_1, .int .i64 a0_2, .int .i64 a0_3]) (t := 42) rfl ?_; intro gb438 hg w3 hbox hb; have n0_ := mk0 (below_step z12_3 hb); have n1_ := mk0 (hbox); have GW438 := mk0 (ge_go (a := w.heap.size) hg (below_size z12_3)); have GE438 := GW438; clear HB; have HB := n0_; have BK438 := n1_; clear n0_ n1_ ; clear hb hbox hg; obtain ⟨_, _, _, _, _, _, _, _⟩ := be_4 BK438.out))
  go_ret
  exact ⟨z12_18, z12_31⟩
 rw [if_neg c2] at H
 have c2b0 := decide_eq_false c2
 clear c2
 obtain rfl := Option.some.inj H
 simp only [Option.some.injEq, Prod.mk.injEq] at H
 obtain ⟨rfl⟩ := H
 go_enter Try.func61, Try.ntmps61
 go_wp2_with (first | ((with_reducible refine gate_dst (N := 1) rfl ?_); refine boxz (cs := #[.int .i64 a0_0, .int .i64 a0_1, .int .i64 a0_2, .int .i64 a0_3]) (t := 42) rfl ?_; intro gb438 hg w5 hbox hb; have n0_ := mk0 (below_step z12_3 hb); have n1_ := mk0 (hbox); have GW438 := mk0 (ge_go (a := w.heap.size) hg (below_size z12_3)); have GE438 := GW438; clear HB; have HB := n0_; have BK438 := n1_; clear n0_ n1_ ; clear hb hbox hg; obtain ⟨_, _, _, _, _, _, _, _⟩ := be_4 BK438.out))
 go_ret
 exact ⟨z12_18, z12_31⟩

/-! ### impl_JoinBox: function 54 -/
def impl_JoinBox.j0 : Nat → Bool → Int → Int → Int → Int → Int → Int → Int → Int → Option (Int × Int × Int × Int)
 | 0, _, _, _, _, _, _, _, _, _ => none
 | k + 1, x5, x440000, x440001, x440002, x440003, x441000, x441001, x441002, x441003 => if x5 = true then (some (0, 0, 0, 0)) else ((impl_Empty.f x440000 x440001 x440002 x440003).bind fun t444 => (if t444 = true then (some (x441000, x441001, x441002, x441003)) else ((impl_Empty.f x441000 x441001 x441002 x441003).bind fun t445 => (if t445 = true then (some (x440000, x440001, x440002, x440003)) else (some (mn x440000 x441000, mn x440001 x441001, mx x440002 x441002, mx x440003 x441003))))))
def impl_JoinBox.f (k : Nat) (a0_0 : Int) (a0_1 : Int) (a0_2 : Int) (a0_3 : Int) (a1_0 : Int) (a1_1 : Int) (a1_2 : Int) (a1_3 : Int) : Option (Int × Int × Int × Int) := (impl_Empty.f a0_0 a0_1 a0_2 a0_3).bind fun t442 => (if t442 = true then ((impl_Empty.f a1_0 a1_1 a1_2 a1_3).bind fun t443 => (impl_JoinBox.j0 k t443 a0_0 a0_1 a0_2 a0_3 a1_0 a1_1 a1_2 a1_3)) else (impl_JoinBox.j0 k false a0_0 a0_1 a0_2 a0_3 a1_0 a1_1 a1_2 a1_3))
theorem impl_JoinBox.mono_l : ∀ k, (∀ y0 y1 y2 y3 y4 y5 y6 y7 y8, LeO (impl_JoinBox.j0 k y0 y1 y2 y3 y4 y5 y6 y7 y8) (impl_JoinBox.j0 (k + 1) y0 y1 y2 y3 y4 y5 y6 y7 y8))
 | 0 => fun _ _ _ _ _ _ _ _ _ r h => by simp [impl_JoinBox.j0] at h
 | k + 1 => by
  have ih0 := impl_JoinBox.mono_l k
  ·intro y0 y1 y2 y3 y4 y5 y6 y7 y8
   unfold impl_JoinBox.j0
   repeat' first
   | (with_reducible exact ih0 _ _ _ _ _ _ _ _ _)
   | (with_reducible exact LeO.refl _)
   | (with_reducible exact LeO.none _)
   | (with_reducible refine LeO.ite ?_ ?_)
   | (with_reducible refine LeO.bind ?_ (fun _ => ?_))
theorem impl_JoinBox.mono : ∀ a0 a1 a2 a3 a4 a5 a6 a7 k, LeO (impl_JoinBox.f k a0 a1 a2 a3 a4 a5 a6 a7) (impl_JoinBox.f (k + 1) a0 a1 a2 a3 a4 a5 a6 a7) := by
 intro a0 a1 a2 a3 a4 a5 a6 a7 k
 have ih0 := impl_JoinBox.mono_l k
 unfold impl_JoinBox.f
 repeat' first
   | (with_reducible exact ih0 _ _ _ _ _ _ _ _ _)
   | (with_reducible exact LeO.refl _)
   | (with_reducible exact LeO.none _)
   | (with_reducible refine LeO.ite ?_ ?_)
   | (with_reducible refine LeO.bind ?_ (fun _ => ?_))
set_option maxHeartbeats 8000000 in
set_option maxRecDepth 100000 in
theorem impl_JoinBox.calls (k : Nat) (a0_0 : Int) (a0_1 : Int) (a0_2 : Int) (a0_3 : Int) (a1_0 : Int) (a1_1 : Int) (a1_2 : Int) (a1_3 : Int) (r1 : Int) (r2 : Int) (r3 : Int) (r4 : Int) (w : World) (h : impl_JoinBox.f k a0_0 a0_1 a0_2 a0_3 a1_0 a1_1 a1_2 a1_3 = some (r1, r2, r3, r4)) :
  Calls Try.prog 54 #[.agg #[.int .i64 a0_0, .int .i64 a0_1, .int .i64 a0_2, .int .i64 a0_3], .agg #[.int .i64 a1_0, .int .i64 a1_1, .int .i64 a1_2, .int .i64 a1_3]] w fun e w' => e = .returned (.agg #[.int .i64 r1, .int .i64 r2, .int .i64 r3, .int .i64 r4]) ∧ Below w.heap.size w w' := by
 have hu42 := Try.underlying42
 have HB := mk0 (Below.refl w.heap.size w)
 have H : ((impl_Empty.f a0_0 a0_1 a0_2 a0_3).bind fun t442 => (if t442 = true then ((impl_Empty.f a1_0 a1_1 a1_2 a1_3).bind fun t443 => (impl_JoinBox.j0 k t443 a0_0 a0_1 a0_2 a0_3 a1_0 a1_1 a1_2 a1_3)) else (impl_JoinBox.j0 k false a0_0 a0_1 a0_2 a0_3 a1_0 a1_1 a1_2 a1_3))) = some (r1, r2, r3, r4) := h
 clear h
 have HC3 := mk0 H
 clear H
 go_enter Try.func54, Try.ntmps54
 go_upto_region 1 with (first | ((with_reducible refine gate_dst (N := 2) rfl ?_); refine boxz (cs := #[.int .i64 a0_0, .int .i64 a0_1, .int .i64 a0_2, .int .i64 a0_3]) (t := 42) rfl ?_; intro gb439 hg w4 hbox hb; have n0_ := mk0 (below_step z12_3 hb); have n1_ := mk0 (hbox); have GW439 := mk0 (ge_go (a := w.heap.size) hg (below_size z12_3)); have GE439 := GW439; clear HB; have HB := n0_; have BK439 := n1_; clear n0_ n1_ ; clear hb hbox hg) | ((with_reducible refine gate_dst (N := 3) rfl ?_); refine boxz (cs := #[.int .i64 a1_0, .int .i64 a1_1, .int .i64 a1_2, .int .i64 a1_3]) (t := 42) rfl ?_; intro gb440 hg w5 hbox hb; have n0_ := mk0 (blk_belowB BK439 (pkb BK439) hb); have n1_ := mk0 (below_step z12_27 hb); have n2_ := mk0 (hbox); have GW440 := mk0 (ge_go (a := w.heap.size) hg (below_size z12_27)); have GE440 := GW440; have NB439_440 := mk0 (nb_lt hg (blk_ltB BK439 (pkb BK439))); have NB440_439 := mk0 (nb_gt hg (blk_ltB BK439 (pkb BK439))); clear BK439 HB; have BK439 := n0_; have HB := n1_; have BK440 := n2_; clear n0_ n1_ n2_ ; clear hb hbox hg) | ((with_reducible refine gate_dst (N := 4) rfl ?_); refine boxz (cs := #[.int .i64 0, .int .i64 0, .int .i64 0, .int .i64 0]) (t := 42) rfl ?_; intro gb441 hg w6 hbox hb; have n0_ := mk0 (blk_belowB BK439 (pkb BK439) hb); have n1_ := mk0 (blk_belowB BK440 (pkb BK440) hb); have n2_ := mk0 (below_step z12_25 hb); have n3_ := mk0 (hbox); have GW441 := mk0 (ge_go (a := w.heap.size) hg (below_size z12_25)); have GE441 := GW441; have NB439_441 := mk0 (nb_lt hg (blk_ltB BK439 (pkb BK439))); have NB441_439 := mk0 (nb_gt hg (blk_ltB BK439 (pkb BK439))); have NB440_441 := mk0 (nb_lt hg (blk_ltB BK440 (pkb BK440))); have NB441_440 := mk0 (nb_gt hg (blk_ltB BK440 (pkb BK440))); clear BK439 BK440 HB; have BK439 := n0_; have BK440 := n1_; have HB := n2_; have BK441 := n3_; clear n0_ n1_ n2_ n3_ ; clear hb hbox hg))
 (try simp only [Act.put, List.setIfInBounds_toArray, List.set_cons_zero, List.set_cons_succ])
 go_cut [5] (fun v5 wc => ∃ (kq : Nat) (x5_2 : Bool), v5 = .bool x5_2 ∧ Aside0 (impl_JoinBox.j0 kq x5_2 a0_0 a0_1 a0_2 a0_3 a1_0 a1_1 a1_2 a1_3 = some (r1, r2, r3, r4)) ∧ Aside0 (kq ≤ k) ∧ Aside0 (wc.heap[gb439]? = some (.cells #[.int .i64 a0_0, .int .i64 a0_1, .int .i64 a0_2, .int .i64 a0_3] 42 (0, 0))) ∧ Aside0 (wc.heap[gb440]? = some (.cells #[.int .i64 a1_0, .int .i64 a1_1, .int .i64 a1_2, .int .i64 a1_3] 42 (0, 0))) ∧ Aside0 (wc.heap[gb441]? = some (.cells #[.int .i64 0, .int .i64 0, .int .i64 0, .int .i64 0] 42 (0, 0))) ∧ Aside0 (Below w.heap.size w wc))
 case first =>
  have H := HC3.out; clear HC3
  replace H := Option.bind_eq_some_iff.mp H
  obtain ⟨t442, A70, H⟩ := H
  try dsimp only at H
  have A7 := mk0 A70
  clear A70
  by_cases c8 : t442 = true
  rotate_left
  ·replace c8 := Bool.eq_false_iff.mpr c8
   subst c8
   rw [if_neg (show ¬ (false = true) by decide)] at H
   have H' := mk0 H
   clear H; have hnb17 := NB439_440.out; have hnc17 := NB440_439.out; have hnb18 := NB439_441.out; have hnc18 := NB441_439.out
   obtain ⟨_, _, _, _, _, _, _, _⟩ := be_4 BK439.out
   go_wp2_with (first | ((with_reducible refine gate_callee (f := 61) rfl ?_); refine goesL_ (some 7) rfl rfl Try.func61 (by kernel_rfl) rfl #[.agg #[.int .i64 a0_0, .int .i64 a0_1, .int .i64 a0_2, .int .i64 a0_3]] rfl z12_10 ?_; (with_reducible refine (impl_Empty.calls a0_0 a0_1 a0_2 a0_3 false _ A7.out).mono ?_); rintro e w20 ⟨rfl, hb⟩; refine ⟨_, rfl, ?_⟩; have n0_ := mk0 (blk_belowB BK439 (pkb BK439) hb); have n1_ := mk0 (blk_belowB BK440 (pkb BK440) hb); have n2_ := mk0 (blk_belowB BK441 (pkb BK441) hb); have n3_ := mk0 (below_step z12_6 hb); clear BK439 BK440 BK441 HB; have BK439 := n0_; have BK440 := n1_; have BK441 := n2_; have HB := n3_; clear n0_ n1_ n2_ n3_; (try clear hb)))
   go_meet
   case rel => exact ⟨_, (false), rs0, H', ⟨(by first | omega | exact Nat.le_refl _)⟩, ⟨pkb BK439⟩, ⟨pkb BK440⟩, ⟨pkb BK441⟩, ⟨z12_6⟩⟩
  subst c8
  rw [if_pos rfl] at H
  replace H := Option.bind_eq_some_iff.mp H
  obtain ⟨t443, A90, H⟩ := H
  try dsimp only at H
  have A9 := mk0 A90
  clear A90
  have H' := mk0 H
  clear H; have hnb10 := NB439_440.out; have hnc10 := NB440_439.out; have hnb11 := NB439_441.out; have hnc11 := NB441_439.out
  obtain ⟨_, _, _, _, _, _, _, _⟩ := be_4 BK439.out
  go_wp2_with (first | ((with_reducible refine gate_callee (f := 61) rfl ?_); refine goesL_ (some 7) rfl rfl Try.func61 (by kernel_rfl) rfl #[.agg #[.int .i64 a0_0, .int .i64 a0_1, .int .i64 a0_2, .int .i64 a0_3]] rfl z12_10 ?_; (with_reducible refine (impl_Empty.calls a0_0 a0_1 a0_2 a0_3 true _ A7.out).mono ?_); rintro e w13 ⟨rfl, hb⟩; refine ⟨_, rfl, ?_⟩; have n0_ := mk0 (blk_belowB BK439 (pkb BK439) hb); have n1_ := mk0 (blk_belowB BK440 (pkb BK440) hb); have n2_ := mk0 (blk_belowB BK441 (pkb BK441) hb); have n3_ := mk0 (below_step z12_6 hb); clear BK439 BK440 BK441 HB; have BK439 := n0_; have BK440 := n1_; have BK441 := n2_; have HB := n3_; clear n0_ n1_ n2_ n3_; (try clear hb); have hnb14 := NB440_441.out; have hnc14 := NB441_440.out; obtain ⟨_, _, _, _, _, _, _, _⟩ := be_4 BK440.out) | (go_at_call 61; (with_reducible refine (impl_Empty.calls a1_0 a1_1 a1_2 a1_3 t443 _ A9.out).mono ?_); rintro e w16 ⟨rfl, hb⟩; have n0_ := mk0 (blk_belowB BK439 (pkb BK439) hb); have n1_ := mk0 (blk_belowB BK440 (pkb BK440) hb); have n2_ := mk0 (blk_belowB BK441 (pkb BK441) hb); have n3_ := mk0 (below_step z12_6 hb); clear BK439 BK440 BK441 HB; have BK439 := n0_; have BK440 := n1_; have BK441 := n2_; have HB := n3_; clear n0_ n1_ n2_ n3_; (try clear hb)))
  go_meet
  case rel => exact ⟨_, (t443), rs0, H', ⟨(by first | omega | exact Nat.le_refl _)⟩, ⟨pkb BK439⟩, ⟨pkb BK440⟩, ⟨pkb BK441⟩, ⟨z12_6⟩⟩
 case rest =>
  clear HC3; try clear c1
  try clear p2
  try clear c5
  try clear c6
  try clear c8
  try clear c10
  try clear c11
  try clear c14
  try clear c17
  try clear c18
  obtain ⟨kq, x5_2, rfl, HA, HJ2, BK439, BK440, BK441, HB⟩ := hcut
  cases kq with
  | zero => exact absurd HA.out (by simp [impl_JoinBox.j0])
  | succ kj2 =>
   have H := HA.out; clear HA
   simp only [impl_JoinBox.j0] at H
   by_cases c21 : x5_2 = true
   ·subst c21
    rw [if_pos rfl] at H
    simp only [Option.some.injEq, Prod.mk.injEq] at H
    obtain ⟨rfl, rfl, rfl, rfl⟩ := H
    have hnb22 := NB441_439.out; have hnc22 := NB439_441.out; have hnb23 := NB441_440.out; have hnc23 := NB440_441.out
    obtain ⟨_, _, _, _, _, _, _, _⟩ := be_4 BK441.out
    go_wp2
    refine bodyPost_ret (results_cell_row rfl _ _ gb441 42 #[.int .i64 0, .int .i64 0, .int .i64 0, .int .i64 0] (0, 0) _ rfl z12_17 Try.underlying42 rfl (by kernel_rfl)) rfl ?_
    exact ⟨z12_18, z12_6⟩
   replace c21 := Bool.eq_false_iff.mpr c21
   subst c21
   rw [if_neg (show ¬ (false = true) by decide)] at H
   replace H := Option.bind_eq_some_iff.mp H
   obtain ⟨t444, A250, H⟩ := H
   try dsimp only at H
   have A25 := mk0 A250
   clear A250
   by_cases c26 : t444 = true
   ·subst c26
    rw [if_pos rfl] at H
    simp only [Option.some.injEq, Prod.mk.injEq] at H
    obtain ⟨rfl, rfl, rfl, rfl⟩ := H
    have hnb27 := NB439_440.out; have hnc27 := NB440_439.out; have hnb28 := NB439_441.out; have hnc28 := NB441_439.out
    obtain ⟨_, _, _, _, _, _, _, _⟩ := be_4 BK439.out
    go_wp2_with (first | ((with_reducible refine gate_callee (f := 61) rfl ?_); refine goesL_ (some 15) rfl rfl Try.func61 (by kernel_rfl) rfl #[.agg #[.int .i64 a0_0, .int .i64 a0_1, .int .i64 a0_2, .int .i64 a0_3]] rfl z12_10 ?_; (with_reducible refine (impl_Empty.calls a0_0 a0_1 a0_2 a0_3 true _ A25.out).mono ?_); rintro e w30 ⟨rfl, hb⟩; refine ⟨_, rfl, ?_⟩; have n0_ := mk0 (blk_belowB BK439 (pkb BK439) hb); have n1_ := mk0 (blk_belowB BK440 (pkb BK440) hb); have n2_ := mk0 (blk_belowB BK441 (pkb BK441) hb); have n3_ := mk0 (below_step z12_6 hb); clear BK439 BK440 BK441 HB; have BK439 := n0_; have BK440 := n1_; have BK441 := n2_; have HB := n3_; clear n0_ n1_ n2_ n3_; (try clear hb); have hnb31 := NB440_441.out; have hnc31 := NB441_440.out; obtain ⟨_, _, _, _, _, _, _, _⟩ := be_4 BK440.out; obtain ⟨_, _, _, _, _, _, _, _⟩ := be_4 BK441.out))
    refine bodyPost_ret (results_cell_row rfl _ _ gb441 42 #[.int .i64 a1_0, .int .i64 a1_1, .int .i64 a1_2, .int .i64 a1_3] (0, 0) _ rfl z12_17 Try.underlying42 rfl (by kernel_rfl)) rfl ?_
    exact ⟨z12_18, z12_6⟩
   replace c26 := Bool.eq_false_iff.mpr c26
   subst c26
   rw [if_neg (show ¬ (false = true) by decide)] at H
   replace H := Option.bind_eq_some_iff.mp H
   obtain ⟨t445, A340, H⟩ := H
   try dsimp only at H
   have A34 := mk0 A340
   clear A340
   by_cases c35 : t445 = true
   ·subst c35
    rw [if_pos rfl] at H
    simp only [Option.some.injEq, Prod.mk.injEq] at H
    obtain ⟨rfl, rfl, rfl, rfl⟩ := H
    have hnb36 := NB439_440.out; have hnc36 := NB440_439.out; have hnb37 := NB439_441.out; have hnc37 := NB441_439.out
    obtain ⟨_, _, _, _, _, _, _, _⟩ := be_4 BK439.out
    go_wp2_with (first | ((with_reducible refine gate_callee (f := 61) rfl ?_); refine goesL_ (some 15) rfl rfl Try.func61 (by kernel_rfl) rfl #[.agg #[.int .i64 a0_0, .int .i64 a0_1, .int .i64 a0_2, .int .i64 a0_3]] rfl z12_10 ?_; (with_reducible refine (impl_Empty.calls a0_0 a0_1 a0_2 a0_3 false _ A25.out).mono ?_); rintro e w39 ⟨rfl, hb⟩; refine ⟨_, rfl, ?_⟩; have n0_ := mk0 (blk_belowB BK439 (pkb BK439) hb); have n1_ := mk0 (blk_belowB BK440 (pkb BK440) hb); have n2_ := mk0 (blk_belowB BK441 (pkb BK441) hb); have n3_ := mk0 (below_step z12_6 hb); clear BK439 BK440 BK441 HB; have BK439 := n0_; have BK440 := n1_; have BK441 := n2_; have HB := n3_; clear n0_ n1_ n2_ n3_; (try clear hb); have hnb40 := NB440_441.out; have hnc40 := NB441_440.out; obtain ⟨_, _, _, _, _, _, _, _⟩ := be_4 BK440.out) | ((with_reducible refine gate_callee (f := 61) rfl ?_); refine goesL_ (some 19) rfl rfl Try.func61 (by kernel_rfl) rfl #[.agg #[.int .i64 a1_0, .int .i64 a1_1, .int .i64 a1_2, .int .i64 a1_3]] rfl z12_10 ?_; (with_reducible refine (impl_Empty.calls a1_0 a1_1 a1_2 a1_3 true _ A34.out).mono ?_); rintro e w42 ⟨rfl, hb⟩; refine ⟨_, rfl, ?_⟩; have n0_ := mk0 (blk_belowB BK439 (pkb BK439) hb); have n1_ := mk0 (blk_belowB BK440 (pkb BK440) hb); have n2_ := mk0 (blk_belowB BK441 (pkb BK441) hb); have n3_ := mk0 (below_step z12_6 hb); clear BK439 BK440 BK441 HB; have BK439 := n0_; have BK440 := n1_; have BK441 := n2_; have HB := n3_; clear n0_ n1_ n2_ n3_; (try clear hb); obtain ⟨_, _, _, _, _, _, _, _⟩ := be_4 BK439.out; obtain ⟨_, _, _, _, _, _, _, _⟩ := be_4 BK441.out))
    refine bodyPost_ret (results_cell_row rfl _ _ gb441 42 #[.int .i64 a0_0, .int .i64 a0_1, .int .i64 a0_2, .int .i64 a0_3] (0, 0) _ rfl z12_17 Try.underlying42 rfl (by kernel_rfl)) rfl ?_
    exact ⟨z12_18, z12_6⟩
   replace c35 := Bool.eq_false_iff.mpr c35
   subst c35
   rw [if_neg (show ¬ (false = true) by decide)] at H
   obtain ⟨ji45, hji45⟩ : ∃ j_ : Int, (mn a0_0 a1_0) = j_ := ⟨_, rfl⟩
   replace H : (some (ji45, mn a0_1 a1_1, mx a0_2 a1_2, mx a0_3 a1_3)) = some (r1, r2, r3, r4) := by first | (rw [hji45] at H; exact H) | (simp only [hji45] at H ⊢; exact H)
   (try rw [hji45] at A25)
   (try rw [hji45] at A34)
   have hji45_ : (if a1_0 < a0_0 then a1_0 else a0_0) = ji45 := hji45
   obtain ⟨ji46, hji46⟩ : ∃ j_ : Int, (mn a0_1 a1_1) = j_ := ⟨_, rfl⟩
   replace H : (some (ji45, ji46, mx a0_2 a1_2, mx a0_3 a1_3)) = some (r1, r2, r3, r4) := by first | (rw [hji46] at H; exact H) | (simp only [hji46] at H ⊢; exact H)
   (try rw [hji46] at A25)
   (try rw [hji46] at A34)
   have hji46_ : (if a1_1 < a0_1 then a1_1 else a0_1) = ji46 := hji46
   obtain ⟨ji47, hji47⟩ : ∃ j_ : Int, (mx a0_2 a1_2) = j_ := ⟨_, rfl⟩
   replace H : (some (ji45, ji46, ji47, mx a0_3 a1_3)) = some (r1, r2, r3, r4) := by first | (rw [hji47] at H; exact H) | (simp only [hji47] at H ⊢; exact H)
   (try rw [hji47] at A25)
   (try rw [hji47] at A34)
   have hji47_ : (if a0_2 < a1_2 then a1_2 else a0_2) = ji47 := hji47
   obtain ⟨ji48, hji48⟩ : ∃ j_ : Int, (mx a0_3 a1_3) = j_ := ⟨_, rfl⟩
   replace H : (some (ji45, ji46, ji47, ji48)) = some (r1, r2, r3, r4) := by first | (rw [hji48] at H; exact H) | (simp only [hji48] at H ⊢; exact H)
   (try rw [hji48] at A25)
   (try rw [hji48] at A34)
   have hji48_ : (if a0_3 < a1_3 then a1_3 else a0_3) = ji48 := hji48
   simp only [Option.some.injEq, Prod.mk.injEq] at H
   obtain ⟨rfl, rfl, rfl, rfl⟩ := H
   have hnb49 := NB439_440.out; have hnc49 := NB440_439.out; have hnb50 := NB439_441.out; have hnc50 := NB441_439.out
   obtain ⟨_, _, _, _, _, _, _, _⟩ := be_4 BK439.out
   go_wp2_with (first | ((with_reducible refine gate_callee (f := 61) rfl ?_); refine goesL_ (some 15) rfl rfl Try.func61 (by kernel_rfl) rfl #[.agg #[.int .i64 a0_0, .int .i64 a0_1, .int .i64 a0_2, .int .i64 a0_3]] rfl z12_10 ?_; (with_reducible refine (impl_Empty.calls a0_0 a0_1 a0_2 a0_3 false _ A25.out).mono ?_); rintro e w52 ⟨rfl, hb⟩; refine ⟨_, rfl, ?_⟩; have n0_ := mk0 (blk_belowB BK439 (pkb BK439) hb); have n1_ := mk0 (blk_belowB BK440 (pkb BK440) hb); have n2_ := mk0 (blk_belowB BK441 (pkb BK441) hb); have n3_ := mk0 (below_step z12_6 hb); clear BK439 BK440 BK441 HB; have BK439 := n0_; have BK440 := n1_; have BK441 := n2_; have HB := n3_; clear n0_ n1_ n2_ n3_; (try clear hb); have hnb53 := NB440_441.out; have hnc53 := NB441_440.out; obtain ⟨_, _, _, _, _, _, _, _⟩ := be_4 BK440.out) | ((with_reducible refine gate_callee (f := 61) rfl ?_); refine goesL_ (some 19) rfl rfl Try.func61 (by kernel_rfl) rfl #[.agg #[.int .i64 a1_0, .int .i64 a1_1, .int .i64 a1_2, .int .i64 a1_3]] rfl z12_10 ?_; (with_reducible refine (impl_Empty.calls a1_0 a1_1 a1_2 a1_3 false _ A34.out).mono ?_); rintro e w55 ⟨rfl, hb⟩; refine ⟨_, rfl, ?_⟩; have n0_ := mk0 (blk_belowB BK439 (pkb BK439) hb); have n1_ := mk0 (blk_belowB BK440 (pkb BK440) hb); have n2_ := mk0 (blk_belowB BK441 (pkb BK441) hb); have n3_ := mk0 (below_step z12_6 hb); clear BK439 BK440 BK441 HB; have BK439 := n0_; have BK440 := n1_; have BK441 := n2_; have HB := n3_; clear n0_ n1_ n2_ n3_; (try clear hb); obtain ⟨_, _, _, _, _, _, _, _⟩ := be_4 BK439.out; obtain ⟨_, _, _, _, _, _, _, _⟩ := be_4 BK440.out; obtain ⟨_, _, _, _, _, _, _, _⟩ := be_4 BK441.out))
   refine bodyPost_ret (results_cell_row rfl _ _ gb441 42 #[.int .i64 ji45, .int .i64 ji46, .int .i64 ji47, .int .i64 ji48] (0, 0) _ rfl z12_17 Try.underlying42 rfl (by kernel_rfl)) rfl ?_
   exact ⟨(by first | rfl | (simp [errW_none, errW_some] <;> rfl) | (simp only [← hji45, ← hji46, ← hji47, ← hji48]; first | rfl | (simp [errW_none, errW_some] <;> rfl)) | (simp [*, errW_none, errW_some] <;> rfl)), z12_6⟩

/-! ### impl_BoxOf: function 37 -/
def impl_BoxOf.l0 : Nat → List (S46) → Int → Int → Int → Int → Int → Int → Option (Int × Int × Int × Int)
 | 0, _, _, _, _, _, _, _ => none
 | k + 1, x9, x10, x11, x448000, x448001, x448002, x448003 => if x11 < x10 then (if 0 ≤ x11 then (if x11 < (x9.length : Int) then ((impl_taken.f ((rd_T46 x9 x11).f0) 33554432).bind fun t450 => ((impl_taken.f ((rd_T46 x9 x11).f1) 33554432).bind fun t451 => (if x11 = 0 then ((impl_JoinBox.f k t450 t451 (wrap64 (t450 + 1)) (wrap64 (t451 + 1)) t450 t451 (wrap64 (t450 + 1)) (wrap64 (t451 + 1))).bind fun bt453 => (impl_BoxOf.l0 k x9 x10 (wrap64 (x11 + 1)) bt453.1 bt453.2.1 bt453.2.2.1 bt453.2.2.2)) else ((impl_JoinBox.f k x448000 x448001 x448002 x448003 t450 t451 (wrap64 (t450 + 1)) (wrap64 (t451 + 1))).bind fun bt457 => (impl_BoxOf.l0 k x9 x10 (wrap64 (x11 + 1)) bt457.1 bt457.2.1 bt457.2.2.1 bt457.2.2.2))))) else (none)) else (none)) else (some (x448000, x448001, x448002, x448003))
def impl_BoxOf.f (k : Nat) (l0 : List (S46)) : Option (Int × Int × Int × Int) := impl_BoxOf.l0 k l0 (l0.length : Int) 0 0 0 0 0
theorem impl_BoxOf.mono_l : ∀ k, (∀ y0 y1 y2 y3 y4 y5 y6, LeO (impl_BoxOf.l0 k y0 y1 y2 y3 y4 y5 y6) (impl_BoxOf.l0 (k + 1) y0 y1 y2 y3 y4 y5 y6))
 | 0 => fun _ _ _ _ _ _ _ r h => by simp [impl_BoxOf.l0] at h
 | k + 1 => by
  have ih0 := impl_BoxOf.mono_l k
  ·intro y0 y1 y2 y3 y4 y5 y6
   unfold impl_BoxOf.l0
   repeat' first
   | (with_reducible exact ih0 _ _ _ _ _ _ _)
   | (with_reducible exact impl_JoinBox.mono _ _ _ _ _ _ _ _ _)
   | (with_reducible exact LeO.refl _)
   | (with_reducible exact LeO.none _)
   | (with_reducible refine LeO.ite ?_ ?_)
   | (with_reducible refine LeO.bind ?_ (fun _ => ?_))
theorem impl_BoxOf.mono : ∀ a0 k, LeO (impl_BoxOf.f k a0) (impl_BoxOf.f (k + 1) a0) := by
 intro a0 k
 have ih0 := impl_BoxOf.mono_l k
 unfold impl_BoxOf.f
 repeat' first
   | (with_reducible exact ih0 _ _ _ _ _ _ _)
   | (with_reducible exact impl_JoinBox.mono _ _ _ _ _ _ _ _ _)
   | (with_reducible exact LeO.refl _)
   | (with_reducible exact LeO.none _)
   | (with_reducible refine LeO.ite ?_ ?_)
   | (with_reducible refine LeO.bind ?_ (fun _ => ?_))
set_option maxHeartbeats 8000000 in
set_option maxRecDepth 100000 in
theorem impl_BoxOf.calls (k : Nat) (A0 : Option Addr) (c0 : Nat) (l0 : List (S46)) (r1 : Int) (r2 : Int) (r3 : Int) (r4 : Int) (w : World) (hr0 : Kd.C k46 w A0 l0.length l0) (hc0 : l0.length ≤ c0) (h : impl_BoxOf.f k l0 = some (r1, r2, r3, r4)) :
  Calls Try.prog 37 #[.slice A0 l0.length c0] w fun e w' => e = .returned (.agg #[.int .i64 r1, .int .i64 r2, .int .i64 r3, .int .i64 r4]) ∧ Below w.heap.size w w' := by
 have hu42 := Try.underlying42
 have hu46 := Try.underlying46
 have HR0 := mk0 hr0
 have HC0 := mk0 hc0
 clear hr0 hc0
 have HB := mk0 (Below.refl w.heap.size w)
 have H : (impl_BoxOf.l0 k l0 (l0.length : Int) 0 0 0 0 0) = some (r1, r2, r3, r4) := h
 clear h
 have H' := mk0 H
 clear H
 go_enter Try.func37, Try.ntmps37
 go_wp2_with (first | ((with_reducible refine gate_dst (N := 2) rfl ?_); refine boxz (cs := #[.int .i64 0, .int .i64 0, .int .i64 0, .int .i64 0]) (t := 42) rfl ?_; intro gb446 hg w2 hbox hb; have n0_ := mk0 (below_step z12_3 hb); have n1_ := mk0 (hbox); have GW446 := mk0 (ge_go (a := w.heap.size) hg (below_size z12_3)); have GE446 := GW446; clear HB; have HB := n0_; have BK446 := n1_; clear n0_ n1_ ; clear hb hbox hg) | ((with_reducible refine gate_dst (N := 3) rfl ?_); refine boxz (cs := #[.int .i64 0, .int .i64 0, .int .i64 0, .int .i64 0]) (t := 42) rfl ?_; intro gb447 hg w3 hbox hb; have n0_ := mk0 (blk_belowB BK446 (pkb BK446) hb); have n1_ := mk0 (below_step z12_11 hb); have n2_ := mk0 (hbox); have GW447 := mk0 (ge_go (a := w.heap.size) hg (below_size z12_11)); have GE447 := GW447; have NB446_447 := mk0 (nb_lt hg (blk_ltB BK446 (pkb BK446))); have NB447_446 := mk0 (nb_gt hg (blk_ltB BK446 (pkb BK446))); clear BK446 HB; have BK446 := n0_; have HB := n1_; have BK447 := n2_; clear n0_ n1_ n2_ ; clear hb hbox hg))
 repeat (go_quiet (first | ((with_reducible refine gate_dst (N := 2) rfl ?_); refine boxz (cs := #[.int .i64 0, .int .i64 0, .int .i64 0, .int .i64 0]) (t := 42) rfl ?_; intro gb446 hg w2 hbox hb; have n0_ := mk0 (below_step z12_3 hb); have n1_ := mk0 (hbox); have GW446 := mk0 (ge_go (a := w.heap.size) hg (below_size z12_3)); have GE446 := GW446; clear HB; have HB := n0_; have BK446 := n1_; clear n0_ n1_ ; clear hb hbox hg) | ((with_reducible refine gate_dst (N := 3) rfl ?_); refine boxz (cs := #[.int .i64 0, .int .i64 0, .int .i64 0, .int .i64 0]) (t := 42) rfl ?_; intro gb447 hg w3 hbox hb; have n0_ := mk0 (blk_belowB BK446 (pkb BK446) hb); have n1_ := mk0 (below_step z12_11 hb); have n2_ := mk0 (hbox); have GW447 := mk0 (ge_go (a := w.heap.size) hg (below_size z12_11)); have GE447 := GW447; have NB446_447 := mk0 (nb_lt hg (blk_ltB BK446 (pkb BK446))); have NB447_446 := mk0 (nb_gt hg (blk_ltB BK446 (pkb BK446))); clear BK446 HB; have BK446 := n0_; have HB := n1_; have BK447 := n2_; clear n0_ n1_ n2_ ; clear hb hbox hg)); try go_wp2_with (first | ((with_reducible refine gate_dst (N := 2) rfl ?_); refine boxz (cs := #[.int .i64 0, .int .i64 0, .int .i64 0, .int .i64 0]) (t := 42) rfl ?_; intro gb446 hg w2 hbox hb; have n0_ := mk0 (below_step z12_3 hb); have n1_ := mk0 (hbox); have GW446 := mk0 (ge_go (a := w.heap.size) hg (below_size z12_3)); have GE446 := GW446; clear HB; have HB := n0_; have BK446 := n1_; clear n0_ n1_ ; clear hb hbox hg) | ((with_reducible refine gate_dst (N := 3) rfl ?_); refine boxz (cs := #[.int .i64 0, .int .i64 0, .int .i64 0, .int .i64 0]) (t := 42) rfl ?_; intro gb447 hg w3 hbox hb; have n0_ := mk0 (blk_belowB BK446 (pkb BK446) hb); have n1_ := mk0 (below_step z12_11 hb); have n2_ := mk0 (hbox); have GW447 := mk0 (ge_go (a := w.heap.size) hg (below_size z12_11)); have GE447 := GW447; have NB446_447 := mk0 (nb_lt hg (blk_ltB BK446 (pkb BK446))); have NB447_446 := mk0 (nb_gt hg (blk_ltB BK446 (pkb BK446))); clear BK446 HB; have BK446 := n0_; have HB := n1_; have BK447 := n2_; clear n0_ n1_ n2_ ; clear hb hbox hg)))
 go_loopg [11] k (fun kq v11 w' => ∃ (x11_1 : Int) (x448000_1 : Int) (x448001_1 : Int) (x448002_1 : Int) (x448003_1 : Int), v11 = .int .i64 x11_1 ∧ Aside0 (impl_BoxOf.l0 kq l0 (l0.length : Int) x11_1 x448000_1 x448001_1 x448002_1 x448003_1 = some (r1, r2, r3, r4)) ∧ Aside0 (kq ≤ k) ∧ Aside0 (w'.heap[gb446]? = some (.cells #[.int .i64 0, .int .i64 0, .int .i64 0, .int .i64 0] 42 (0, 0))) ∧ Aside0 (w'.heap[gb447]? = some (.cells #[.int .i64 x448000_1, .int .i64 x448001_1, .int .i64 x448002_1, .int .i64 x448003_1] 42 (0, 0))) ∧ Aside0 (Below w.heap.size w w'))
 case atStart => exact ⟨(0), (0), (0), (0), (0), rs0, H', ⟨Nat.le_refl _⟩, ⟨pkb BK446⟩, ⟨pkb BK447⟩, ⟨z12_5⟩⟩
 case round =>
  clear H'
  try clear p2
  try clear c3
  obtain ⟨x11_1, x448000_1, x448001_1, x448002_1, x448003_1, rfl, HA, HK1, BK446, BK447, HB⟩ := hrel
  cases gk with
  | zero => exact absurd HA.out (by simp [impl_BoxOf.l0])
  | succ k1 =>
   have H := HA.out; clear HA
   simp only [impl_BoxOf.l0] at H
   by_cases c4 : x11_1 < (l0.length : Int)
   rotate_left
   ·rw [if_neg c4] at H
    have c4b0 := decide_eq_false c4
    clear c4
    simp only [Option.some.injEq, Prod.mk.injEq] at H
    obtain ⟨rfl, rfl, rfl, rfl⟩ := H
    have hnb38 := NB447_446.out; have hnc38 := NB446_447.out
    obtain ⟨_, _, _, _, _, _, _, _⟩ := be_4 BK447.out
    obtain ⟨_, _, _, _, _, _, _, _⟩ := be_4 BK446.out
    go_wp2
    repeat (go_quiet (fail); try go_wp2)
    refine bodyPost_ret (results_cell_row rfl _ _ gb446 42 #[.int .i64 x448000_1, .int .i64 x448001_1, .int .i64 x448002_1, .int .i64 x448003_1] (0, 0) _ rfl (by apply blk_fin; (focus ((with_reducible repeat (first | apply blk_putQ | refine blk_drewN ?_ _ | refine blk_drew ?_ | refine blk_alloc ?_ _)); exact BK446.out)); first | (simp only [List.setIfInBounds_toArray, List.set_cons_zero, List.set_cons_succ]; done) | rfl) Try.underlying42 rfl (by kernel_rfl)) rfl ?_
    exact ⟨z12_18, z12_5⟩
   rw [if_pos c4] at H
   have c4b0 := decide_eq_true c4
   clear c4
   by_cases c5 : 0 ≤ x11_1
   rotate_left
   ·rw [if_neg c5] at H
    exact absurd H (by simp)
   rw [if_pos c5] at H
   have c5b0 := decide_eq_true c5
   clear c5
   by_cases c6 : x11_1 < (l0.length : Int)
   rotate_left
   ·rw [if_neg c6] at H
    exact absurd H (by simp)
   rw [if_pos c6] at H
   have c6b0 := decide_eq_true c6
   clear c6
   replace H := Option.bind_eq_some_iff.mp H
   obtain ⟨t450, A70, H⟩ := H
   try dsimp only at H
   have A7 := mk0 A70
   clear A70
   replace H := Option.bind_eq_some_iff.mp H
   obtain ⟨t451, A80, H⟩ := H
   try dsimp only at H
   have A8 := mk0 A80
   clear A80
   by_cases c9 : x11_1 = 0
   rotate_left
   ·rw [if_neg c9] at H
    have c9b0 : (x11_1 == 0) = false := beq_eq_false_iff_ne.mpr c9
    have c9b1 : (x11_1 != 0) = true := bne_iff_ne.mpr c9
    replace H := Option.bind_eq_some_iff.mp H
    obtain ⟨⟨t457, t458, t459, t460⟩, A240, H⟩ := H
    try dsimp only at H
    have A24 := mk0 A240
    clear A240
    have H' := mk0 H
    clear H
    have p448 : 0 ≤ (x11_1 : Int) := of_decide_eq_true (by first | (with_reducible assumption) | assumption)
    have q448 : x11_1 < (l0.length : Int) := of_decide_eq_true (by first | (with_reducible assumption) | assumption)
    obtain ⟨ad448, e448, hx448_0, hx448_1⟩ := at_T46 HR0.out x11_1 p448 q448
    cases e448
    replace hx448_0 := cell_go HB hx448_0
    replace hx448_1 := cell_go HB hx448_1
    replace p448 := eq_true p448
    replace q448 := eq_true q448
    go_wp2_with (first | ((with_reducible refine gate_dst (N := 5) rfl ?_); refine boxz (cs := #[.int .i64 0, .int .i64 0]) (t := 46) rfl ?_; intro gb449 hg w25 hbox hb; have n0_ := mk0 (blk_belowB BK446 (pkb BK446) hb); have n1_ := mk0 (blk_belowB BK447 (pkb BK447) hb); have n2_ := mk0 (below_step z12_5 hb); have n3_ := mk0 (hbox); have GW449 := mk0 (ge_go (a := w.heap.size) hg (below_size z12_5)); have GE449 := GW449; have NB446_449 := mk0 (nb_lt hg (blk_ltB BK446 (pkb BK446))); have NB449_446 := mk0 (nb_gt hg (blk_ltB BK446 (pkb BK446))); have NB447_449 := mk0 (nb_lt hg (blk_ltB BK447 (pkb BK447))); have NB449_447 := mk0 (nb_gt hg (blk_ltB BK447 (pkb BK447))); clear BK446 BK447 HB; have BK446 := n0_; have BK447 := n1_; have HB := n2_; have BK449 := n3_; clear n0_ n1_ n2_ n3_ ; clear hb hbox hg; have hnb26 := NB449_446.out; have hnc26 := NB446_449.out; have hnb27 := NB449_447.out; have hnc27 := NB447_449.out; obtain ⟨_, _, _, _⟩ := be_2 BK449.out) | (go_at_call 53; (with_reducible refine (impl_taken.calls ((rd_T46 l0 x11_1).f0) 33554432 t450 _ A7.out).mono ?_); rintro e w' ⟨rfl, ⟨nd, rfl⟩⟩; (try first | exact ⟨rfl, _, World.drewN_drewN _ _ _⟩ | exact ⟨rfl, _, Eq.trans (World.drewN_drewN _ _ _) (congrArg (World.drewN _) (Nat.add_assoc _ _ _))⟩)) | (go_at_call 53; (with_reducible refine (impl_taken.calls ((rd_T46 l0 x11_1).f1) 33554432 t451 _ A8.out).mono ?_); rintro e w' ⟨rfl, ⟨nd, rfl⟩⟩; (try first | exact ⟨rfl, _, World.drewN_drewN _ _ _⟩ | exact ⟨rfl, _, Eq.trans (World.drewN_drewN _ _ _) (congrArg (World.drewN _) (Nat.add_assoc _ _ _))⟩)) | ((with_reducible refine gate_dst (N := 8) rfl ?_); refine boxz (cs := #[.int .i64 0, .int .i64 0, .int .i64 0, .int .i64 0]) (t := 42) rfl ?_; intro gb452 hg w29 hbox hb; have n0_ := mk0 (blk_belowB BK446 z12_0 hb); have n1_ := mk0 (blk_belowB BK447 z12_1 hb); have n2_ := mk0 (blk_below (g := gb449) (o := .cells #[.int .i64 ((rd_T46 l0 x11_1).f0), .int .i64 ((rd_T46 l0 x11_1).f1)] 46 (0, 0)) z12_2 hb); have n3_ := mk0 (below_step z12_4 hb); have n4_ := mk0 (hbox); have GW452 := mk0 (ge_go (a := w.heap.size) hg (below_size z12_4)); have GE452 := GW452; have NB446_452 := mk0 (nb_lt hg (blk_ltB BK446 z12_0)); have NB452_446 := mk0 (nb_gt hg (blk_ltB BK446 z12_0)); have NB447_452 := mk0 (nb_lt hg (blk_ltB BK447 z12_1)); have NB452_447 := mk0 (nb_gt hg (blk_ltB BK447 z12_1)); have NB449_452 := mk0 ((by rw [hg]; exact Nat.ne_of_lt (blk_lt (g := gb449) (o := .cells #[.int .i64 ((rd_T46 l0 x11_1).f0), .int .i64 ((rd_T46 l0 x11_1).f1)] 46 (0, 0)) z12_2) : gb449 ≠ gb452)); have NB452_449 := mk0 ((by rw [hg]; exact Nat.ne_of_gt (blk_lt (g := gb449) (o := .cells #[.int .i64 ((rd_T46 l0 x11_1).f0), .int .i64 ((rd_T46 l0 x11_1).f1)] 46 (0, 0)) z12_2) : gb452 ≠ gb449)); clear BK446 BK447 BK449 HB; have BK446 := n0_; have BK447 := n1_; have BK449 := n2_; have HB := n3_; have BK452 := n4_; clear n0_ n1_ n2_ n3_ n4_ ; clear hb hbox hg; have hnb30 := NB452_446.out; have hnc30 := NB446_452.out; have hnb31 := NB452_447.out; have hnc31 := NB447_452.out; have hnb32 := NB452_449.out; have hnc32 := NB449_452.out; obtain ⟨_, _, _, _, _, _, _, _⟩ := be_4 BK452.out; have hnb34 := NB447_446.out; have hnc34 := NB446_447.out; obtain ⟨_, _, _, _, _, _, _, _⟩ := be_4 BK447.out) | (go_at_call 54; (with_reducible refine (impl_JoinBox.calls k1 x448000_1 x448001_1 x448002_1 x448003_1 t450 t451 (wrap64 (t450 + 1)) (wrap64 (t451 + 1)) t457 t458 t459 t460 _ A24.out).mono ?_); rintro e w36 ⟨rfl, hb⟩; have n0_ := mk0 (blk_belowB BK446 z12_12 hb); have n1_ := mk0 (blk_belowB BK447 z12_13 hb); have n2_ := mk0 (blk_belowB BK449 z12_14 hb); have n3_ := mk0 (blk_below (g := gb452) (o := .cells #[.int .i64 t450, .int .i64 t451, .int .i64 (wrap64 (t450 + 1)), .int .i64 (wrap64 (t451 + 1))] 42 (0, 0)) z12_23 hb); have n4_ := mk0 (below_step z12_9 hb); clear BK446 BK447 BK449 BK452 HB; have BK446 := n0_; have BK447 := n1_; have BK449 := n2_; have BK452 := n3_; have HB := n4_; clear n0_ n1_ n2_ n3_ n4_; (try clear hb); obtain ⟨_, _, _, _, _, _, _, _⟩ := be_4 BK447.out))
    repeat (go_quiet (first | ((with_reducible refine gate_dst (N := 5) rfl ?_); refine boxz (cs := #[.int .i64 0, .int .i64 0]) (t := 46) rfl ?_; intro gb449 hg w25 hbox hb; have n0_ := mk0 (blk_belowB BK446 (pkb BK446) hb); have n1_ := mk0 (blk_belowB BK447 (pkb BK447) hb); have n2_ := mk0 (below_step z12_5 hb); have n3_ := mk0 (hbox); have GW449 := mk0 (ge_go (a := w.heap.size) hg (below_size z12_5)); have GE449 := GW449; have NB446_449 := mk0 (nb_lt hg (blk_ltB BK446 (pkb BK446))); have NB449_446 := mk0 (nb_gt hg (blk_ltB BK446 (pkb BK446))); have NB447_449 := mk0 (nb_lt hg (blk_ltB BK447 (pkb BK447))); have NB449_447 := mk0 (nb_gt hg (blk_ltB BK447 (pkb BK447))); clear BK446 BK447 HB; have BK446 := n0_; have BK447 := n1_; have HB := n2_; have BK449 := n3_; clear n0_ n1_ n2_ n3_ ; clear hb hbox hg; have hnb26 := NB449_446.out; have hnc26 := NB446_449.out; have hnb27 := NB449_447.out; have hnc27 := NB447_449.out; have hcz28_0 : w25.cell? ⟨gb449, 0, none⟩ = some (.int .i64 0) := (blk_cell BK449.out 0).trans rfl; have hcz28_1 : w25.cell? ⟨gb449, 1, none⟩ = some (.int .i64 0) := (blk_cell BK449.out 1).trans rfl; have hfz28_0 := blk_frozen BK449.out 0; have hfz28_1 := blk_frozen BK449.out 1) | (go_at_call 53; (with_reducible refine (impl_taken.calls ((rd_T46 l0 x11_1).f0) 33554432 t450 _ A7.out).mono ?_); rintro e w' ⟨rfl, ⟨nd, rfl⟩⟩; (try first | exact ⟨rfl, _, World.drewN_drewN _ _ _⟩ | exact ⟨rfl, _, Eq.trans (World.drewN_drewN _ _ _) (congrArg (World.drewN _) (Nat.add_assoc _ _ _))⟩)) | (go_at_call 53; (with_reducible refine (impl_taken.calls ((rd_T46 l0 x11_1).f1) 33554432 t451 _ A8.out).mono ?_); rintro e w' ⟨rfl, ⟨nd, rfl⟩⟩; (try first | exact ⟨rfl, _, World.drewN_drewN _ _ _⟩ | exact ⟨rfl, _, Eq.trans (World.drewN_drewN _ _ _) (congrArg (World.drewN _) (Nat.add_assoc _ _ _))⟩)) | ((with_reducible refine gate_dst (N := 8) rfl ?_); refine boxz (cs := #[.int .i64 0, .int .i64 0, .int .i64 0, .int .i64 0]) (t := 42) rfl ?_; intro gb452 hg w29 hbox hb; have n0_ := mk0 (blk_belowB BK446 z12_0 hb); have n1_ := mk0 (blk_belowB BK447 z12_1 hb); have n2_ := mk0 (blk_below (g := gb449) (o := .cells #[.int .i64 ((rd_T46 l0 x11_1).f0), .int .i64 ((rd_T46 l0 x11_1).f1)] 46 (0, 0)) z12_2 hb); have n3_ := mk0 (below_step z12_4 hb); have n4_ := mk0 (hbox); have GW452 := mk0 (ge_go (a := w.heap.size) hg (below_size z12_4)); have GE452 := GW452; have NB446_452 := mk0 (nb_lt hg (blk_ltB BK446 z12_0)); have NB452_446 := mk0 (nb_gt hg (blk_ltB BK446 z12_0)); have NB447_452 := mk0 (nb_lt hg (blk_ltB BK447 z12_1)); have NB452_447 := mk0 (nb_gt hg (blk_ltB BK447 z12_1)); have NB449_452 := mk0 ((by rw [hg]; exact Nat.ne_of_lt (blk_lt (g := gb449) (o := .cells #[.int .i64 ((rd_T46 l0 x11_1).f0), .int .i64 ((rd_T46 l0 x11_1).f1)] 46 (0, 0)) z12_2) : gb449 ≠ gb452)); have NB452_449 := mk0 ((by rw [hg]; exact Nat.ne_of_gt (blk_lt (g := gb449) (o := .cells #[.int .i64 ((rd_T46 l0 x11_1).f0), .int .i64 ((rd_T46 l0 x11_1).f1)] 46 (0, 0)) z12_2) : gb452 ≠ gb449)); clear BK446 BK447 BK449 HB; have BK446 := n0_; have BK447 := n1_; have BK449 := n2_; have HB := n3_; have BK452 := n4_; clear n0_ n1_ n2_ n3_ n4_ ; clear hb hbox hg; have hnb30 := NB452_446.out; have hnc30 := NB446_452.out; have hnb31 := NB452_447.out; have hnc31 := NB447_452.out; have hnb32 := NB452_449.out; have hnc32 := NB449_452.out; have hcz33_0 : w29.cell? ⟨gb452, 0, none⟩ = some (.int .i64 0) := (blk_cell BK452.out 0).trans rfl; have hcz33_1 : w29.cell? ⟨gb452, 1, none⟩ = some (.int .i64 0) := (blk_cell BK452.out 1).trans rfl; have hcz33_2 : w29.cell? ⟨gb452, 2, none⟩ = some (.int .i64 0) := (blk_cell BK452.out 2).trans rfl; have hcz33_3 : w29.cell? ⟨gb452, 3, none⟩ = some (.int .i64 0) := (blk_cell BK452.out 3).trans rfl; have hfz33_0 := blk_frozen BK452.out 0; have hfz33_1 := blk_frozen BK452.out 1; have hfz33_2 := blk_frozen BK452.out 2; have hfz33_3 := blk_frozen BK452.out 3; have hnb34 := NB447_446.out; have hnc34 := NB446_447.out; have hcz35_0 : w29.cell? ⟨gb447, 0, none⟩ = some (.int .i64 x448000_1) := (blk_cell BK447.out 0).trans rfl; have hcz35_1 : w29.cell? ⟨gb447, 1, none⟩ = some (.int .i64 x448001_1) := (blk_cell BK447.out 1).trans rfl; have hcz35_2 : w29.cell? ⟨gb447, 2, none⟩ = some (.int .i64 x448002_1) := (blk_cell BK447.out 2).trans rfl; have hcz35_3 : w29.cell? ⟨gb447, 3, none⟩ = some (.int .i64 x448003_1) := (blk_cell BK447.out 3).trans rfl; have hfz35_0 := blk_frozen BK447.out 0; have hfz35_1 := blk_frozen BK447.out 1; have hfz35_2 := blk_frozen BK447.out 2; have hfz35_3 := blk_frozen BK447.out 3) | (go_at_call 54; (with_reducible refine (impl_JoinBox.calls k1 x448000_1 x448001_1 x448002_1 x448003_1 t450 t451 (wrap64 (t450 + 1)) (wrap64 (t451 + 1)) t457 t458 t459 t460 _ A24.out).mono ?_); rintro e w36 ⟨rfl, hb⟩; have n0_ := mk0 (blk_belowB BK446 z12_12 hb); have n1_ := mk0 (blk_belowB BK447 z12_13 hb); have n2_ := mk0 (blk_belowB BK449 z12_14 hb); have n3_ := mk0 (blk_below (g := gb452) (o := .cells #[.int .i64 t450, .int .i64 t451, .int .i64 (wrap64 (t450 + 1)), .int .i64 (wrap64 (t451 + 1))] 42 (0, 0)) z12_23 hb); have n4_ := mk0 (below_step z12_9 hb); clear BK446 BK447 BK449 BK452 HB; have BK446 := n0_; have BK447 := n1_; have BK449 := n2_; have BK452 := n3_; have HB := n4_; clear n0_ n1_ n2_ n3_ n4_; (try clear hb); have hcz37_0 : w36.cell? ⟨gb447, 0, none⟩ = some (.int .i64 x448000_1) := (blk_cell BK447.out 0).trans rfl; have hcz37_1 : w36.cell? ⟨gb447, 1, none⟩ = some (.int .i64 x448001_1) := (blk_cell BK447.out 1).trans rfl; have hcz37_2 : w36.cell? ⟨gb447, 2, none⟩ = some (.int .i64 x448002_1) := (blk_cell BK447.out 2).trans rfl; have hcz37_3 : w36.cell? ⟨gb447, 3, none⟩ = some (.int .i64 x448003_1) := (blk_cell BK447.out 3).trans rfl; have hfz37_0 := blk_frozen BK447.out 0; have hfz37_1 := blk_frozen BK447.out 1; have hfz37_2 := blk_frozen BK447.out 2; have hfz37_3 := blk_frozen BK447.out 3)); try go_wp2_with (first | ((with_reducible refine gate_dst (N := 5) rfl ?_); refine boxz (cs := #[.int .i64 0, .int .i64 0]) (t := 46) rfl ?_; intro gb449 hg w25 hbox hb; have n0_ := mk0 (blk_belowB BK446 (pkb BK446) hb); have n1_ := mk0 (blk_belowB BK447 (pkb BK447) hb); have n2_ := mk0 (below_step z12_5 hb); have n3_ := mk0 (hbox); have GW449 := mk0 (ge_go (a := w.heap.size) hg (below_size z12_5)); have GE449 := GW449; have NB446_449 := mk0 (nb_lt hg (blk_ltB BK446 (pkb BK446))); have NB449_446 := mk0 (nb_gt hg (blk_ltB BK446 (pkb BK446))); have NB447_449 := mk0 (nb_lt hg (blk_ltB BK447 (pkb BK447))); have NB449_447 := mk0 (nb_gt hg (blk_ltB BK447 (pkb BK447))); clear BK446 BK447 HB; have BK446 := n0_; have BK447 := n1_; have HB := n2_; have BK449 := n3_; clear n0_ n1_ n2_ n3_ ; clear hb hbox hg; have hnb26 := NB449_446.out; have hnc26 := NB446_449.out; have hnb27 := NB449_447.out; have hnc27 := NB447_449.out; obtain ⟨_, _, _, _⟩ := be_2 BK449.out) | (go_at_call 53; (with_reducible refine (impl_taken.calls ((rd_T46 l0 x11_1).f0) 33554432 t450 _ A7.out).mono ?_); rintro e w' ⟨rfl, ⟨nd, rfl⟩⟩; (try first | exact ⟨rfl, _, World.drewN_drewN _ _ _⟩ | exact ⟨rfl, _, Eq.trans (World.drewN_drewN _ _ _) (congrArg (World.drewN _) (Nat.add_assoc _ _ _))⟩)) | (go_at_call 53; (with_reducible refine (impl_taken.calls ((rd_T46 l0 x11_1).f1) 33554432 t451 _ A8.out).mono ?_); rintro e w' ⟨rfl, ⟨nd, rfl⟩⟩; (try first | exact ⟨rfl, _, World.drewN_drewN _ _ _⟩ | exact ⟨rfl, _, Eq.trans (World.drewN_drewN _ _ _) (congrArg (World.drewN _) (Nat.add_assoc _ _ _))⟩)) | ((with_reducible refine gate_dst (N := 8) rfl ?_); refine boxz (cs := #[.int .i64 0, .int .i64 0, .int .i64 0, .int .i64 0]) (t := 42) rfl ?_; intro gb452 hg w29 hbox hb; have n0_ := mk0 (blk_belowB BK446 z12_0 hb); have n1_ := mk0 (blk_belowB BK447 z12_1 hb); have n2_ := mk0 (blk_below (g := gb449) (o := .cells #[.int .i64 ((rd_T46 l0 x11_1).f0), .int .i64 ((rd_T46 l0 x11_1).f1)] 46 (0, 0)) z12_2 hb); have n3_ := mk0 (below_step z12_4 hb); have n4_ := mk0 (hbox); have GW452 := mk0 (ge_go (a := w.heap.size) hg (below_size z12_4)); have GE452 := GW452; have NB446_452 := mk0 (nb_lt hg (blk_ltB BK446 z12_0)); have NB452_446 := mk0 (nb_gt hg (blk_ltB BK446 z12_0)); have NB447_452 := mk0 (nb_lt hg (blk_ltB BK447 z12_1)); have NB452_447 := mk0 (nb_gt hg (blk_ltB BK447 z12_1)); have NB449_452 := mk0 ((by rw [hg]; exact Nat.ne_of_lt (blk_lt (g := gb449) (o := .cells #[.int .i64 ((rd_T46 l0 x11_1).f0), .int .i64 ((rd_T46 l0 x11_1).f1)] 46 (0, 0)) z12_2) : gb449 ≠ gb452)); have NB452_449 := mk0 ((by rw [hg]; exact Nat.ne_of_gt (blk_lt (g := gb449) (o := .cells #[.int .i64 ((rd_T46 l0 x11_1).f0), .int .i64 ((rd_T46 l0 x11_1).f1)] 46 (0, 0)) z12_2) : gb452 ≠ gb449)); clear BK446 BK447 BK449 HB; have BK446 := n0_; have BK447 := n1_; have BK449 := n2_; have HB := n3_; have BK452 := n4_; clear n0_ n1_ n2_ n3_ n4_ ; clear hb hbox hg; have hnb30 := NB452_446.out; have hnc30 := NB446_452.out; have hnb31 := NB452_447.out; have hnc31 := NB447_452.out; have hnb32 := NB452_449.out; have hnc32 := NB449_452.out; obtain ⟨_, _, _, _, _, _, _, _⟩ := be_4 BK452.out; have hnb34 := NB447_446.out; have hnc34 := NB446_447.out; obtain ⟨_, _, _, _, _, _, _, _⟩ := be_4 BK447.out) | (go_at_call 54; (with_reducible refine (impl_JoinBox.calls k1 x448000_1 x448001_1 x448002_1 x448003_1 t450 t451 (wrap64 (t450 + 1)) (wrap64 (t451 + 1)) t457 t458 t459 t460 _ A24.out).mono ?_); rintro e w36 ⟨rfl, hb⟩; have n0_ := mk0 (blk_belowB BK446 z12_12 hb); have n1_ := mk0 (blk_belowB BK447 z12_13 hb); have n2_ := mk0 (blk_belowB BK449 z12_14 hb); have n3_ := mk0 (blk_below (g := gb452) (o := .cells #[.int .i64 t450, .int .i64 t451, .int .i64 (wrap64 (t450 + 1)), .int .i64 (wrap64 (t451 + 1))] 42 (0, 0)) z12_23 hb); have n4_ := mk0 (below_step z12_9 hb); clear BK446 BK447 BK449 BK452 HB; have BK446 := n0_; have BK447 := n1_; have BK449 := n2_; have BK452 := n3_; have HB := n4_; clear n0_ n1_ n2_ n3_ n4_; (try clear hb); obtain ⟨_, _, _, _⟩ := bb_4 BK447.out; obtain ⟨_, _, _⟩ := bf_3 BK447.out; have hfz37_3 := blk_frozen BK447.out 3)))
    go_roundg k1
    case measure => have := HK1.out; omega
    case rel => exact ⟨(wrap64 (x11_1 + 1)), (t457), (t458), (t459), (t460), rs0, H', ⟨(by have := HK1.out; omega)⟩, ⟨z12_20⟩, ⟨(by (with_reducible repeat (first | refine blk_drewN ?_ _ | refine blk_drew ?_ | refine blk_alloc ?_ _)); refine blk_put (cs := #[.int .i64 t457, .int .i64 t458, .int .i64 t459, .int .i64 x448003_1]) ?_ 3 _ rfl; (with_reducible repeat (first | refine blk_drewN ?_ _ | refine blk_drew ?_ | refine blk_alloc ?_ _)); refine blk_put (cs := #[.int .i64 t457, .int .i64 t458, .int .i64 x448002_1, .int .i64 x448003_1]) ?_ 2 _ rfl; (with_reducible repeat (first | refine blk_drewN ?_ _ | refine blk_drew ?_ | refine blk_alloc ?_ _)); refine blk_put (cs := #[.int .i64 t457, .int .i64 x448001_1, .int .i64 x448002_1, .int .i64 x448003_1]) ?_ 1 _ rfl; (with_reducible repeat (first | refine blk_drewN ?_ _ | refine blk_drew ?_ | refine blk_alloc ?_ _)); refine blk_put (cs := #[.int .i64 x448000_1, .int .i64 x448001_1, .int .i64 x448002_1, .int .i64 x448003_1]) ?_ 0 _ rfl; (with_reducible repeat (first | refine blk_drewN ?_ _ | refine blk_drew ?_ | refine blk_alloc ?_ _)); exact BK447.out)⟩, ⟨z12_9⟩⟩
   rw [if_pos c9] at H
   have c9b0 : (x11_1 == 0) = true := beq_iff_eq.mpr c9
   have c9b1 : (x11_1 != 0) = false := bne_eq_false_iff_eq.mpr c9
   clear c9
   replace H := Option.bind_eq_some_iff.mp H
   obtain ⟨⟨t453, t454, t455, t456⟩, A100, H⟩ := H
   try dsimp only at H
   have A10 := mk0 A100
   clear A100
   have H' := mk0 H
   clear H
   have p448 : 0 ≤ (x11_1 : Int) := of_decide_eq_true (by first | (with_reducible assumption) | assumption)
   have q448 : x11_1 < (l0.length : Int) := of_decide_eq_true (by first | (with_reducible assumption) | assumption)
   obtain ⟨ad448, e448, hx448_0, hx448_1⟩ := at_T46 HR0.out x11_1 p448 q448
   cases e448
   replace hx448_0 := cell_go HB hx448_0
   replace hx448_1 := cell_go HB hx448_1
   replace p448 := eq_true p448
   replace q448 := eq_true q448
   go_wp2_with (first | ((with_reducible refine gate_dst (N := 5) rfl ?_); refine boxz (cs := #[.int .i64 0, .int .i64 0]) (t := 46) rfl ?_; intro gb449 hg w11 hbox hb; have n0_ := mk0 (blk_belowB BK446 (pkb BK446) hb); have n1_ := mk0 (blk_belowB BK447 (pkb BK447) hb); have n2_ := mk0 (below_step z12_5 hb); have n3_ := mk0 (hbox); have GW449 := mk0 (ge_go (a := w.heap.size) hg (below_size z12_5)); have GE449 := GW449; have NB446_449 := mk0 (nb_lt hg (blk_ltB BK446 (pkb BK446))); have NB449_446 := mk0 (nb_gt hg (blk_ltB BK446 (pkb BK446))); have NB447_449 := mk0 (nb_lt hg (blk_ltB BK447 (pkb BK447))); have NB449_447 := mk0 (nb_gt hg (blk_ltB BK447 (pkb BK447))); clear BK446 BK447 HB; have BK446 := n0_; have BK447 := n1_; have HB := n2_; have BK449 := n3_; clear n0_ n1_ n2_ n3_ ; clear hb hbox hg; have hnb12 := NB449_446.out; have hnc12 := NB446_449.out; have hnb13 := NB449_447.out; have hnc13 := NB447_449.out; obtain ⟨_, _, _, _⟩ := be_2 BK449.out) | (go_at_call 53; (with_reducible refine (impl_taken.calls ((rd_T46 l0 x11_1).f0) 33554432 t450 _ A7.out).mono ?_); rintro e w' ⟨rfl, ⟨nd, rfl⟩⟩; (try first | exact ⟨rfl, _, World.drewN_drewN _ _ _⟩ | exact ⟨rfl, _, Eq.trans (World.drewN_drewN _ _ _) (congrArg (World.drewN _) (Nat.add_assoc _ _ _))⟩)) | (go_at_call 53; (with_reducible refine (impl_taken.calls ((rd_T46 l0 x11_1).f1) 33554432 t451 _ A8.out).mono ?_); rintro e w' ⟨rfl, ⟨nd, rfl⟩⟩; (try first | exact ⟨rfl, _, World.drewN_drewN _ _ _⟩ | exact ⟨rfl, _, Eq.trans (World.drewN_drewN _ _ _) (congrArg (World.drewN _) (Nat.add_assoc _ _ _))⟩)) | ((with_reducible refine gate_dst (N := 8) rfl ?_); refine boxz (cs := #[.int .i64 0, .int .i64 0, .int .i64 0, .int .i64 0]) (t := 42) rfl ?_; intro gb452 hg w15 hbox hb; have n0_ := mk0 (blk_belowB BK446 z12_0 hb); have n1_ := mk0 (blk_belowB BK447 z12_1 hb); have n2_ := mk0 (blk_below (g := gb449) (o := .cells #[.int .i64 ((rd_T46 l0 x11_1).f0), .int .i64 ((rd_T46 l0 x11_1).f1)] 46 (0, 0)) z12_2 hb); have n3_ := mk0 (below_step z12_4 hb); have n4_ := mk0 (hbox); have GW452 := mk0 (ge_go (a := w.heap.size) hg (below_size z12_4)); have GE452 := GW452; have NB446_452 := mk0 (nb_lt hg (blk_ltB BK446 z12_0)); have NB452_446 := mk0 (nb_gt hg (blk_ltB BK446 z12_0)); have NB447_452 := mk0 (nb_lt hg (blk_ltB BK447 z12_1)); have NB452_447 := mk0 (nb_gt hg (blk_ltB BK447 z12_1)); have NB449_452 := mk0 ((by rw [hg]; exact Nat.ne_of_lt (blk_lt (g := gb449) (o := .cells #[.int .i64 ((rd_T46 l0 x11_1).f0), .int .i64 ((rd_T46 l0 x11_1).f1)] 46 (0, 0)) z12_2) : gb449 ≠ gb452)); have NB452_449 := mk0 ((by rw [hg]; exact Nat.ne_of_gt (blk_lt (g := gb449) (o := .cells #[.int .i64 ((rd_T46 l0 x11_1).f0), .int .i64 ((rd_T46 l0 x11_1).f1)] 46 (0, 0)) z12_2) : gb452 ≠ gb449)); clear BK446 BK447 BK449 HB; have BK446 := n0_; have BK447 := n1_; have BK449 := n2_; have HB := n3_; have BK452 := n4_; clear n0_ n1_ n2_ n3_ n4_ ; clear hb hbox hg; have hnb16 := NB452_446.out; have hnc16 := NB446_452.out; have hnb17 := NB452_447.out; have hnc17 := NB447_452.out; have hnb18 := NB452_449.out; have hnc18 := NB449_452.out; obtain ⟨_, _, _, _, _, _, _, _⟩ := be_4 BK452.out; have hnb20 := NB447_446.out; have hnc20 := NB446_447.out; obtain ⟨_, _, _, _, _, _, _, _⟩ := be_4 BK447.out) | (go_at_call 54; (with_reducible refine (impl_JoinBox.calls k1 t450 t451 (wrap64 (t450 + 1)) (wrap64 (t451 + 1)) t450 t451 (wrap64 (t450 + 1)) (wrap64 (t451 + 1)) t453 t454 t455 t456 _ A10.out).mono ?_); rintro e w22 ⟨rfl, hb⟩; have n0_ := mk0 (blk_belowB BK446 z12_7 hb); have n1_ := mk0 (blk_below (g := gb447) (o := .cells #[.int .i64 t450, .int .i64 t451, .int .i64 (wrap64 (t450 + 1)), .int .i64 (wrap64 (t451 + 1))] 42 (0, 0)) z12_21 hb); have n2_ := mk0 (blk_belowB BK449 z12_8 hb); have n3_ := mk0 (blk_below (g := gb452) (o := .cells #[.int .i64 t450, .int .i64 t451, .int .i64 (wrap64 (t450 + 1)), .int .i64 (wrap64 (t451 + 1))] 42 (0, 0)) z12_22 hb); have n4_ := mk0 (below_step z12_9 hb); clear BK446 BK447 BK449 BK452 HB; have BK446 := n0_; have BK447 := n1_; have BK449 := n2_; have BK452 := n3_; have HB := n4_; clear n0_ n1_ n2_ n3_ n4_; (try clear hb); obtain ⟨_, _, _, _, _, _, _, _⟩ := be_4 BK447.out))
   repeat (go_quiet (first | ((with_reducible refine gate_dst (N := 5) rfl ?_); refine boxz (cs := #[.int .i64 0, .int .i64 0]) (t := 46) rfl ?_; intro gb449 hg w11 hbox hb; have n0_ := mk0 (blk_belowB BK446 (pkb BK446) hb); have n1_ := mk0 (blk_belowB BK447 (pkb BK447) hb); have n2_ := mk0 (below_step z12_5 hb); have n3_ := mk0 (hbox); have GW449 := mk0 (ge_go (a := w.heap.size) hg (below_size z12_5)); have GE449 := GW449; have NB446_449 := mk0 (nb_lt hg (blk_ltB BK446 (pkb BK446))); have NB449_446 := mk0 (nb_gt hg (blk_ltB BK446 (pkb BK446))); have NB447_449 := mk0 (nb_lt hg (blk_ltB BK447 (pkb BK447))); have NB449_447 := mk0 (nb_gt hg (blk_ltB BK447 (pkb BK447))); clear BK446 BK447 HB; have BK446 := n0_; have BK447 := n1_; have HB := n2_; have BK449 := n3_; clear n0_ n1_ n2_ n3_ ; clear hb hbox hg; have hnb12 := NB449_446.out; have hnc12 := NB446_449.out; have hnb13 := NB449_447.out; have hnc13 := NB447_449.out; have hcz14_0 : w11.cell? ⟨gb449, 0, none⟩ = some (.int .i64 0) := (blk_cell BK449.out 0).trans rfl; have hcz14_1 : w11.cell? ⟨gb449, 1, none⟩ = some (.int .i64 0) := (blk_cell BK449.out 1).trans rfl; have hfz14_0 := blk_frozen BK449.out 0; have hfz14_1 := blk_frozen BK449.out 1) | (go_at_call 53; (with_reducible refine (impl_taken.calls ((rd_T46 l0 x11_1).f0) 33554432 t450 _ A7.out).mono ?_); rintro e w' ⟨rfl, ⟨nd, rfl⟩⟩; (try first | exact ⟨rfl, _, World.drewN_drewN _ _ _⟩ | exact ⟨rfl, _, Eq.trans (World.drewN_drewN _ _ _) (congrArg (World.drewN _) (Nat.add_assoc _ _ _))⟩)) | (go_at_call 53; (with_reducible refine (impl_taken.calls ((rd_T46 l0 x11_1).f1) 33554432 t451 _ A8.out).mono ?_); rintro e w' ⟨rfl, ⟨nd, rfl⟩⟩; (try first | exact ⟨rfl, _, World.drewN_drewN _ _ _⟩ | exact ⟨rfl, _, Eq.trans (World.drewN_drewN _ _ _) (congrArg (World.drewN _) (Nat.add_assoc _ _ _))⟩)) | ((with_reducible refine gate_dst (N := 8) rfl ?_); refine boxz (cs := #[.int .i64 0, .int .i64 0, .int .i64 0, .int .i64 0]) (t := 42) rfl ?_; intro gb452 hg w15 hbox hb; have n0_ := mk0 (blk_belowB BK446 z12_0 hb); have n1_ := mk0 (blk_belowB BK447 z12_1 hb); have n2_ := mk0 (blk_below (g := gb449) (o := .cells #[.int .i64 ((rd_T46 l0 x11_1).f0), .int .i64 ((rd_T46 l0 x11_1).f1)] 46 (0, 0)) z12_2 hb); have n3_ := mk0 (below_step z12_4 hb); have n4_ := mk0 (hbox); have GW452 := mk0 (ge_go (a := w.heap.size) hg (below_size z12_4)); have GE452 := GW452; have NB446_452 := mk0 (nb_lt hg (blk_ltB BK446 z12_0)); have NB452_446 := mk0 (nb_gt hg (blk_ltB BK446 z12_0)); have NB447_452 := mk0 (nb_lt hg (blk_ltB BK447 z12_1)); have NB452_447 := mk0 (nb_gt hg (blk_ltB BK447 z12_1)); have NB449_452 := mk0 ((by rw [hg]; exact Nat.ne_of_lt (blk_lt (g := gb449) (o := .cells #[.int .i64 ((rd_T46 l0 x11_1).f0), .int .i64 ((rd_T46 l0 x11_1).f1)] 46 (0, 0)) z12_2) : gb449 ≠ gb452)); have NB452_449 := mk0 ((by rw [hg]; exact Nat.ne_of_gt (blk_lt (g := gb449) (o := .cells #[.int .i64 ((rd_T46 l0 x11_1).f0), .int .i64 ((rd_T46 l0 x11_1).f1)] 46 (0, 0)) z12_2) : gb452 ≠ gb449)); clear BK446 BK447 BK449 HB; have BK446 := n0_; have BK447 := n1_; have BK449 := n2_; have HB := n3_; have BK452 := n4_; clear n0_ n1_ n2_ n3_ n4_ ; clear hb hbox hg; have hnb16 := NB452_446.out; have hnc16 := NB446_452.out; have hnb17 := NB452_447.out; have hnc17 := NB447_452.out; have hnb18 := NB452_449.out; have hnc18 := NB449_452.out; have hcz19_0 : w15.cell? ⟨gb452, 0, none⟩ = some (.int .i64 0) := (blk_cell BK452.out 0).trans rfl; have hcz19_1 : w15.cell? ⟨gb452, 1, none⟩ = some (.int .i64 0) := (blk_cell BK452.out 1).trans rfl; have hcz19_2 : w15.cell? ⟨gb452, 2, none⟩ = some (.int .i64 0) := (blk_cell BK452.out 2).trans rfl; have hcz19_3 : w15.cell? ⟨gb452, 3, none⟩ = some (.int .i64 0) := (blk_cell BK452.out 3).trans rfl; have hfz19_0 := blk_frozen BK452.out 0; have hfz19_1 := blk_frozen BK452.out 1; have hfz19_2 := blk_frozen BK452.out 2; have hfz19_3 := blk_frozen BK452.out 3; have hnb20 := NB447_446.out; have hnc20 := NB446_447.out; have hcz21_0 : w15.cell? ⟨gb447, 0, none⟩ = some (.int .i64 x448000_1) := (blk_cell BK447.out 0).trans rfl; have hcz21_1 : w15.cell? ⟨gb447, 1, none⟩ = some (.int .i64 x448001_1) := (blk_cell BK447.out 1).trans rfl; have hcz21_2 : w15.cell? ⟨gb447, 2, none⟩ = some (.int .i64 x448002_1) := (blk_cell BK447.out 2).trans rfl; have hcz21_3 : w15.cell? ⟨gb447, 3, none⟩ = some (.int .i64 x448003_1) := (blk_cell BK447.out 3).trans rfl; have hfz21_0 := blk_frozen BK447.out 0; have hfz21_1 := blk_frozen BK447.out 1; have hfz21_2 := blk_frozen BK447.out 2; have hfz21_3 := blk_frozen BK447.out 3) | (go_at_call 54; (with_reducible refine (impl_JoinBox.calls k1 t450 t451 (wrap64 (t450 + 1)) (wrap64 (t451 + 1)) t450 t451 (wrap64 (t450 + 1)) (wrap64 (t451 + 1)) t453 t454 t455 t456 _ A10.out).mono ?_); rintro e w22 ⟨rfl, hb⟩; have n0_ := mk0 (blk_belowB BK446 z12_7 hb); have n1_ := mk0 (blk_below (g := gb447) (o := .cells #[.int .i64 t450, .int .i64 t451, .int .i64 (wrap64 (t450 + 1)), .int .i64 (wrap64 (t451 + 1))] 42 (0, 0)) z12_21 hb); have n2_ := mk0 (blk_belowB BK449 z12_8 hb); have n3_ := mk0 (blk_below (g := gb452) (o := .cells #[.int .i64 t450, .int .i64 t451, .int .i64 (wrap64 (t450 + 1)), .int .i64 (wrap64 (t451 + 1))] 42 (0, 0)) z12_22 hb); have n4_ := mk0 (below_step z12_9 hb); clear BK446 BK447 BK449 BK452 HB; have BK446 := n0_; have BK447 := n1_; have BK449 := n2_; have BK452 := n3_; have HB := n4_; clear n0_ n1_ n2_ n3_ n4_; (try clear hb); have hcz23_0 : w22.cell? ⟨gb447, 0, none⟩ = some (.int .i64 t450) := (blk_cell BK447.out 0).trans rfl; have hcz23_1 : w22.cell? ⟨gb447, 1, none⟩ = some (.int .i64 t451) := (blk_cell BK447.out 1).trans rfl; have hcz23_2 : w22.cell? ⟨gb447, 2, none⟩ = some (.int .i64 (wrap64 (t450 + 1))) := (blk_cell BK447.out 2).trans rfl; have hcz23_3 : w22.cell? ⟨gb447, 3, none⟩ = some (.int .i64 (wrap64 (t451 + 1))) := (blk_cell BK447.out 3).trans rfl; have hfz23_0 := blk_frozen BK447.out 0; have hfz23_1 := blk_frozen BK447.out 1; have hfz23_2 := blk_frozen BK447.out 2; have hfz23_3 := blk_frozen BK447.out 3)); try go_wp2_with (first | ((with_reducible refine gate_dst (N := 5) rfl ?_); refine boxz (cs := #[.int .i64 0, .int .i64 0]) (t := 46) rfl ?_; intro gb449 hg w11 hbox hb; have n0_ := mk0 (blk_belowB BK446 (pkb BK446) hb); have n1_ := mk0 (blk_belowB BK447 (pkb BK447) hb); have n2_ := mk0 (below_step z12_5 hb); have n3_ := mk0 (hbox); have GW449 := mk0 (ge_go (a := w.heap.size) hg (below_size z12_5)); have GE449 := GW449; have NB446_449 := mk0 (nb_lt hg (blk_ltB BK446 (pkb BK446))); have NB449_446 := mk0 (nb_gt hg (blk_ltB BK446 (pkb BK446))); have NB447_449 := mk0 (nb_lt hg (blk_ltB BK447 (pkb BK447))); have NB449_447 := mk0 (nb_gt hg (blk_ltB BK447 (pkb BK447))); clear BK446 BK447 HB; have BK446 := n0_; have BK447 := n1_; have HB := n2_; have BK449 := n3_; clear n0_ n1_ n2_ n3_ ; clear hb hbox hg; have hnb12 := NB449_446.out; have hnc12 := NB446_449.out; have hnb13 := NB449_447.out; have hnc13 := NB447_449.out; obtain ⟨_, _, _, _⟩ := be_2 BK449.out) | (go_at_call 53; (with_reducible refine (impl_taken.calls ((rd_T46 l0 x11_1).f0) 33554432 t450 _ A7.out).mono ?_); rintro e w' ⟨rfl, ⟨nd, rfl⟩⟩; (try first | exact ⟨rfl, _, World.drewN_drewN _ _ _⟩ | exact ⟨rfl, _, Eq.trans (World.drewN_drewN _ _ _) (congrArg (World.drewN _) (Nat.add_assoc _ _ _))⟩)) | (go_at_call 53; (with_reducible refine (impl_taken.calls ((rd_T46 l0 x11_1).f1) 33554432 t451 _ A8.out).mono ?_); rintro e w' ⟨rfl, ⟨nd, rfl⟩⟩; (try first | exact ⟨rfl, _, World.drewN_drewN _ _ _⟩ | exact ⟨rfl, _, Eq.trans (World.drewN_drewN _ _ _) (congrArg (World.drewN _) (Nat.add_assoc _ _ _))⟩)) | ((with_reducible refine gate_dst (N := 8) rfl ?_); refine boxz (cs := #[.int .i64 0, .int .i64 0, .int .i64 0, .int .i64 0]) (t := 42) rfl ?_; intro gb452 hg w15 hbox hb; have n0_ := mk0 (blk_belowB BK446 z12_0 hb); have n1_ := mk0 (blk_belowB BK447 z12_1 hb); have n2_ := mk0 (blk_below (g := gb449) (o := .cells #[.int .i64 ((rd_T46 l0 x11_1).f0), .int .i64 ((rd_T46 l0 x11_1).f1)] 46 (0, 0)) z12_2 hb); have n3_ := mk0 (below_step z12_4 hb); have n4_ := mk0 (hbox); have GW452 := mk0 (ge_go (a := w.heap.size) hg (below_size z12_4)); have GE452 := GW452; have NB446_452 := mk0 (nb_lt hg (blk_ltB BK446 z12_0)); have NB452_446 := mk0 (nb_gt hg (blk_ltB BK446 z12_0)); have NB447_452 := mk0 (nb_lt hg (blk_ltB BK447 z12_1)); have NB452_447 := mk0 (nb_gt hg (blk_ltB BK447 z12_1)); have NB449_452 := mk0 ((by rw [hg]; exact Nat.ne_of_lt (blk_lt (g := gb449) (o := .cells #[.int .i64 ((rd_T46 l0 x11_1).f0), .int .i64 ((rd_T46 l0 x11_1).f1)] 46 (0, 0)) z12_2) : gb449 ≠ gb452)); have NB452_449 := mk0 ((by rw [hg]; exact Nat.ne_of_gt (blk_lt (g := gb449) (o := .cells #[.int .i64 ((rd_T46 l0 x11_1).f0), .int .i64 ((rd_T46 l0 x11_1).f1)] 46 (0, 0)) z12_2) : gb452 ≠ gb449)); clear BK446 BK447 BK449 HB; have BK446 := n0_; have BK447 := n1_; have BK449 := n2_; have HB := n3_; have BK452 := n4_; clear n0_ n1_ n2_ n3_ n4_ ; clear hb hbox hg; have hnb16 := NB452_446.out; have hnc16 := NB446_452.out; have hnb17 := NB452_447.out; have hnc17 := NB447_452.out; have hnb18 := NB452_449.out; have hnc18 := NB449_452.out; obtain ⟨_, _, _, _, _, _, _, _⟩ := be_4 BK452.out; have hnb20 := NB447_446.out; have hnc20 := NB446_447.out; obtain ⟨_, _, _, _, _, _, _, _⟩ := be_4 BK447.out) | (go_at_call 54; (with_reducible refine (impl_JoinBox.calls k1 t450 t451 (wrap64 (t450 + 1)) (wrap64 (t451 + 1)) t450 t451 (wrap64 (t450 + 1)) (wrap64 (t451 + 1)) t453 t454 t455 t456 _ A10.out).mono ?_); rintro e w22 ⟨rfl, hb⟩; have n0_ := mk0 (blk_belowB BK446 z12_7 hb); have n1_ := mk0 (blk_below (g := gb447) (o := .cells #[.int .i64 t450, .int .i64 t451, .int .i64 (wrap64 (t450 + 1)), .int .i64 (wrap64 (t451 + 1))] 42 (0, 0)) z12_21 hb); have n2_ := mk0 (blk_belowB BK449 z12_8 hb); have n3_ := mk0 (blk_below (g := gb452) (o := .cells #[.int .i64 t450, .int .i64 t451, .int .i64 (wrap64 (t450 + 1)), .int .i64 (wrap64 (t451 + 1))] 42 (0, 0)) z12_22 hb); have n4_ := mk0 (below_step z12_9 hb); clear BK446 BK447 BK449 BK452 HB; have BK446 := n0_; have BK447 := n1_; have BK449 := n2_; have BK452 := n3_; have HB := n4_; clear n0_ n1_ n2_ n3_ n4_; (try clear hb); obtain ⟨_, _, _, _⟩ := bb_4 BK447.out; obtain ⟨_, _, _⟩ := bf_3 BK447.out; have hfz23_3 := blk_frozen BK447.out 3)))
   go_roundg k1
   case measure => have := HK1.out; omega
   case rel => exact ⟨(wrap64 (x11_1 + 1)), (t453), (t454), (t455), (t456), rs0, H', ⟨(by have := HK1.out; omega)⟩, ⟨z12_20⟩, ⟨(by (with_reducible repeat (first | refine blk_drewN ?_ _ | refine blk_drew ?_ | refine blk_alloc ?_ _)); refine blk_put (cs := #[.int .i64 t453, .int .i64 t454, .int .i64 t455, .int .i64 (wrap64 (t451 + 1))]) ?_ 3 _ rfl; (with_reducible repeat (first | refine blk_drewN ?_ _ | refine blk_drew ?_ | refine blk_alloc ?_ _)); refine blk_put (cs := #[.int .i64 t453, .int .i64 t454, .int .i64 (wrap64 (t450 + 1)), .int .i64 (wrap64 (t451 + 1))]) ?_ 2 _ rfl; (with_reducible repeat (first | refine blk_drewN ?_ _ | refine blk_drew ?_ | refine blk_alloc ?_ _)); refine blk_put (cs := #[.int .i64 t453, .int .i64 t451, .int .i64 (wrap64 (t450 + 1)), .int .i64 (wrap64 (t451 + 1))]) ?_ 1 _ rfl; (with_reducible repeat (first | refine blk_drewN ?_ _ | refine blk_drew ?_ | refine blk_alloc ?_ _)); refine blk_put (cs := #[.int .i64 t450, .int .i64 t451, .int .i64 (wrap64 (t450 + 1)), .int .i64 (wrap64 (t451 + 1))]) ?_ 0 _ rfl; (with_reducible repeat (first | refine blk_drewN ?_ _ | refine blk_drew ?_ | refine blk_alloc ?_ _)); exact BK447.out)⟩, ⟨z12_9⟩⟩

/-! ### impl_Hull: function 16 -/
def impl_Hull.f (k : Nat) (l0_0 : List Int) (l0_1 : List (S46)) : Option (Int × Int × Int × Int) := (impl_PathOk.f k l0_0 l0_1).bind fun t463 => (if t463 = true then ((impl_BoxOf.f k l0_1).bind fun bt464 => (some (bt464.1, bt464.2.1, bt464.2.2.1, bt464.2.2.2))) else (some (0, 0, 0, 0)))
theorem impl_Hull.mono : ∀ a0 a1 k, LeO (impl_Hull.f k a0 a1) (impl_Hull.f (k + 1) a0 a1) := by
 intro a0 a1 k
 unfold impl_Hull.f
 repeat' first
   | (with_reducible exact impl_BoxOf.mono _ _)
   | (with_reducible exact impl_PathOk.mono _ _ _)
   | (with_reducible exact LeO.refl _)
   | (with_reducible exact LeO.none _)
   | (with_reducible refine LeO.ite ?_ ?_)
   | (with_reducible refine LeO.bind ?_ (fun _ => ?_))
set_option maxHeartbeats 8000000 in
set_option maxRecDepth 100000 in
theorem impl_Hull.calls (k : Nat) (A0_0 : Option Addr) (c0_0 : Nat) (l0_0 : List Int) (A0_1 : Option Addr) (c0_1 : Nat) (l0_1 : List (S46)) (r1 : Int) (r2 : Int) (r3 : Int) (r4 : Int) (w : World) (hr0_0 : Kd.C (Kd.int .i64) w A0_0 l0_0.length l0_0) (hc0_0 : l0_0.length ≤ c0_0) (hr0_1 : Kd.C k46 w A0_1 l0_1.length l0_1) (hc0_1 : l0_1.length ≤ c0_1) (h : impl_Hull.f k l0_0 l0_1 = some (r1, r2, r3, r4)) :
  Calls Try.prog 16 #[.agg #[.slice A0_0 l0_0.length c0_0, .slice A0_1 l0_1.length c0_1]] w fun e w' => e = .returned (.agg #[.int .i64 r1, .int .i64 r2, .int .i64 r3, .int .i64 r4]) ∧ Below w.heap.size w w' := by
 have hu31 := Try.underlying31
 have hu42 := Try.underlying42
 have HR0_0 := mk0 hr0_0
 have HC0_0 := mk0 hc0_0
 clear hr0_0 hc0_0
 have HR0_1 := mk0 hr0_1
 have HC0_1 := mk0 hc0_1
 clear hr0_1 hc0_1
 have HB := mk0 (Below.refl w.heap.size w)
 have H : ((impl_PathOk.f k l0_0 l0_1).bind fun t463 => (if t463 = true then ((impl_BoxOf.f k l0_1).bind fun bt464 => (some (bt464.1, bt464.2.1, bt464.2.2.1, bt464.2.2.2))) else (some (0, 0, 0, 0)))) = some (r1, r2, r3, r4) := h
 clear h
 replace H := Option.bind_eq_some_iff.mp H
 obtain ⟨t463, A20, H⟩ := H
 try dsimp only at H
 have A2 := mk0 A20
 clear A20
 by_cases c3 : t463 = true
 rotate_left
 ·replace c3 := Bool.eq_false_iff.mpr c3
  subst c3
  rw [if_neg (show ¬ (false = true) by decide)] at H
  simp only [Option.some.injEq, Prod.mk.injEq] at H
  obtain ⟨rfl, rfl, rfl, rfl⟩ := H
  go_enter Try.func16, Try.ntmps16
  go_wp2_with (first | ((with_reducible refine gate_dst (N := 1) rfl ?_); refine boxz (cs := #[.slice A0_0 l0_0.length c0_0, .slice A0_1 l0_1.length c0_1]) (t := 31) rfl ?_; intro gb461 hg w13 hbox hb; have n0_ := mk0 (below_step z12_3 hb); have n1_ := mk0 (hbox); have GW461 := mk0 (ge_go (a := w.heap.size) hg (below_size z12_3)); have GE461 := GW461; clear HB; have HB := n0_; have BK461 := n1_; clear n0_ n1_ ; clear hb hbox hg) | ((with_reducible refine gate_dst (N := 2) rfl ?_); refine boxz (cs := #[.int .i64 0, .int .i64 0, .int .i64 0, .int .i64 0]) (t := 42) rfl ?_; intro gb462 hg w14 hbox hb; have n0_ := mk0 (blk_belowB BK461 (pkb BK461) hb); have n1_ := mk0 (below_step z12_15 hb); have n2_ := mk0 (hbox); have GW462 := mk0 (ge_go (a := w.heap.size) hg (below_size z12_15)); have GE462 := GW462; have NB461_462 := mk0 (nb_lt hg (blk_ltB BK461 (pkb BK461))); have NB462_461 := mk0 (nb_gt hg (blk_ltB BK461 (pkb BK461))); clear BK461 HB; have BK461 := n0_; have HB := n1_; have BK462 := n2_; clear n0_ n1_ n2_ ; clear hb hbox hg; have hnb15 := NB461_462.out; have hnc15 := NB462_461.out; obtain ⟨_, _, _, _⟩ := be_2 BK461.out) | ((with_reducible refine gate_callee (f := 27) rfl ?_); refine goesL_ (some 4) rfl rfl Try.func27 (by kernel_rfl) rfl #[.agg #[.slice A0_0 l0_0.length c0_0, .slice A0_1 l0_1.length c0_1]] rfl z12_10 ?_; (with_reducible refine (impl_PathOk.calls k _ _ l0_0 _ _ l0_1 false _ ?side1 ?side2 ?side3 ?side4 A2.out).mono ?_); (case side1 => exact z12_30); (case side2 => exact HC0_0.out); (case side3 => exact z12_26); (case side4 => exact HC0_1.out); rintro e w17 ⟨rfl, hb⟩; refine ⟨_, rfl, ?_⟩; have n0_ := mk0 (blk_belowB BK461 (pkb BK461) hb); have n1_ := mk0 (blk_belowB BK462 (pkb BK462) hb); have n2_ := mk0 (below_step z12_16 hb); clear BK461 BK462 HB; have BK461 := n0_; have BK462 := n1_; have HB := n2_; clear n0_ n1_ n2_; (try clear hb); obtain ⟨_, _, _, _, _, _, _, _⟩ := be_4 BK462.out))
  refine bodyPost_ret (results_cell_row rfl _ _ gb462 42 #[.int .i64 0, .int .i64 0, .int .i64 0, .int .i64 0] (0, 0) _ rfl z12_29 Try.underlying42 rfl (by kernel_rfl)) rfl ?_
  exact ⟨z12_18, z12_16⟩
 subst c3
 rw [if_pos rfl] at H
 replace H := Option.bind_eq_some_iff.mp H
 obtain ⟨⟨t464, t465, t466, t467⟩, A40, H⟩ := H
 try dsimp only at H
 have A4 := mk0 A40
 clear A40
 simp only [Option.some.injEq, Prod.mk.injEq] at H
 obtain ⟨rfl, rfl, rfl, rfl⟩ := H
 go_enter Try.func16, Try.ntmps16
 go_wp2_with (first | ((with_reducible refine gate_dst (N := 1) rfl ?_); refine boxz (cs := #[.slice A0_0 l0_0.length c0_0, .slice A0_1 l0_1.length c0_1]) (t := 31) rfl ?_; intro gb461 hg w5 hbox hb; have n0_ := mk0 (below_step z12_3 hb); have n1_ := mk0 (hbox); have GW461 := mk0 (ge_go (a := w.heap.size) hg (below_size z12_3)); have GE461 := GW461; clear HB; have HB := n0_; have BK461 := n1_; clear n0_ n1_ ; clear hb hbox hg) | ((with_reducible refine gate_dst (N := 2) rfl ?_); refine boxz (cs := #[.int .i64 0, .int .i64 0, .int .i64 0, .int .i64 0]) (t := 42) rfl ?_; intro gb462 hg w6 hbox hb; have n0_ := mk0 (blk_belowB BK461 (pkb BK461) hb); have n1_ := mk0 (below_step z12_15 hb); have n2_ := mk0 (hbox); have GW462 := mk0 (ge_go (a := w.heap.size) hg (below_size z12_15)); have GE462 := GW462; have NB461_462 := mk0 (nb_lt hg (blk_ltB BK461 (pkb BK461))); have NB462_461 := mk0 (nb_gt hg (blk_ltB BK461 (pkb BK461))); clear BK461 HB; have BK461 := n0_; have HB := n1_; have BK462 := n2_; clear n0_ n1_ n2_ ; clear hb hbox hg; have hnb7 := NB461_462.out; have hnc7 := NB462_461.out; obtain ⟨_, _, _, _⟩ := be_2 BK461.out) | ((with_reducible refine gate_callee (f := 27) rfl ?_); refine goesL_ (some 4) rfl rfl Try.func27 (by kernel_rfl) rfl #[.agg #[.slice A0_0 l0_0.length c0_0, .slice A0_1 l0_1.length c0_1]] rfl z12_10 ?_; (with_reducible refine (impl_PathOk.calls k _ _ l0_0 _ _ l0_1 true _ ?side1 ?side2 ?side3 ?side4 A2.out).mono ?_); (case side1 => exact z12_30); (case side2 => exact HC0_0.out); (case side3 => exact z12_26); (case side4 => exact HC0_1.out); rintro e w9 ⟨rfl, hb⟩; refine ⟨_, rfl, ?_⟩; have n0_ := mk0 (blk_belowB BK461 (pkb BK461) hb); have n1_ := mk0 (blk_belowB BK462 (pkb BK462) hb); have n2_ := mk0 (below_step z12_16 hb); clear BK461 BK462 HB; have BK461 := n0_; have BK462 := n1_; have HB := n2_; clear n0_ n1_ n2_; (try clear hb); obtain ⟨_, _, _, _⟩ := be_2 BK461.out) | ((with_reducible refine gate_callee (f := 37) rfl ?_); refine goesL_ (some 9) rfl rfl Try.func37 (by kernel_rfl) rfl #[.slice A0_1 l0_1.length c0_1] rfl z12_10 ?_; (with_reducible refine (impl_BoxOf.calls k _ _ l0_1 t464 t465 t466 t467 _ ?side1 ?side2 A4.out).mono ?_); (case side1 => exact z12_26); (case side2 => exact HC0_1.out); rintro e w11 ⟨rfl, hb⟩; refine ⟨_, rfl, ?_⟩; have n0_ := mk0 (blk_belowB BK461 (pkb BK461) hb); have n1_ := mk0 (blk_belowB BK462 (pkb BK462) hb); have n2_ := mk0 (below_step z12_16 hb); clear BK461 BK462 HB; have BK461 := n0_; have BK462 := n1_; have HB := n2_; clear n0_ n1_ n2_; (try clear hb); obtain ⟨_, _, _, _, _, _, _, _⟩ := be_4 BK462.out))
 refine bodyPost_ret (results_cell_row rfl _ _ gb462 42 #[.int .i64 t464, .int .i64 t465, .int .i64 t466, .int .i64 t467] (0, 0) _ rfl z12_29 Try.underlying42 rfl (by kernel_rfl)) rfl ?_
 exact ⟨z12_18, z12_16⟩

/-! ### laws_samePoints: function 38 -/
def laws_samePoints.l0 : Nat → List (S46) → List (S46) → Int → Option (Bool)
 | 0, _, _, _ => none
 | k + 1, x0, x1, x5 => if x5 < (x0.length : Int) then (if 0 ≤ x5 then (if x5 < (x1.length : Int) then (if (!(((rd_T46 x0 x5).f0) == ((rd_T46 x1 x5).f0)) || (!(((rd_T46 x0 x5).f1) == ((rd_T46 x1 x5).f1)))) = true then (some false) else (laws_samePoints.l0 k x0 x1 (wrap64 (x5 + 1)))) else (none)) else (none)) else (some true)
def laws_samePoints.f (k : Nat) (l0 : List (S46)) (l1 : List (S46)) : Option (Bool) := if (l0.length : Int) = (l1.length : Int) then (laws_samePoints.l0 k l0 l1 0) else (some false)
theorem laws_samePoints.mono_l : ∀ k, (∀ y0 y1 y2, LeO (laws_samePoints.l0 k y0 y1 y2) (laws_samePoints.l0 (k + 1) y0 y1 y2))
 | 0 => fun _ _ _ r h => by simp [laws_samePoints.l0] at h
 | k + 1 => by
  have ih0 := laws_samePoints.mono_l k
  ·intro y0 y1 y2
   unfold laws_samePoints.l0
   repeat' first
   | (with_reducible exact ih0 _ _ _)
   | (with_reducible exact LeO.refl _)
   | (with_reducible exact LeO.none _)
   | (with_reducible refine LeO.ite ?_ ?_)
   | (with_reducible refine LeO.bind ?_ (fun _ => ?_))
theorem laws_samePoints.mono : ∀ a0 a1 k, LeO (laws_samePoints.f k a0 a1) (laws_samePoints.f (k + 1) a0 a1) := by
 intro a0 a1 k
 have ih0 := laws_samePoints.mono_l k
 unfold laws_samePoints.f
 repeat' first
   | (with_reducible exact ih0 _ _ _)
   | (with_reducible exact LeO.refl _)
   | (with_reducible exact LeO.none _)
   | (with_reducible refine LeO.ite ?_ ?_)
   | (with_reducible refine LeO.bind ?_ (fun _ => ?_))
set_option maxHeartbeats 8000000 in
set_option maxRecDepth 100000 in
theorem laws_samePoints.calls (k : Nat) (A0 : Option Addr) (c0 : Nat) (l0 : List (S46)) (A1 : Option Addr) (c1 : Nat) (l1 : List (S46)) (r : Bool) (w : World) (hr0 : Kd.C k46 w A0 l0.length l0) (hc0 : l0.length ≤ c0) (hr1 : Kd.C k46 w A1 l1.length l1) (hc1 : l1.length ≤ c1) (h : laws_samePoints.f k l0 l1 = some r) :
  Calls Try.prog 38 #[.slice A0 l0.length c0, .slice A1 l1.length c1] w fun e w' => e = .returned (.bool r) ∧ Drawn0 w w' := by
 have hu46 := Try.underlying46
 have HR0 := mk0 hr0
 have HC0 := mk0 hc0
 clear hr0 hc0
 have HR1 := mk0 hr1
 have HC1 := mk0 hc1
 clear hr1 hc1
 have H : (if (l0.length : Int) = (l1.length : Int) then (laws_samePoints.l0 k l0 l1 0) else (some false)) = some r := h
 clear h
 by_cases c3 : (l0.length : Int) = (l1.length : Int)
 rotate_left
 ·rw [if_neg c3] at H
  have c3b0 : ((l0.length : Int) == (l1.length : Int)) = false := beq_eq_false_iff_ne.mpr c3
  have c3b1 : ((l0.length : Int) != (l1.length : Int)) = true := bne_iff_ne.mpr c3
  have c3b2 : (l0.length == l1.length) = false := by first | simpa using c3 | (simp at c3 ⊢; omega)
  obtain rfl := Option.some.inj H
  simp only [Option.some.injEq, Prod.mk.injEq] at H
  obtain ⟨rfl⟩ := H
  go_enter Try.func38, Try.ntmps38
  go_wp2
  repeat (go_quiet (fail); try go_wp2)
  go_ret
  exact ⟨rs0, z12_28⟩
 rw [if_pos c3] at H
 have c3b0 : ((l0.length : Int) == (l1.length : Int)) = true := beq_iff_eq.mpr c3
 have c3b1 : ((l0.length : Int) != (l1.length : Int)) = false := bne_eq_false_iff_eq.mpr c3
 have c3b2 : (l0.length == l1.length) = true := by first | simpa using c3 | (simp at c3 ⊢; omega)
 clear c3
 have H' := mk0 H
 clear H
 go_enter Try.func38, Try.ntmps38
 go_wp2
 repeat (go_quiet (fail); try go_wp2)
 go_loopg [5] k (fun kq v5 w' => ∃ (x5_1 : Int), v5 = .int .i64 x5_1 ∧ Aside0 (laws_samePoints.l0 kq l0 l1 x5_1 = some r) ∧ Aside0 (kq ≤ k) ∧ Drawn0 w w')
 case atStart => exact ⟨(0), rs0, H', ⟨Nat.le_refl _⟩, z12_28⟩
 case round =>
  clear H'
  try clear c1
  try clear p2
  try clear c3
  try clear c3b0
  try clear c3b1
  try clear c3b2
  obtain ⟨x5_1, rfl, HA, HK1, ⟨m1, rfl⟩⟩ := hrel
  cases gk with
  | zero => exact absurd HA.out (by simp [laws_samePoints.l0])
  | succ k1 =>
   have H := HA.out; clear HA
   simp only [laws_samePoints.l0] at H
   by_cases c4 : x5_1 < (l0.length : Int)
   rotate_left
   ·rw [if_neg c4] at H
    have c4b0 := decide_eq_false c4
    clear c4
    obtain rfl := Option.some.inj H
    simp only [Option.some.injEq, Prod.mk.injEq] at H
    obtain ⟨rfl⟩ := H
    go_wp2
    repeat (go_quiet (fail); try go_wp2)
    go_ret
    exact ⟨rs0, z12_28⟩
   rw [if_pos c4] at H
   have c4b0 := decide_eq_true c4
   clear c4
   by_cases c5 : 0 ≤ x5_1
   rotate_left
   ·rw [if_neg c5] at H
    exact absurd H (by simp)
   rw [if_pos c5] at H
   have c5b0 := decide_eq_true c5
   clear c5
   by_cases c6 : x5_1 < (l1.length : Int)
   rotate_left
   ·rw [if_neg c6] at H
    exact absurd H (by simp)
   rw [if_pos c6] at H
   have c6b0 := decide_eq_true c6
   clear c6
   by_cases c7 : (!(((rd_T46 l0 x5_1).f0) == ((rd_T46 l1 x5_1).f0)) || (!(((rd_T46 l0 x5_1).f1) == ((rd_T46 l1 x5_1).f1)))) = true
   ·rw [if_pos c7] at H
    have c7b0 : (!(((rd_T46 l0 x5_1).f0) == ((rd_T46 l1 x5_1).f0)) || (!(((rd_T46 l0 x5_1).f1) == ((rd_T46 l1 x5_1).f1)))) = true := c7
    clear c7
    obtain rfl := Option.some.inj H
    simp only [Option.some.injEq, Prod.mk.injEq] at H
    obtain ⟨rfl⟩ := H
    have p468 : 0 ≤ (x5_1 : Int) := of_decide_eq_true (by first | (with_reducible assumption) | assumption)
    have q468 : x5_1 < (l0.length : Int) := of_decide_eq_true (by first | (with_reducible assumption) | assumption)
    obtain ⟨ad468, e468, hx468_0, hx468_1⟩ := at_T46 HR0.out x5_1 p468 q468
    cases e468
    replace p468 := eq_true p468
    replace q468 := eq_true q468
    have p469 : 0 ≤ (x5_1 : Int) := of_decide_eq_true (by first | (with_reducible assumption) | assumption)
    have q469 : x5_1 < (l1.length : Int) := of_decide_eq_true (by first | (with_reducible assumption) | assumption)
    obtain ⟨ad469, e469, hx469_0, hx469_1⟩ := at_T46 HR1.out x5_1 p469 q469
    cases e469
    replace p469 := eq_true p469
    replace q469 := eq_true q469
    go_wp2
    repeat (go_quiet (fail); try go_wp2)
    go_ret
    exact ⟨rs0, z12_28⟩
   rw [if_neg c7] at H
   have c7b0 : (!(((rd_T46 l0 x5_1).f0) == ((rd_T46 l1 x5_1).f0)) || (!(((rd_T46 l0 x5_1).f1) == ((rd_T46 l1 x5_1).f1)))) = false := by simpa using c7
   clear c7
   have H' := mk0 H
   clear H
   have p468 : 0 ≤ (x5_1 : Int) := of_decide_eq_true (by first | (with_reducible assumption) | assumption)
   have q468 : x5_1 < (l0.length : Int) := of_decide_eq_true (by first | (with_reducible assumption) | assumption)
   obtain ⟨ad468, e468, hx468_0, hx468_1⟩ := at_T46 HR0.out x5_1 p468 q468
   cases e468
   replace p468 := eq_true p468
   replace q468 := eq_true q468
   have p469 : 0 ≤ (x5_1 : Int) := of_decide_eq_true (by first | (with_reducible assumption) | assumption)
   have q469 : x5_1 < (l1.length : Int) := of_decide_eq_true (by first | (with_reducible assumption) | assumption)
   obtain ⟨ad469, e469, hx469_0, hx469_1⟩ := at_T46 HR1.out x5_1 p469 q469
   cases e469
   replace p469 := eq_true p469
   replace q469 := eq_true q469
   go_wp2
   repeat (go_quiet (fail); try go_wp2)
   go_roundg k1
   case measure => have := HK1.out; omega
   case rel => exact ⟨(wrap64 (x5_1 + 1)), rs0, H', ⟨(by have := HK1.out; omega)⟩, z12_28⟩

end Go.Proofs.Ytdpnimngndemiaa.MFnFlats
