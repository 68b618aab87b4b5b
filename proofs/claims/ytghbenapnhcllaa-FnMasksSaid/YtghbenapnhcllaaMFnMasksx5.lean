/- Functions of the program as Lean functions, and the proof that a call comes to just these: machine text of this session's own program (myprint.py). -/
import Derived.Test.YtghbenapnhcllaaMFnMasksx0
import Derived.Test.YtghbenapnhcllaaMFnMasksx4
namespace Go.Proofs.Ytghbenapnhcllaa.MFnMasks
open Go.RowKit Go.Proofs.YtghbenapnhcllaaW.PrintWords Go.Proofs.YtghbenapnhcllaaW.PrintLast Go.Proofs.YtghbenapnhcllaaW.PrintMore
attribute [local go_sem] max2_int min2_int max_two min_two max_three min_three max_four min_four   -- for this text's walks alone
set_option linter.unusedVariables false
set_option linter.unusedSimpArgs false

theorem z5_0 {P : Prop} (h : P := by repeat (first | (with_reducible first | exact HB.out | apply below_alloc | apply pw_below_drewN | apply below_drew1 | refine below_set ?_ GE112.out) | exact HB.out)) : P := h
/-! ### spec_PathOk: function 52 -/
mutual
def spec_PathOk.j0 : Nat → Bool → List Int → List (S52) → Option (Bool)
 | 0, _, _, _ => none
 | k + 1, x16, x113000, x113001 => if x16 = true then (some false) else (spec_PathOk.l0 k 0 0 x113000 x113001)
def spec_PathOk.l0 : Nat → Int → Int → List Int → List (S52) → Option (Bool)
 | 0, _, _, _, _ => none
 | k + 1, x3, x4, x113000, x113001 => if x4 < (x113000.length : Int) then (if 0 ≤ x4 then ((spec_NeedOf.f (rd x113000 x4)).bind fun t114 => (if t114 < 0 then (some false) else (if x4 = 0 then (if (rd x113000 x4) = 1 then (spec_PathOk.l0 k (wrap64 (x3 + t114)) (wrap64 (x4 + 1)) x113000 x113001) else (some false)) else (if 0 ≤ (wrap64 (x4 - 1)) then (if (wrap64 (x4 - 1)) < (x113000.length : Int) then (if (rd x113000 (wrap64 (x4 - 1))) = 5 then (if (rd x113000 x4) = 1 then (spec_PathOk.l0 k (wrap64 (x3 + t114)) (wrap64 (x4 + 1)) x113000 x113001) else (some false)) else (spec_PathOk.l0 k (wrap64 (x3 + t114)) (wrap64 (x4 + 1)) x113000 x113001)) else (none)) else (none))))) else (none)) else (spec_PathOk.l1 k x3 0 x113000 x113001)
def spec_PathOk.l1 : Nat → Int → Int → List Int → List (S52) → Option (Bool)
 | 0, _, _, _, _ => none
 | k + 1, x3, x6, x113000, x113001 => if x6 < (x113001.length : Int) then (if 0 ≤ x6 then ((spec_PointOk.f ((rd_T52 x113001 x6).f0) ((rd_T52 x113001 x6).f1)).bind fun t119 => (if t119 = true then (spec_PathOk.l1 k x3 (wrap64 (x6 + 1)) x113000 x113001) else (some false))) else (none)) else (some (x3 == (x113001.length : Int)))
end
def spec_PathOk.f (k : Nat) (l0_0 : List Int) (l0_1 : List (S52)) : Option (Bool) := if (l0_1.length : Int) > 24 then (spec_PathOk.j0 k true l0_0 l0_1) else (spec_PathOk.j0 k (decide ((l0_0.length : Int) > 24)) l0_0 l0_1)
theorem spec_PathOk.mono_l : ∀ k, (∀ y0 y1 y2, LeO (spec_PathOk.j0 k y0 y1 y2) (spec_PathOk.j0 (k + 1) y0 y1 y2)) ∧ (∀ y0 y1 y2 y3, LeO (spec_PathOk.l0 k y0 y1 y2 y3) (spec_PathOk.l0 (k + 1) y0 y1 y2 y3)) ∧ (∀ y0 y1 y2 y3, LeO (spec_PathOk.l1 k y0 y1 y2 y3) (spec_PathOk.l1 (k + 1) y0 y1 y2 y3))
 | 0 => ⟨fun _ _ _ r h => by simp [spec_PathOk.j0] at h, fun _ _ _ _ r h => by simp [spec_PathOk.l0] at h, fun _ _ _ _ r h => by simp [spec_PathOk.l1] at h⟩
 | k + 1 => by
  obtain ⟨ih0, ih1, ih2⟩ := spec_PathOk.mono_l k
  refine ⟨?_, ?_, ?_⟩
  ·intro y0 y1 y2
   unfold spec_PathOk.j0
   with_reducible repeat' first | apply ih0 | apply ih1 | apply ih2 | exact LeO.refl _ | exact LeO.none _ | refine LeO.ite ?_ ?_ | refine LeO.bind ?_ (fun _ => ?_)
  ·intro y0 y1 y2 y3
   unfold spec_PathOk.l0
   with_reducible repeat' first | apply ih0 | apply ih1 | apply ih2 | exact LeO.refl _ | exact LeO.none _ | refine LeO.ite ?_ ?_ | refine LeO.bind ?_ (fun _ => ?_)
  ·intro y0 y1 y2 y3
   unfold spec_PathOk.l1
   with_reducible repeat' first | apply ih0 | apply ih1 | apply ih2 | exact LeO.refl _ | exact LeO.none _ | refine LeO.ite ?_ ?_ | refine LeO.bind ?_ (fun _ => ?_)
theorem spec_PathOk.mono : ∀ a0 a1 k, LeO (spec_PathOk.f k a0 a1) (spec_PathOk.f (k + 1) a0 a1) := by
 intro a0 a1 k; obtain ⟨ih0, ih1, ih2⟩ := spec_PathOk.mono_l k
 unfold spec_PathOk.f
 with_reducible repeat' first | apply ih0 | apply ih1 | apply ih2 | exact LeO.refl _ | exact LeO.none _ | refine LeO.ite ?_ ?_ | refine LeO.bind ?_ (fun _ => ?_)
set_option maxHeartbeats 8000000 in
set_option maxRecDepth 100000 in
theorem spec_PathOk.calls (k : Nat) (A0_0 : Option Addr) (c0_0 : Nat) (l0_0 : List Int) (A0_1 : Option Addr) (c0_1 : Nat) (l0_1 : List (S52)) (r : Bool) (w : World) (hr0_0 : Kd.C (Kd.int .i64) w A0_0 l0_0.length l0_0) (hc0_0 : l0_0.length ≤ c0_0) (hr0_1 : Kd.C k52 w A0_1 l0_1.length l0_1) (hc0_1 : l0_1.length ≤ c0_1) (h : spec_PathOk.f k l0_0 l0_1 = some r) :
  Calls Try.prog 52 #[.agg #[.slice A0_0 l0_0.length c0_0, .slice A0_1 l0_1.length c0_1]] w fun e w' => e = .returned (.bool r) ∧ Below w.heap.size w w' := by
 have hu31 := Try.underlying31; have hu52 := Try.underlying52; have HR0_0 := mk0 hr0_0; have HC0_0 := mk0 hc0_0; clear hr0_0 hc0_0; have HR0_1 := mk0 hr0_1; have HC0_1 := mk0 hc0_1; clear hr0_1 hc0_1; have HB := mk0 (Below.refl w.heap.size w)
 have H := h; unfold spec_PathOk.f at H
 clear h; have HC2 := mk0 H; clear H; go_enter Try.func52, Try.ntmps52
 go_upto_region 1 with (first | ((with_reducible refine gate_dst (N := 1) rfl ?_); (try (refine gate_guard (by rfl) ?_; dsimp only)); refine boxz (cs := #[.slice A0_0 l0_0.length c0_0, .slice A0_1 l0_1.length c0_1]) (t := 31) rfl ?_; intro gb112 hg w3 hbox hb; have GW112 := mk0 (ge_go (a := w.heap.size) hg (below_size q_149)); have GE112 := GW112; replace HB := bS q_149 hb; have BK112 := mk0 (hbox); clear hb hbox hg))
 (try simp only [Act.put, List.setIfInBounds_toArray, List.set_cons_zero, List.set_cons_succ])
 go_cut [16] (fun v16 wc => ∃ (kq : Nat) (x16_1 : Bool), v16 = .bool x16_1 ∧ Aside0 (spec_PathOk.j0 kq x16_1 l0_0 l0_1 = some r) ∧ Aside0 (kq ≤ k) ∧ Aside0 (wc.heap[gb112]? = some (.cells #[(.slice A0_0 l0_0.length c0_0), (.slice A0_1 l0_1.length c0_1)] 31 (0, 0))) ∧ Aside0 (Below w.heap.size w wc))
 case first =>
  have H := HC2.out; clear HC2
  by_cases c4 : (l0_1.length : Int) > 24
  ·rw [if_pos c4] at H; have c4b0 := decide_eq_true c4
   have c4b1 : decide (24 < l0_1.length) = true := decide_eq_true (by omega)
   clear c4
   (first | rw [c4b0] | (simp only [i64_w, i32_w]; rw [c4b0]) | skip)
   have H' := mk0 H
   clear H; obtain ⟨_, _, _, _⟩ := be_2 BK112.out
   go_wp2
   go_meet
   case rel => exact ⟨_, (true), rs0, H', ⟨(by first | omega | exact Nat.le_refl _)⟩, ⟨pkb BK112⟩, ⟨z5_0⟩⟩
  rw [if_neg c4] at H; have c4b0 := decide_eq_false c4
  have c4b1 : decide (24 < l0_1.length) = false := decide_eq_false (by omega)
  clear c4
  (first | rw [c4b0] | (simp only [i64_w, i32_w]; rw [c4b0]) | skip)
  have H' := mk0 H
  clear H; obtain ⟨_, _, _, _⟩ := be_2 BK112.out
  go_wp2
  go_meet
  case rel => exact ⟨_, (decide ((l0_0.length : Int) > 24)), rs0, H', ⟨(by first | omega | exact Nat.le_refl _)⟩, ⟨pkb BK112⟩, ⟨z5_0⟩⟩
 case rest =>
  clear HC2; try clear p2
  obtain ⟨kq, x16_1, rfl, HA, HJ1, BK112, HB⟩ := hcut
  cases kq with
  | zero => exact absurd HA.out (by simp [spec_PathOk.j0])
  | succ kj1 =>
   have H := HA.out; clear HA; simp only [spec_PathOk.j0] at H
   by_cases c7 : x16_1 = true
   ·subst c7; rw [if_pos rfl] at H
    obtain rfl := Option.some.inj H
    simp only [Option.some.injEq, Prod.mk.injEq] at H; obtain ⟨rfl⟩ := H
    go_wp2
    go_ret
    exact ⟨q_71, z5_0⟩
   replace c7 := Bool.eq_false_iff.mpr c7; subst c7; rw [if_neg (show ¬ (false = true) by decide)] at H
   have H' := mk0 H
   clear H
   go_wp2
   go_loopg [3, 4] kj1 (fun kq v3 v4 w' => ∃ (x3_2 : Int) (x4_2 : Int), v3 = .int .i64 x3_2 ∧ v4 = .int .i64 x4_2 ∧ Aside0 (spec_PathOk.l0 kq x3_2 x4_2 l0_0 l0_1 = some r) ∧ Aside0 (kq ≤ kj1) ∧ Aside0 (w'.heap[gb112]? = some (.cells #[(.slice A0_0 l0_0.length c0_0), (.slice A0_1 l0_1.length c0_1)] 31 (0, 0))) ∧ Aside0 (Below w.heap.size w w'))
   case atStart => exact ⟨(0), (0), rs0, rs0, H', ⟨Nat.le_refl _⟩, ⟨pkb BK112⟩, ⟨z5_0⟩⟩
   case round =>
    clear H'; (try clear c7); obtain ⟨x3_2, x4_2, rfl, rfl, HA, HK2, BK112, HB⟩ := hrel
    cases gk with
    | zero => exact absurd HA.out (by simp [spec_PathOk.l0])
    | succ k2 =>
     have H := HA.out; clear HA; simp only [spec_PathOk.l0] at H
     by_cases c8 : x4_2 < (l0_0.length : Int)
     rotate_left
     ·rw [if_neg c8] at H; have c8b0 := decide_eq_false c8; clear c8
      have H' := mk0 H
      clear H; obtain ⟨_, _, _, _⟩ := be_2 BK112.out
      go_wp2
      go_loopg [6] k2 (fun kq v6 w' => ∃ (x6_3 : Int), v6 = .int .i64 x6_3 ∧ Aside0 (spec_PathOk.l1 kq x3_2 x6_3 l0_0 l0_1 = some r) ∧ Aside0 (kq ≤ k2) ∧ Aside0 (w'.heap[gb112]? = some (.cells #[(.slice A0_0 l0_0.length c0_0), (.slice A0_1 l0_1.length c0_1)] 31 (0, 0))) ∧ Aside0 (Below w.heap.size w w'))
      case atStart => exact ⟨(0), rs0, H', ⟨Nat.le_refl _⟩, ⟨pkb BK112⟩, ⟨z5_0⟩⟩
      case round =>
       clear H'; (try clear c8b0); obtain ⟨x6_3, rfl, HA, HK3, BK112, HB⟩ := hrel
       cases gk with
       | zero => exact absurd HA.out (by simp [spec_PathOk.l1])
       | succ k3 =>
        have H := HA.out; clear HA; simp only [spec_PathOk.l1] at H
        by_cases c37 : x6_3 < (l0_1.length : Int)
        rotate_left
        ·rw [if_neg c37] at H; have c37b0 := decide_eq_false c37; clear c37
         obtain rfl := Option.some.inj H
         simp only [Option.some.injEq, Prod.mk.injEq] at H; obtain ⟨rfl⟩ := H
         obtain ⟨_, _, _, _⟩ := be_2 BK112.out
         go_wp2
         go_ret
         exact ⟨q_71, z5_0⟩
        rw [if_pos c37] at H; have c37b0 := decide_eq_true c37; clear c37
        by_cases c38 : 0 ≤ x6_3
        rotate_left
        ·rw [if_neg c38] at H
         exact absurd H (by simp)
        rw [if_pos c38] at H; have c38b0 := decide_eq_true c38; clear c38; obtain ⟨t119, A39, H⟩ := bnd H
        try dsimp only at H
        by_cases c40 : t119 = true
        rotate_left
        ·replace c40 := Bool.eq_false_iff.mpr c40; subst c40; rw [if_neg (show ¬ (false = true) by decide)] at H
         obtain rfl := Option.some.inj H
         simp only [Option.some.injEq, Prod.mk.injEq] at H; obtain ⟨rfl⟩ := H
         obtain ⟨_, _, _, _⟩ := be_2 BK112.out
         have p118 : 0 ≤ (x6_3 : Int) := of_decide_eq_true (by first | (with_reducible assumption) | assumption)
         have q118 : x6_3 < (l0_1.length : Int) := of_decide_eq_true (by first | (with_reducible assumption) | assumption)
         obtain ⟨ad118, e118, hx118_0, hx118_1⟩ := at_T52 HR0_1.out x6_3 p118 q118
         cases e118
         replace hx118_0 := cell_go HB hx118_0; replace hx118_1 := cell_go HB hx118_1; replace p118 := eq_true p118; replace q118 := eq_true q118
         go_wp2_with (first | ((with_reducible refine gate_callee (f := 117) rfl ?_); refine gl_ (some 68) Try.func117 #[.agg #[.int .i64 ((rd_T52 l0_1 x6_3).f0), .int .i64 ((rd_T52 l0_1 x6_3).f1)]] rfl q_0 ?_; (with_reducible refine (spec_PointOk.calls ((rd_T52 l0_1 x6_3).f0) ((rd_T52 l0_1 x6_3).f1) false _ A39.out).mono ?_); rintro e w44 ⟨rfl, hb⟩; refine ⟨_, rfl, ?_⟩; replace BK112 := bB BK112 hb; replace HB := bS z5_0 hb; clear hb))
         go_ret
         exact ⟨q_71, z5_0⟩
        subst c40; rw [if_pos rfl] at H
        have H' := mk0 H
        clear H; obtain ⟨_, _, _, _⟩ := be_2 BK112.out
        have p118 : 0 ≤ (x6_3 : Int) := of_decide_eq_true (by first | (with_reducible assumption) | assumption)
        have q118 : x6_3 < (l0_1.length : Int) := of_decide_eq_true (by first | (with_reducible assumption) | assumption)
        obtain ⟨ad118, e118, hx118_0, hx118_1⟩ := at_T52 HR0_1.out x6_3 p118 q118
        cases e118
        replace hx118_0 := cell_go HB hx118_0; replace hx118_1 := cell_go HB hx118_1; replace p118 := eq_true p118; replace q118 := eq_true q118
        go_wp2_with (first | ((with_reducible refine gate_callee (f := 117) rfl ?_); refine gl_ (some 68) Try.func117 #[.agg #[.int .i64 ((rd_T52 l0_1 x6_3).f0), .int .i64 ((rd_T52 l0_1 x6_3).f1)]] rfl q_0 ?_; (with_reducible refine (spec_PointOk.calls ((rd_T52 l0_1 x6_3).f0) ((rd_T52 l0_1 x6_3).f1) true _ A39.out).mono ?_); rintro e w42 ⟨rfl, hb⟩; refine ⟨_, rfl, ?_⟩; replace BK112 := bB BK112 hb; replace HB := bS z5_0 hb; clear hb))
        go_roundg k3
        case measure => have := HJ1.out; have := HK2.out; have := HK3.out; omega
        case rel => exact ⟨(wrap64 (x6_3 + 1)), rs0, H', ⟨(by have := HJ1.out; have := HK2.out; have := HK3.out; omega)⟩, ⟨pkb BK112⟩, ⟨z5_0⟩⟩
     rw [if_pos c8] at H; have c8b0 := decide_eq_true c8; clear c8
     by_cases c9 : 0 ≤ x4_2
     rotate_left
     ·rw [if_neg c9] at H
      exact absurd H (by simp)
     rw [if_pos c9] at H; have c9b0 := decide_eq_true c9; clear c9; obtain ⟨t114, A10, H⟩ := bnd H
     try dsimp only at H
     by_cases c11 : t114 < 0
     ·rw [if_pos c11] at H; have c11b0 := decide_eq_true c11; clear c11
      obtain rfl := Option.some.inj H
      simp only [Option.some.injEq, Prod.mk.injEq] at H; obtain ⟨rfl⟩ := H
      obtain ⟨_, _, _, _⟩ := be_2 BK112.out
      have p113 : 0 ≤ (x4_2 : Int) := of_decide_eq_true (by first | (with_reducible assumption) | assumption)
      have q113 : x4_2 < (l0_0.length : Int) := of_decide_eq_true (by first | (with_reducible assumption) | assumption)
      obtain ⟨ad113, e113, hx113_0⟩ := Kd.at_int HR0_0.out x4_2 p113 q113
      cases e113
      replace hx113_0 := cell_go HB hx113_0; replace p113 := eq_true p113; replace q113 := eq_true q113
      go_wp2_with (first | ((with_reducible refine gate_callee (f := 55) rfl ?_); refine gl_ (some 29) Try.func55 #[.int .i64 (rd l0_0 x4_2)] rfl q_0 ?_; (with_reducible refine (spec_NeedOf.calls (rd l0_0 x4_2) t114 _ A10.out).mono ?_); rintro e w13 ⟨rfl, hb⟩; refine ⟨_, rfl, ?_⟩; replace BK112 := bB BK112 hb; replace HB := bS z5_0 hb; clear hb))
      go_ret
      exact ⟨q_71, z5_0⟩
     rw [if_neg c11] at H; have c11b0 := decide_eq_false c11; clear c11
     by_cases c14 : x4_2 = 0
     ·rw [if_pos c14] at H
      have c14b0 : (x4_2 == 0) = true := beq_iff_eq.mpr c14
      have c14b1 : (x4_2 != 0) = false := bne_eq_false_iff_eq.mpr c14
      clear c14
      by_cases c15 : (rd l0_0 x4_2) = 1
      rotate_left
      ·rw [if_neg c15] at H
       have c15b0 : ((rd l0_0 x4_2) == 1) = false := beq_eq_false_iff_ne.mpr c15
       have c15b1 : ((rd l0_0 x4_2) != 1) = true := bne_iff_ne.mpr c15
       obtain rfl := Option.some.inj H
       simp only [Option.some.injEq, Prod.mk.injEq] at H; obtain ⟨rfl⟩ := H
       obtain ⟨_, _, _, _⟩ := be_2 BK112.out
       have p113 : 0 ≤ (x4_2 : Int) := of_decide_eq_true (by first | (with_reducible assumption) | assumption)
       have q113 : x4_2 < (l0_0.length : Int) := of_decide_eq_true (by first | (with_reducible assumption) | assumption)
       obtain ⟨ad113, e113, hx113_0⟩ := Kd.at_int HR0_0.out x4_2 p113 q113
       cases e113
       replace hx113_0 := cell_go HB hx113_0; replace p113 := eq_true p113; replace q113 := eq_true q113
       go_wp2_with (first | ((with_reducible refine gate_callee (f := 55) rfl ?_); refine gl_ (some 29) Try.func55 #[.int .i64 (rd l0_0 x4_2)] rfl q_0 ?_; (with_reducible refine (spec_NeedOf.calls (rd l0_0 x4_2) t114 _ A10.out).mono ?_); rintro e w20 ⟨rfl, hb⟩; refine ⟨_, rfl, ?_⟩; replace BK112 := bB BK112 hb; replace HB := bS z5_0 hb; clear hb; obtain ⟨_, _, _, _⟩ := be_2 BK112.out; have p115 : 0 ≤ (x4_2 : Int) := of_decide_eq_true (by first | (with_reducible assumption) | assumption); have q115 : x4_2 < (l0_0.length : Int) := of_decide_eq_true (by first | (with_reducible assumption) | assumption); obtain ⟨ad115, e115, hx115_0⟩ := Kd.at_int HR0_0.out x4_2 p115 q115; obtain rfl : ad113 = ad115 := (by injection e115); replace hx115_0 := cell_go HB hx115_0; replace p115 := eq_true p115; replace q115 := eq_true q115))
       go_ret
       exact ⟨q_71, z5_0⟩
      rw [if_pos c15] at H
      have c15b0 : ((rd l0_0 x4_2) == 1) = true := beq_iff_eq.mpr c15
      have c15b1 : ((rd l0_0 x4_2) != 1) = false := bne_eq_false_iff_eq.mpr c15
      clear c15
      have H' := mk0 H
      clear H; obtain ⟨_, _, _, _⟩ := be_2 BK112.out
      have p113 : 0 ≤ (x4_2 : Int) := of_decide_eq_true (by first | (with_reducible assumption) | assumption)
      have q113 : x4_2 < (l0_0.length : Int) := of_decide_eq_true (by first | (with_reducible assumption) | assumption)
      obtain ⟨ad113, e113, hx113_0⟩ := Kd.at_int HR0_0.out x4_2 p113 q113
      cases e113
      replace hx113_0 := cell_go HB hx113_0; replace p113 := eq_true p113; replace q113 := eq_true q113
      go_wp2_with (first | ((with_reducible refine gate_callee (f := 55) rfl ?_); refine gl_ (some 29) Try.func55 #[.int .i64 (rd l0_0 x4_2)] rfl q_0 ?_; (with_reducible refine (spec_NeedOf.calls (rd l0_0 x4_2) t114 _ A10.out).mono ?_); rintro e w17 ⟨rfl, hb⟩; refine ⟨_, rfl, ?_⟩; replace BK112 := bB BK112 hb; replace HB := bS z5_0 hb; clear hb; obtain ⟨_, _, _, _⟩ := be_2 BK112.out; have p115 : 0 ≤ (x4_2 : Int) := of_decide_eq_true (by first | (with_reducible assumption) | assumption); have q115 : x4_2 < (l0_0.length : Int) := of_decide_eq_true (by first | (with_reducible assumption) | assumption); obtain ⟨ad115, e115, hx115_0⟩ := Kd.at_int HR0_0.out x4_2 p115 q115; obtain rfl : ad113 = ad115 := (by injection e115); replace hx115_0 := cell_go HB hx115_0; replace p115 := eq_true p115; replace q115 := eq_true q115))
      go_roundg k2
      case measure => have := HJ1.out; have := HK2.out; omega
      case rel => exact ⟨(wrap64 (x3_2 + t114)), (wrap64 (x4_2 + 1)), rs0, rs0, H', ⟨(by have := HJ1.out; have := HK2.out; omega)⟩, ⟨pkb BK112⟩, ⟨z5_0⟩⟩
     rw [if_neg c14] at H
     have c14b0 : (x4_2 == 0) = false := beq_eq_false_iff_ne.mpr c14
     have c14b1 : (x4_2 != 0) = true := bne_iff_ne.mpr c14
     obtain ⟨ji22, hji22⟩ : ∃ j_ : Int, (wrap64 (x4_2 - 1)) = j_ := ⟨_, rfl⟩
     replace H : (if 0 ≤ (ji22) then (if (ji22) < (l0_0.length : Int) then (if (rd l0_0 (ji22)) = 5 then (if (rd l0_0 x4_2) = 1 then (spec_PathOk.l0 k2 (wrap64 (x3_2 + t114)) (wrap64 (x4_2 + 1)) l0_0 l0_1) else (some false)) else (spec_PathOk.l0 k2 (wrap64 (x3_2 + t114)) (wrap64 (x4_2 + 1)) l0_0 l0_1)) else (none)) else (none)) = some r := by first | (rw [hji22] at H; exact H) | (simp only [hji22] at H ⊢; exact H)
     (try rw [hji22] at A10)
     have hji22w : (IntKind.i64.wrap (x4_2 - 1)) = ji22 := (i64_w _).trans hji22
     by_cases c23 : 0 ≤ (ji22)
     rotate_left
     ·rw [if_neg c23] at H
      exact absurd H (by simp)
     rw [if_pos c23] at H; have c23b0 := decide_eq_true c23; clear c23
     by_cases c24 : (ji22) < (l0_0.length : Int)
     rotate_left
     ·rw [if_neg c24] at H
      exact absurd H (by simp)
     rw [if_pos c24] at H; have c24b0 := decide_eq_true c24; clear c24
     by_cases c25 : (rd l0_0 (ji22)) = 5
     rotate_left
     ·rw [if_neg c25] at H
      have c25b0 : ((rd l0_0 (ji22)) == 5) = false := beq_eq_false_iff_ne.mpr c25
      have c25b1 : ((rd l0_0 (ji22)) != 5) = true := bne_iff_ne.mpr c25
      have H' := mk0 H
      clear H; obtain ⟨_, _, _, _⟩ := be_2 BK112.out
      have p113 : 0 ≤ (x4_2 : Int) := of_decide_eq_true (by first | (with_reducible assumption) | assumption)
      have q113 : x4_2 < (l0_0.length : Int) := of_decide_eq_true (by first | (with_reducible assumption) | assumption)
      obtain ⟨ad113, e113, hx113_0⟩ := Kd.at_int HR0_0.out x4_2 p113 q113
      cases e113
      replace hx113_0 := cell_go HB hx113_0; replace p113 := eq_true p113; replace q113 := eq_true q113
      go_wp2_with (first | ((with_reducible refine gate_callee (f := 55) rfl ?_); refine gl_ (some 29) Try.func55 #[.int .i64 (rd l0_0 x4_2)] rfl q_0 ?_; (with_reducible refine (spec_NeedOf.calls (rd l0_0 x4_2) t114 _ A10.out).mono ?_); rintro e w34 ⟨rfl, hb⟩; refine ⟨_, rfl, ?_⟩; replace BK112 := bB BK112 hb; replace HB := bS z5_0 hb; clear hb; obtain ⟨_, _, _, _⟩ := be_2 BK112.out; have p116 : 0 ≤ ((ji22) : Int) := of_decide_eq_true (by first | (with_reducible assumption) | assumption); have q116 : (ji22) < (l0_0.length : Int) := of_decide_eq_true (by first | (with_reducible assumption) | assumption); obtain ⟨ad116, e116, hx116_0⟩ := Kd.at_int HR0_0.out (ji22) p116 q116; obtain rfl : ad113 = ad116 := (by injection e116); replace hx116_0 := cell_go HB hx116_0; replace p116 := eq_true p116; replace q116 := eq_true q116))
      go_roundg k2
      case measure => have := HJ1.out; have := HK2.out; omega
      case rel => exact ⟨(wrap64 (x3_2 + t114)), (wrap64 (x4_2 + 1)), rs0, rs0, H', ⟨(by have := HJ1.out; have := HK2.out; omega)⟩, ⟨pkb BK112⟩, ⟨z5_0⟩⟩
     rw [if_pos c25] at H
     have c25b0 : ((rd l0_0 (ji22)) == 5) = true := beq_iff_eq.mpr c25
     have c25b1 : ((rd l0_0 (ji22)) != 5) = false := bne_eq_false_iff_eq.mpr c25
     clear c25
     by_cases c26 : (rd l0_0 x4_2) = 1
     ·rw [if_pos c26] at H
      have c26b0 : ((rd l0_0 x4_2) == 1) = true := beq_iff_eq.mpr c26
      have c26b1 : ((rd l0_0 x4_2) != 1) = false := bne_eq_false_iff_eq.mpr c26
      clear c26
      have H' := mk0 H
      clear H; obtain ⟨_, _, _, _⟩ := be_2 BK112.out
      have p113 : 0 ≤ (x4_2 : Int) := of_decide_eq_true (by first | (with_reducible assumption) | assumption)
      have q113 : x4_2 < (l0_0.length : Int) := of_decide_eq_true (by first | (with_reducible assumption) | assumption)
      obtain ⟨ad113, e113, hx113_0⟩ := Kd.at_int HR0_0.out x4_2 p113 q113
      cases e113
      replace hx113_0 := cell_go HB hx113_0; replace p113 := eq_true p113; replace q113 := eq_true q113
      go_wp2_with (first | ((with_reducible refine gate_callee (f := 55) rfl ?_); refine gl_ (some 29) Try.func55 #[.int .i64 (rd l0_0 x4_2)] rfl q_0 ?_; (with_reducible refine (spec_NeedOf.calls (rd l0_0 x4_2) t114 _ A10.out).mono ?_); rintro e w28 ⟨rfl, hb⟩; refine ⟨_, rfl, ?_⟩; replace BK112 := bB BK112 hb; replace HB := bS z5_0 hb; clear hb; obtain ⟨_, _, _, _⟩ := be_2 BK112.out; have p116 : 0 ≤ ((ji22) : Int) := of_decide_eq_true (by first | (with_reducible assumption) | assumption); have q116 : (ji22) < (l0_0.length : Int) := of_decide_eq_true (by first | (with_reducible assumption) | assumption); obtain ⟨ad116, e116, hx116_0⟩ := Kd.at_int HR0_0.out (ji22) p116 q116; obtain rfl : ad113 = ad116 := (by injection e116); replace hx116_0 := cell_go HB hx116_0; replace p116 := eq_true p116; replace q116 := eq_true q116; have p117 : 0 ≤ (x4_2 : Int) := of_decide_eq_true (by first | (with_reducible assumption) | assumption); have q117 : x4_2 < (l0_0.length : Int) := of_decide_eq_true (by first | (with_reducible assumption) | assumption); obtain ⟨ad117, e117, hx117_0⟩ := Kd.at_int HR0_0.out x4_2 p117 q117; obtain rfl : ad113 = ad117 := (by injection e117); replace hx117_0 := cell_go HB hx117_0; replace p117 := eq_true p117; replace q117 := eq_true q117))
      go_roundg k2
      case measure => have := HJ1.out; have := HK2.out; omega
      case rel => exact ⟨(wrap64 (x3_2 + t114)), (wrap64 (x4_2 + 1)), rs0, rs0, H', ⟨(by have := HJ1.out; have := HK2.out; omega)⟩, ⟨pkb BK112⟩, ⟨z5_0⟩⟩
     rw [if_neg c26] at H
     have c26b0 : ((rd l0_0 x4_2) == 1) = false := beq_eq_false_iff_ne.mpr c26
     have c26b1 : ((rd l0_0 x4_2) != 1) = true := bne_iff_ne.mpr c26
     obtain rfl := Option.some.inj H
     simp only [Option.some.injEq, Prod.mk.injEq] at H; obtain ⟨rfl⟩ := H
     obtain ⟨_, _, _, _⟩ := be_2 BK112.out
     have p113 : 0 ≤ (x4_2 : Int) := of_decide_eq_true (by first | (with_reducible assumption) | assumption)
     have q113 : x4_2 < (l0_0.length : Int) := of_decide_eq_true (by first | (with_reducible assumption) | assumption)
     obtain ⟨ad113, e113, hx113_0⟩ := Kd.at_int HR0_0.out x4_2 p113 q113
     cases e113
     replace hx113_0 := cell_go HB hx113_0; replace p113 := eq_true p113; replace q113 := eq_true q113
     go_wp2_with (first | ((with_reducible refine gate_callee (f := 55) rfl ?_); refine gl_ (some 29) Try.func55 #[.int .i64 (rd l0_0 x4_2)] rfl q_0 ?_; (with_reducible refine (spec_NeedOf.calls (rd l0_0 x4_2) t114 _ A10.out).mono ?_); rintro e w31 ⟨rfl, hb⟩; refine ⟨_, rfl, ?_⟩; replace BK112 := bB BK112 hb; replace HB := bS z5_0 hb; clear hb; obtain ⟨_, _, _, _⟩ := be_2 BK112.out; have p116 : 0 ≤ ((ji22) : Int) := of_decide_eq_true (by first | (with_reducible assumption) | assumption); have q116 : (ji22) < (l0_0.length : Int) := of_decide_eq_true (by first | (with_reducible assumption) | assumption); obtain ⟨ad116, e116, hx116_0⟩ := Kd.at_int HR0_0.out (ji22) p116 q116; obtain rfl : ad113 = ad116 := (by injection e116); replace hx116_0 := cell_go HB hx116_0; replace p116 := eq_true p116; replace q116 := eq_true q116; have p117 : 0 ≤ (x4_2 : Int) := of_decide_eq_true (by first | (with_reducible assumption) | assumption); have q117 : x4_2 < (l0_0.length : Int) := of_decide_eq_true (by first | (with_reducible assumption) | assumption); obtain ⟨ad117, e117, hx117_0⟩ := Kd.at_int HR0_0.out x4_2 p117 q117; obtain rfl : ad113 = ad117 := (by injection e117); replace hx117_0 := cell_go HB hx117_0; replace p117 := eq_true p117; replace q117 := eq_true q117))
     go_ret
     exact ⟨(by first | rfl | (simp [errW_none, errW_some] <;> rfl) | (simp only [← hji22]; first | rfl | (simp [errW_none, errW_some] <;> rfl)) | (simp [*, errW_none, errW_some] <;> rfl)), z5_0⟩

/-! ### spec_Clamp: function 118 -/
def spec_Clamp.f (a0 : Int) (a1 : Int) (a2 : Int) : Option (Int) := if a0 < a1 then (some a1) else (if a0 > a2 then (some a2) else (some a0))
set_option maxHeartbeats 8000000 in
set_option maxRecDepth 100000 in
theorem spec_Clamp.calls (a0 : Int) (a1 : Int) (a2 : Int) (r : Int) (w : World) (h : spec_Clamp.f a0 a1 a2 = some r) :
  Calls Try.prog 118 #[.int .i64 a0, .int .i64 a1, .int .i64 a2] w fun e w' => e = .returned (.int .i64 r) ∧ Drawn0 w w' := by
 have H := h; unfold spec_Clamp.f at H
 clear h
 by_cases c4 : a0 < a1
 ·rw [if_pos c4] at H; have c4b0 := decide_eq_true c4; clear c4
  obtain rfl := Option.some.inj H
  simp only [Option.some.injEq, Prod.mk.injEq] at H; obtain ⟨rfl⟩ := H
  go_enter Try.func118, Try.ntmps118
  go_wp2
  go_ret
  exact ⟨rs0, q_183⟩
 rw [if_neg c4] at H; have c4b0 := decide_eq_false c4; clear c4
 by_cases c5 : a0 > a2
 ·rw [if_pos c5] at H; have c5b0 := decide_eq_true c5; clear c5
  obtain rfl := Option.some.inj H
  simp only [Option.some.injEq, Prod.mk.injEq] at H; obtain ⟨rfl⟩ := H
  go_enter Try.func118, Try.ntmps118
  go_wp2
  go_ret
  exact ⟨rs0, q_183⟩
 rw [if_neg c5] at H; have c5b0 := decide_eq_false c5; clear c5
 obtain rfl := Option.some.inj H
 simp only [Option.some.injEq, Prod.mk.injEq] at H; obtain ⟨rfl⟩ := H
 go_enter Try.func118, Try.ntmps118
 go_wp2
 go_ret
 exact ⟨rs0, q_183⟩

/-! ### spec_FloorDiv: function 145 -/
def spec_FloorDiv.f (a0 : Int) (a1 : Int) : Option (Int) := if a1 < 1 then (some 0) else (if a1 = 0 then (none) else (if (Int.tmod a0 a1) < 0 then (some (wrap64 ((wrap64 (Int.tdiv a0 a1)) - 1))) else (some (wrap64 (Int.tdiv a0 a1)))))
set_option maxHeartbeats 8000000 in
set_option maxRecDepth 100000 in
theorem spec_FloorDiv.calls (a0 : Int) (a1 : Int) (r : Int) (w : World) (h : spec_FloorDiv.f a0 a1 = some r) :
  Calls Try.prog 145 #[.int .i64 a0, .int .i64 a1] w fun e w' => e = .returned (.int .i64 r) ∧ Drawn0 w w' := by
 have H := h; unfold spec_FloorDiv.f at H
 clear h
 by_cases c3 : a1 < 1
 ·rw [if_pos c3] at H; have c3b0 := decide_eq_true c3; clear c3
  obtain rfl := Option.some.inj H
  simp only [Option.some.injEq, Prod.mk.injEq] at H; obtain ⟨rfl⟩ := H
  go_enter Try.func145, Try.ntmps145
  go_wp2
  go_ret
  exact ⟨rs0, q_183⟩
 rw [if_neg c3] at H; have c3b0 := decide_eq_false c3; clear c3
 by_cases c4 : a1 = 0
 ·rw [if_pos c4] at H
  exact absurd H (by simp)
 rw [if_neg c4] at H
 have c4b0 : (a1 == 0) = false := beq_eq_false_iff_ne.mpr c4
 have c4b1 : (a1 != 0) = true := bne_iff_ne.mpr c4
 by_cases c5 : (Int.tmod a0 a1) < 0
 ·rw [if_pos c5] at H; have c5b0 := decide_eq_true c5; clear c5
  obtain rfl := Option.some.inj H
  simp only [Option.some.injEq, Prod.mk.injEq] at H; obtain ⟨rfl⟩ := H
  go_enter Try.func145, Try.ntmps145
  go_wp2
  go_ret
  exact ⟨rs0, q_183⟩
 rw [if_neg c5] at H; have c5b0 := decide_eq_false c5; clear c5
 obtain rfl := Option.some.inj H
 simp only [Option.some.injEq, Prod.mk.injEq] at H; obtain ⟨rfl⟩ := H
 go_enter Try.func145, Try.ntmps145
 go_wp2
 go_ret
 exact ⟨rs0, q_183⟩

/-! ### spec_RoundDiv: function 119 -/
def spec_RoundDiv.f (a0 : Int) (a1 : Int) : Option (Int) := if a1 < 1 then (some 0) else ((spec_FloorDiv.f a0 a1).bind fun t120 => (if (wrap64 (a0 - (wrap64 (t120 * a1)))) ≥ (wrap64 (a1 - (wrap64 (a0 - (wrap64 (t120 * a1)))))) then (some (wrap64 (t120 + 1))) else (some t120)))
set_option maxHeartbeats 8000000 in
set_option maxRecDepth 100000 in
theorem spec_RoundDiv.calls (a0 : Int) (a1 : Int) (r : Int) (w : World) (h : spec_RoundDiv.f a0 a1 = some r) :
  Calls Try.prog 119 #[.int .i64 a0, .int .i64 a1] w fun e w' => e = .returned (.int .i64 r) ∧ Drawn0 w w' := by
 have H := h; unfold spec_RoundDiv.f at H
 clear h
 by_cases c3 : a1 < 1
 ·rw [if_pos c3] at H; have c3b0 := decide_eq_true c3; clear c3
  obtain rfl := Option.some.inj H
  simp only [Option.some.injEq, Prod.mk.injEq] at H; obtain ⟨rfl⟩ := H
  go_enter Try.func119, Try.ntmps119
  go_wp2
  go_ret
  exact ⟨rs0, q_183⟩
 rw [if_neg c3] at H; have c3b0 := decide_eq_false c3; clear c3; obtain ⟨t120, A4, H⟩ := bnd H
 try dsimp only at H
 by_cases c5 : (wrap64 (a0 - (wrap64 (t120 * a1)))) ≥ (wrap64 (a1 - (wrap64 (a0 - (wrap64 (t120 * a1))))))
 ·rw [if_pos c5] at H; have c5b0 := decide_eq_true c5; clear c5
  obtain rfl := Option.some.inj H
  simp only [Option.some.injEq, Prod.mk.injEq] at H; obtain ⟨rfl⟩ := H
  go_enter Try.func119, Try.ntmps119
  go_wp2_with (first | ((with_reducible refine gate_callee (f := 145) rfl ?_); refine gl_ (some 11) Try.func145 #[.int .i64 a0, .int .i64 a1] rfl q_0 ?_; (with_reducible refine (spec_FloorDiv.calls a0 a1 t120 _ A4.out).mono ?_); rintro e w' ⟨rfl, ⟨nd, rfl⟩⟩; refine ⟨_, rfl, ?_⟩))
  go_ret
  exact ⟨rs0, q_183⟩
 rw [if_neg c5] at H; have c5b0 := decide_eq_false c5; clear c5
 obtain rfl := Option.some.inj H
 simp only [Option.some.injEq, Prod.mk.injEq] at H; obtain ⟨rfl⟩ := H
 go_enter Try.func119, Try.ntmps119
 go_wp2_with (first | ((with_reducible refine gate_callee (f := 145) rfl ?_); refine gl_ (some 11) Try.func145 #[.int .i64 a0, .int .i64 a1] rfl q_0 ?_; (with_reducible refine (spec_FloorDiv.calls a0 a1 t120 _ A4.out).mono ?_); rintro e w' ⟨rfl, ⟨nd, rfl⟩⟩; refine ⟨_, rfl, ?_⟩))
 go_ret
 exact ⟨rs0, q_183⟩

end Go.Proofs.Ytghbenapnhcllaa.MFnMasks
