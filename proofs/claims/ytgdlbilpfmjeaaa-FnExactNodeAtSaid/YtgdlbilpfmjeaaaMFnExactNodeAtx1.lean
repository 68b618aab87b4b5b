/- Functions of the program as Lean functions, and the proof that a call comes to just these: machine text of this session's own program (myprint.py). -/
import Derived.Test.YtgdlbilpfmjeaaaMFnExactNodeAtx0
namespace Go.Proofs.Ytgdlbilpfmjeaaa.MFnExactNodeAt
open Go.RowKit Go.Proofs.YtgdlbilpfmjeaaaW.PrintWords Go.Proofs.YtgdlbilpfmjeaaaW.PrintLast Go.Proofs.YtgdlbilpfmjeaaaW.PrintMore
attribute [local go_sem] max2_int min2_int max_two min_two max_three min_three max_four min_four   -- for this text's walks alone
set_option linter.unusedVariables false
set_option linter.unusedSimpArgs false

theorem z1_0 {P : Prop} (h : P := by repeat (first | (with_reducible first | exact HB.out | apply below_alloc | apply pw_below_drewN | apply below_drew1) | exact HB.out)) : P := h
theorem z1_1 {P : Prop} (h : P := by (try simp only [List.map_toArray, List.map_cons, List.map_nil]); first | done | rfl | (simp only [List.length_drop, List.length_take]; rfl)) : P := h
theorem z1_2 {P : Prop} (h : P := by repeat (first | (with_reducible first | exact HB.out | apply below_alloc | apply pw_below_drewN | apply below_drew1 | refine below_set ?_ GE104.out) | exact HB.out)) : P := h
theorem z1_3 {P : Prop} (h : P := by (with_reducible repeat (first | refine blk_drewN ?_ _ | refine blk_drew ?_ | refine blk_alloc ?_ _)); exact BK104.out) : P := h
theorem z1_4 {P : Prop} (h : P := by (with_reducible repeat (first | refine blk_drewN ?_ _ | refine blk_drew ?_ | refine blk_alloc ?_ _)); exact BK119.out) : P := h
theorem z1_5 {P : Prop} (h : P := by (with_reducible repeat (first | refine blk_drewN ?_ _ | refine blk_drew ?_ | refine blk_alloc ?_ _)); exact BK122.out) : P := h
theorem z1_6 {P : Prop} (h : P := by repeat (first | (with_reducible first | exact HB.out | apply below_alloc | apply pw_below_drewN | apply below_drew1 | refine below_set ?_ GE119.out | refine below_set ?_ GE120.out) | exact HB.out)) : P := h
theorem z1_7 {P : Prop} (h : P := by repeat (first | (with_reducible first | exact HB.out | apply below_alloc | apply pw_below_drewN | apply below_drew1 | refine below_set ?_ GE122.out | refine below_set ?_ GE123.out) | exact HB.out)) : P := h
theorem z1_8 {P : Prop} (h : P := by repeat (first | (with_reducible first | exact HB.out | apply below_alloc | apply pw_below_drewN | apply below_drew1 | refine below_set ?_ GE119.out) | exact HB.out)) : P := h
theorem z1_9 {P : Prop} (h : P := by repeat (first | (with_reducible first | exact HB.out | apply below_alloc | apply pw_below_drewN | apply below_drew1 | refine below_set ?_ GE122.out) | exact HB.out)) : P := h
theorem z1_10 {P : Prop} (h : P := by (with_reducible repeat (first | refine blk_drewN ?_ _ | refine blk_drew ?_ | refine blk_alloc ?_ _)); exact BK120.out) : P := h
theorem z1_11 {P : Prop} (h : P := by (with_reducible repeat (first | refine blk_drewN ?_ _ | refine blk_drew ?_ | refine blk_alloc ?_ _)); exact BK123.out) : P := h
theorem z1_12 {P : Prop} (h : P := by repeat (first | (with_reducible first | exact HB.out | apply below_alloc | apply pw_below_drewN | apply below_drew1 | refine below_set ?_ GE101.out) | exact HB.out)) : P := h
theorem z1_13 {P : Prop} (h : P := by repeat (first | (with_reducible first | exact HB.out | apply below_alloc | apply pw_below_drewN | apply below_drew1 | refine below_set ?_ GE110.out) | exact HB.out)) : P := h
theorem z1_14 {P : Prop} (h : P := by (with_reducible repeat (first | refine blk_drewN ?_ _ | refine blk_drew ?_ | refine blk_alloc ?_ _)); exact BK110.out) : P := h
/-! ### laws_szPointS: function 70 -/
def laws_szPointS.f (l0 : List (S157)) (a1 : Int) : Option (Int) := if (wrap64 (a1 - (l0.length : Int))) < 0 then (some (-1)) else (some (wrap64 (a1 - (l0.length : Int))))
set_option maxHeartbeats 8000000 in
set_option maxRecDepth 100000 in
theorem laws_szPointS.calls (A0 : Option Addr) (c0 : Nat) (l0 : List (S157)) (a1 : Int) (r : Int) (w : World) (hr0 : Kd.C k157 w A0 l0.length l0) (hc0 : l0.length ≤ c0) (h : laws_szPointS.f l0 a1 = some r) :
  Calls Try.prog 70 #[.slice A0 l0.length c0, .int .i64 a1] w fun e w' => e = .returned (.int .i64 r) ∧ Drawn0 w w' := by
 have HR0 := Aside0.mk hr0
 have HC0 := Aside0.mk hc0
 clear hr0 hc0
 have H : (if (wrap64 (a1 - (l0.length : Int))) < 0 then (some (-1)) else (some (wrap64 (a1 - (l0.length : Int))))) = some r := h
 clear h
 by_cases c3 : (wrap64 (a1 - (l0.length : Int))) < 0
 ·rw [if_pos c3] at H
  have c3b0 : decide ((wrap64 (a1 - (l0.length : Int))) < 0) = true := decide_eq_true c3
  clear c3
  obtain rfl := Option.some.inj H
  simp only [Option.some.injEq, Prod.mk.injEq] at H
  obtain ⟨rfl⟩ := H
  go_enter Try.func70, Try.ntmps70
  go_wp2
  go_ret
  exact ⟨by first | rfl | (simp; done) | (simp [*]; done), by repeat (first | exact Drawn0.refl _ | apply Drawn0.step)⟩
 ·rw [if_neg c3] at H
  have c3b0 : decide ((wrap64 (a1 - (l0.length : Int))) < 0) = false := decide_eq_false c3
  clear c3
  obtain rfl := Option.some.inj H
  simp only [Option.some.injEq, Prod.mk.injEq] at H
  obtain ⟨rfl⟩ := H
  go_enter Try.func70, Try.ntmps70
  go_wp2
  go_ret
  exact ⟨by first | rfl | (simp; done) | (simp [*]; done), by repeat (first | exact Drawn0.refl _ | apply Drawn0.step)⟩

/-! ### laws_szIntS: function 180 -/
def laws_szIntS.f (l0 : List Int) (a1 : Int) : Option (Int) := if (wrap64 (a1 - (l0.length : Int))) < 0 then (some (-1)) else (some (wrap64 (a1 - (l0.length : Int))))
set_option maxHeartbeats 8000000 in
set_option maxRecDepth 100000 in
theorem laws_szIntS.calls (A0 : Option Addr) (c0 : Nat) (l0 : List Int) (a1 : Int) (r : Int) (w : World) (hr0 : Kd.C (Kd.int .i64) w A0 l0.length l0) (hc0 : l0.length ≤ c0) (h : laws_szIntS.f l0 a1 = some r) :
  Calls Try.prog 180 #[.slice A0 l0.length c0, .int .i64 a1] w fun e w' => e = .returned (.int .i64 r) ∧ Drawn0 w w' := by
 have HR0 := Aside0.mk hr0
 have HC0 := Aside0.mk hc0
 clear hr0 hc0
 have H : (if (wrap64 (a1 - (l0.length : Int))) < 0 then (some (-1)) else (some (wrap64 (a1 - (l0.length : Int))))) = some r := h
 clear h
 by_cases c3 : (wrap64 (a1 - (l0.length : Int))) < 0
 ·rw [if_pos c3] at H
  have c3b0 : decide ((wrap64 (a1 - (l0.length : Int))) < 0) = true := decide_eq_true c3
  clear c3
  obtain rfl := Option.some.inj H
  simp only [Option.some.injEq, Prod.mk.injEq] at H
  obtain ⟨rfl⟩ := H
  go_enter Try.func180, Try.ntmps180
  go_wp2
  go_ret
  exact ⟨by first | rfl | (simp; done) | (simp [*]; done), by repeat (first | exact Drawn0.refl _ | apply Drawn0.step)⟩
 ·rw [if_neg c3] at H
  have c3b0 : decide ((wrap64 (a1 - (l0.length : Int))) < 0) = false := decide_eq_false c3
  clear c3
  obtain rfl := Option.some.inj H
  simp only [Option.some.injEq, Prod.mk.injEq] at H
  obtain ⟨rfl⟩ := H
  go_enter Try.func180, Try.ntmps180
  go_wp2
  go_ret
  exact ⟨by first | rfl | (simp; done) | (simp [*]; done), by repeat (first | exact Drawn0.refl _ | apply Drawn0.step)⟩

/-! ### laws_szPath: function 179 -/
def laws_szPath.f (l0_0 : List Int) (l0_1 : List (S157)) (a1 : Int) : Option (Int) := (laws_szIntS.f l0_0 a1).bind fun t102 => (if t102 < 0 then (some (-1)) else ((laws_szPointS.f l0_1 t102).bind fun t103 => (if t103 < 0 then (some (-1)) else (some t103))))
set_option maxHeartbeats 8000000 in
set_option maxRecDepth 100000 in
theorem laws_szPath.calls (A0_0 : Option Addr) (c0_0 : Nat) (l0_0 : List Int) (A0_1 : Option Addr) (c0_1 : Nat) (l0_1 : List (S157)) (a1 : Int) (r : Int) (w : World) (hr0_0 : Kd.C (Kd.int .i64) w A0_0 l0_0.length l0_0) (hc0_0 : l0_0.length ≤ c0_0) (hr0_1 : Kd.C k157 w A0_1 l0_1.length l0_1) (hc0_1 : l0_1.length ≤ c0_1) (h : laws_szPath.f l0_0 l0_1 a1 = some r) :
  Calls Try.prog 179 #[.agg #[.slice A0_0 l0_0.length c0_0, .slice A0_1 l0_1.length c0_1], .int .i64 a1] w fun e w' => e = .returned (.int .i64 r) ∧ Below w.heap.size w w' := by
 have hu168 := Try.underlying168
 have HR0_0 := Aside0.mk hr0_0
 have HC0_0 := Aside0.mk hc0_0
 clear hr0_0 hc0_0
 have HR0_1 := Aside0.mk hr0_1
 have HC0_1 := Aside0.mk hc0_1
 clear hr0_1 hc0_1
 have HB := Aside0.mk (Below.refl w.heap.size w)
 have H : ((laws_szIntS.f l0_0 a1).bind fun t102 => (if t102 < 0 then (some (-1)) else ((laws_szPointS.f l0_1 t102).bind fun t103 => (if t103 < 0 then (some (-1)) else (some t103))))) = some r := h
 clear h
 replace H := Option.bind_eq_some_iff.mp H
 obtain ⟨t102, A30, H⟩ := H
 replace H : (if t102 < 0 then (some (-1)) else ((laws_szPointS.f l0_1 t102).bind fun t103 => (if t103 < 0 then (some (-1)) else (some t103)))) = some r := H
 have A3 := Aside0.mk A30
 clear A30
 by_cases c4 : t102 < 0
 ·rw [if_pos c4] at H
  have c4b0 : decide (t102 < 0) = true := decide_eq_true c4
  clear c4
  obtain rfl := Option.some.inj H
  simp only [Option.some.injEq, Prod.mk.injEq] at H
  obtain ⟨rfl⟩ := H
  go_enter Try.func179, Try.ntmps179
  go_wp2_with (first | ((with_reducible refine gate_dst (N := 2) rfl ?_); refine box_event ?hg (N := 2) ?hd (cs := #[.slice A0_0 l0_0.length c0_0, .slice A0_1 l0_1.length c0_1]) (t := 168) ?hr ?_; (case hd => rfl); (case hg => rfl); (case hr => first | (go_simp; done) | (go_simp; rfl)); intro gb101 hg w5 hbox hb; have n0_ := Aside0.mk (below_step z1_0 hb); have n1_ := Aside0.mk (hbox); have n2_ := Aside0.mk ((by rw [hg]; exact (below_size z1_0) : w.heap.size ≤ gb101)); have n3_ := Aside0.mk ((by rw [hg]; exact (below_size z1_0) : w.heap.size ≤ gb101)); clear HB; have HB := n0_; have BK101 := n1_; have GW101 := n2_; have GE101 := n3_; clear n0_ n1_ n2_ n3_; clear hb hbox hg; have hcz6_0 : w5.cell? ⟨gb101, 0, none⟩ = some (.slice A0_0 l0_0.length c0_0) := (blk_cell BK101.out 0).trans rfl; have hcz6_1 : w5.cell? ⟨gb101, 1, none⟩ = some (.slice A0_1 l0_1.length c0_1) := (blk_cell BK101.out 1).trans rfl; have hfz6_0 := blk_frozen BK101.out 0; have hfz6_1 := blk_frozen BK101.out 1) | ((with_reducible refine gate_callee (f := 180) rfl ?_); refine goesL_ (some 8) rfl rfl Try.func180 (by kernel_rfl) rfl #[.slice A0_0 l0_0.length c0_0, .int .i64 a1] rfl z1_1 ?_; (with_reducible refine (laws_szIntS.calls _ _ l0_0 a1 t102 _ ?side1 ?side2 A3.out).mono ?_); (case side1 => repeat (first | exact (Kd.C_below HR0_0.out HB.out) | (with_reducible refine Kd.C_alloc ?_ _) | (with_reducible refine Kd.C_drewN ?_ _) | (with_reducible refine Kd.C_drew ?_))); (case side2 => exact HC0_0.out); rintro e w' ⟨rfl, ⟨nd, rfl⟩⟩; refine ⟨_, rfl, ?_⟩))
  go_ret
  exact ⟨by first | rfl | (simp [errW_none, errW_some] <;> rfl) | (simp [*, errW_none, errW_some] <;> rfl), by repeat (first | (with_reducible first | exact HB.out | apply below_alloc | apply pw_below_drewN | apply below_drew1 | refine below_set ?_ GE101.out) | exact HB.out)⟩
 ·rw [if_neg c4] at H
  have c4b0 : decide (t102 < 0) = false := decide_eq_false c4
  clear c4
  replace H := Option.bind_eq_some_iff.mp H
  obtain ⟨t103, A70, H⟩ := H
  replace H : (if t103 < 0 then (some (-1)) else (some t103)) = some r := H
  have A7 := Aside0.mk A70
  clear A70
  by_cases c8 : t103 < 0
  ·rw [if_pos c8] at H
   have c8b0 : decide (t103 < 0) = true := decide_eq_true c8
   clear c8
   obtain rfl := Option.some.inj H
   simp only [Option.some.injEq, Prod.mk.injEq] at H
   obtain ⟨rfl⟩ := H
   go_enter Try.func179, Try.ntmps179
   go_wp2_with (first | ((with_reducible refine gate_dst (N := 2) rfl ?_); refine box_event ?hg (N := 2) ?hd (cs := #[.slice A0_0 l0_0.length c0_0, .slice A0_1 l0_1.length c0_1]) (t := 168) ?hr ?_; (case hd => rfl); (case hg => rfl); (case hr => first | (go_simp; done) | (go_simp; rfl)); intro gb101 hg w9 hbox hb; have n0_ := Aside0.mk (below_step z1_0 hb); have n1_ := Aside0.mk (hbox); have n2_ := Aside0.mk ((by rw [hg]; exact (below_size z1_0) : w.heap.size ≤ gb101)); have n3_ := Aside0.mk ((by rw [hg]; exact (below_size z1_0) : w.heap.size ≤ gb101)); clear HB; have HB := n0_; have BK101 := n1_; have GW101 := n2_; have GE101 := n3_; clear n0_ n1_ n2_ n3_; clear hb hbox hg; have hcz10_0 : w9.cell? ⟨gb101, 0, none⟩ = some (.slice A0_0 l0_0.length c0_0) := (blk_cell BK101.out 0).trans rfl; have hcz10_1 : w9.cell? ⟨gb101, 1, none⟩ = some (.slice A0_1 l0_1.length c0_1) := (blk_cell BK101.out 1).trans rfl; have hfz10_0 := blk_frozen BK101.out 0; have hfz10_1 := blk_frozen BK101.out 1) | ((with_reducible refine gate_callee (f := 180) rfl ?_); refine goesL_ (some 8) rfl rfl Try.func180 (by kernel_rfl) rfl #[.slice A0_0 l0_0.length c0_0, .int .i64 a1] rfl z1_1 ?_; (with_reducible refine (laws_szIntS.calls _ _ l0_0 a1 t102 _ ?side1 ?side2 A3.out).mono ?_); (case side1 => repeat (first | exact (Kd.C_below HR0_0.out HB.out) | (with_reducible refine Kd.C_alloc ?_ _) | (with_reducible refine Kd.C_drewN ?_ _) | (with_reducible refine Kd.C_drew ?_))); (case side2 => exact HC0_0.out); rintro e w' ⟨rfl, ⟨nd, rfl⟩⟩; refine ⟨_, rfl, ?_⟩) | ((with_reducible refine gate_callee (f := 70) rfl ?_); refine goesL_ (some 14) rfl rfl Try.func70 (by kernel_rfl) rfl #[.slice A0_1 l0_1.length c0_1, .int .i64 t102] rfl z1_1 ?_; (with_reducible refine (laws_szPointS.calls _ _ l0_1 t102 t103 _ ?side1 ?side2 A7.out).mono ?_); (case side1 => repeat (first | exact (Kd.C_below HR0_1.out z1_12) | (with_reducible refine Kd.C_alloc ?_ _) | (with_reducible refine Kd.C_drewN ?_ _) | (with_reducible refine Kd.C_drew ?_))); (case side2 => exact HC0_1.out); rintro e w' ⟨rfl, ⟨nd, rfl⟩⟩; refine ⟨_, rfl, ?_⟩))
   go_ret
   exact ⟨by first | rfl | (simp [errW_none, errW_some] <;> rfl) | (simp [*, errW_none, errW_some] <;> rfl), by repeat (first | (with_reducible first | exact HB.out | apply below_alloc | apply pw_below_drewN | apply below_drew1 | refine below_set ?_ GE101.out) | exact HB.out)⟩
  ·rw [if_neg c8] at H
   have c8b0 : decide (t103 < 0) = false := decide_eq_false c8
   clear c8
   obtain rfl := Option.some.inj H
   simp only [Option.some.injEq, Prod.mk.injEq] at H
   obtain ⟨rfl⟩ := H
   go_enter Try.func179, Try.ntmps179
   go_wp2_with (first | ((with_reducible refine gate_dst (N := 2) rfl ?_); refine box_event ?hg (N := 2) ?hd (cs := #[.slice A0_0 l0_0.length c0_0, .slice A0_1 l0_1.length c0_1]) (t := 168) ?hr ?_; (case hd => rfl); (case hg => rfl); (case hr => first | (go_simp; done) | (go_simp; rfl)); intro gb101 hg w11 hbox hb; have n0_ := Aside0.mk (below_step z1_0 hb); have n1_ := Aside0.mk (hbox); have n2_ := Aside0.mk ((by rw [hg]; exact (below_size z1_0) : w.heap.size ≤ gb101)); have n3_ := Aside0.mk ((by rw [hg]; exact (below_size z1_0) : w.heap.size ≤ gb101)); clear HB; have HB := n0_; have BK101 := n1_; have GW101 := n2_; have GE101 := n3_; clear n0_ n1_ n2_ n3_; clear hb hbox hg; have hcz12_0 : w11.cell? ⟨gb101, 0, none⟩ = some (.slice A0_0 l0_0.length c0_0) := (blk_cell BK101.out 0).trans rfl; have hcz12_1 : w11.cell? ⟨gb101, 1, none⟩ = some (.slice A0_1 l0_1.length c0_1) := (blk_cell BK101.out 1).trans rfl; have hfz12_0 := blk_frozen BK101.out 0; have hfz12_1 := blk_frozen BK101.out 1) | ((with_reducible refine gate_callee (f := 180) rfl ?_); refine goesL_ (some 8) rfl rfl Try.func180 (by kernel_rfl) rfl #[.slice A0_0 l0_0.length c0_0, .int .i64 a1] rfl z1_1 ?_; (with_reducible refine (laws_szIntS.calls _ _ l0_0 a1 t102 _ ?side1 ?side2 A3.out).mono ?_); (case side1 => repeat (first | exact (Kd.C_below HR0_0.out HB.out) | (with_reducible refine Kd.C_alloc ?_ _) | (with_reducible refine Kd.C_drewN ?_ _) | (with_reducible refine Kd.C_drew ?_))); (case side2 => exact HC0_0.out); rintro e w' ⟨rfl, ⟨nd, rfl⟩⟩; refine ⟨_, rfl, ?_⟩) | ((with_reducible refine gate_callee (f := 70) rfl ?_); refine goesL_ (some 14) rfl rfl Try.func70 (by kernel_rfl) rfl #[.slice A0_1 l0_1.length c0_1, .int .i64 t102] rfl z1_1 ?_; (with_reducible refine (laws_szPointS.calls _ _ l0_1 t102 t103 _ ?side1 ?side2 A7.out).mono ?_); (case side1 => repeat (first | exact (Kd.C_below HR0_1.out z1_12) | (with_reducible refine Kd.C_alloc ?_ _) | (with_reducible refine Kd.C_drewN ?_ _) | (with_reducible refine Kd.C_drew ?_))); (case side2 => exact HC0_1.out); rintro e w' ⟨rfl, ⟨nd, rfl⟩⟩; refine ⟨_, rfl, ?_⟩))
   go_ret
   exact ⟨by first | rfl | (simp [errW_none, errW_some] <;> rfl) | (simp [*, errW_none, errW_some] <;> rfl), by repeat (first | (with_reducible first | exact HB.out | apply below_alloc | apply pw_below_drewN | apply below_drew1 | refine below_set ?_ GE101.out) | exact HB.out)⟩

/-! ### laws_szNode: function 160 -/
def laws_szNode.f (a0_0 : Int) (a0_1 : Int) (a0_2 : Bool) (a0_3 : Int) (a0_4 : Int) (a0_5 : Int) (a0_6 : Int) (a0_7 : Int) (a0_8 : Int) (l0_9 : List Int) (l0_10 : List (S157)) (a0_11 : Bool) (a0_12 : Int) (l0_13 : List Int) (a0_14 : Int) (a0_15 : Int) (a0_16 : Int) (a0_17 : Int) (a0_18 : Int) (a0_19 : Int) (a0_20 : Int) (a0_21 : Int) (a0_22 : Int) (a0_23 : Int) (a0_24 : Int) (a0_25 : Int) (a0_26 : Int) (a0_27 : Int) (a0_28 : Int) (l0_29 : List Int) (l0_30 : List (S157)) (a1 : Int) : Option (Int) := (laws_szPath.f l0_9 l0_10 a1).bind fun t105 => (if t105 < 0 then (some (-1)) else ((laws_szIntS.f l0_13 t105).bind fun t106 => (if t106 < 0 then (some (-1)) else ((laws_szPath.f l0_29 l0_30 t106).bind fun t107 => (if t107 < 0 then (some (-1)) else (some t107))))))
set_option maxHeartbeats 8000000 in
set_option maxRecDepth 100000 in
theorem laws_szNode.calls (a0_0 : Int) (a0_1 : Int) (a0_2 : Bool) (a0_3 : Int) (a0_4 : Int) (a0_5 : Int) (a0_6 : Int) (a0_7 : Int) (a0_8 : Int) (A0_9 : Option Addr) (c0_9 : Nat) (l0_9 : List Int) (A0_10 : Option Addr) (c0_10 : Nat) (l0_10 : List (S157)) (a0_11 : Bool) (a0_12 : Int) (A0_13 : Option Addr) (c0_13 : Nat) (l0_13 : List Int) (a0_14 : Int) (a0_15 : Int) (a0_16 : Int) (a0_17 : Int) (a0_18 : Int) (a0_19 : Int) (a0_20 : Int) (a0_21 : Int) (a0_22 : Int) (a0_23 : Int) (a0_24 : Int) (a0_25 : Int) (a0_26 : Int) (a0_27 : Int) (a0_28 : Int) (A0_29 : Option Addr) (c0_29 : Nat) (l0_29 : List Int) (A0_30 : Option Addr) (c0_30 : Nat) (l0_30 : List (S157)) (a1 : Int) (r : Int) (w : World) (hr0_9 : Kd.C (Kd.int .i64) w A0_9 l0_9.length l0_9) (hc0_9 : l0_9.length ≤ c0_9) (hr0_10 : Kd.C k157 w A0_10 l0_10.length l0_10) (hc0_10 : l0_10.length ≤ c0_10) (hr0_13 : Kd.C (Kd.int .i64) w A0_13 l0_13.length l0_13) (hc0_13 : l0_13.length ≤ c0_13) (hr0_29 : Kd.C (Kd.int .i64) w A0_29 l0_29.length l0_29) (hc0_29 : l0_29.length ≤ c0_29) (hr0_30 : Kd.C k157 w A0_30 l0_30.length l0_30) (hc0_30 : l0_30.length ≤ c0_30) (h : laws_szNode.f a0_0 a0_1 a0_2 a0_3 a0_4 a0_5 a0_6 a0_7 a0_8 l0_9 l0_10 a0_11 a0_12 l0_13 a0_14 a0_15 a0_16 a0_17 a0_18 a0_19 a0_20 a0_21 a0_22 a0_23 a0_24 a0_25 a0_26 a0_27 a0_28 l0_29 l0_30 a1 = some r) :
  Calls Try.prog 160 #[.agg #[.int .i64 a0_0, .int .i64 a0_1, .bool a0_2, .int .i64 a0_3, .int .i64 a0_4, .int .i64 a0_5, .int .i64 a0_6, .int .i64 a0_7, .int .i64 a0_8, .slice A0_9 l0_9.length c0_9, .slice A0_10 l0_10.length c0_10, .bool a0_11, .int .i64 a0_12, .slice A0_13 l0_13.length c0_13, .int .i64 a0_14, .int .i64 a0_15, .int .i64 a0_16, .int .i64 a0_17, .int .i64 a0_18, .int .i64 a0_19, .int .i64 a0_20, .int .i64 a0_21, .int .i64 a0_22, .int .i64 a0_23, .int .i64 a0_24, .int .i64 a0_25, .int .i64 a0_26, .int .i64 a0_27, .int .i64 a0_28, .slice A0_29 l0_29.length c0_29, .slice A0_30 l0_30.length c0_30], .int .i64 a1] w fun e w' => e = .returned (.int .i64 r) ∧ Below w.heap.size w w' := by
 have hu173 := Try.underlying173
 have hu168 := Try.underlying168
 have HR0_9 := Aside0.mk hr0_9
 have HC0_9 := Aside0.mk hc0_9
 clear hr0_9 hc0_9
 have HR0_10 := Aside0.mk hr0_10
 have HC0_10 := Aside0.mk hc0_10
 clear hr0_10 hc0_10
 have HR0_13 := Aside0.mk hr0_13
 have HC0_13 := Aside0.mk hc0_13
 clear hr0_13 hc0_13
 have HR0_29 := Aside0.mk hr0_29
 have HC0_29 := Aside0.mk hc0_29
 clear hr0_29 hc0_29
 have HR0_30 := Aside0.mk hr0_30
 have HC0_30 := Aside0.mk hc0_30
 clear hr0_30 hc0_30
 have HB := Aside0.mk (Below.refl w.heap.size w)
 have H : ((laws_szPath.f l0_9 l0_10 a1).bind fun t105 => (if t105 < 0 then (some (-1)) else ((laws_szIntS.f l0_13 t105).bind fun t106 => (if t106 < 0 then (some (-1)) else ((laws_szPath.f l0_29 l0_30 t106).bind fun t107 => (if t107 < 0 then (some (-1)) else (some t107))))))) = some r := h
 clear h
 replace H := Option.bind_eq_some_iff.mp H
 obtain ⟨t105, A30, H⟩ := H
 replace H : (if t105 < 0 then (some (-1)) else ((laws_szIntS.f l0_13 t105).bind fun t106 => (if t106 < 0 then (some (-1)) else ((laws_szPath.f l0_29 l0_30 t106).bind fun t107 => (if t107 < 0 then (some (-1)) else (some t107)))))) = some r := H
 have A3 := Aside0.mk A30
 clear A30
 by_cases c4 : t105 < 0
 ·rw [if_pos c4] at H
  have c4b0 : decide (t105 < 0) = true := decide_eq_true c4
  clear c4
  obtain rfl := Option.some.inj H
  simp only [Option.some.injEq, Prod.mk.injEq] at H
  obtain ⟨rfl⟩ := H
  go_enter Try.func160, Try.ntmps160
  go_wp2_with (first | ((with_reducible refine gate_dst (N := 2) rfl ?_); refine box_event ?hg (N := 2) ?hd (cs := #[.int .i64 a0_0, .int .i64 a0_1, .bool a0_2, .int .i64 a0_3, .int .i64 a0_4, .int .i64 a0_5, .int .i64 a0_6, .int .i64 a0_7, .int .i64 a0_8, .slice A0_9 l0_9.length c0_9, .slice A0_10 l0_10.length c0_10, .bool a0_11, .int .i64 a0_12, .slice A0_13 l0_13.length c0_13, .int .i64 a0_14, .int .i64 a0_15, .int .i64 a0_16, .int .i64 a0_17, .int .i64 a0_18, .int .i64 a0_19, .int .i64 a0_20, .int .i64 a0_21, .int .i64 a0_22, .int .i64 a0_23, .int .i64 a0_24, .int .i64 a0_25, .int .i64 a0_26, .int .i64 a0_27, .int .i64 a0_28, .slice A0_29 l0_29.length c0_29, .slice A0_30 l0_30.length c0_30]) (t := 173) ?hr ?_; (case hd => rfl); (case hg => rfl); (case hr => first | (go_simp; done) | (go_simp; rfl)); intro gb104 hg w5 hbox hb; have n0_ := Aside0.mk (below_step z1_0 hb); have n1_ := Aside0.mk (hbox); have n2_ := Aside0.mk ((by rw [hg]; exact (below_size z1_0) : w.heap.size ≤ gb104)); have n3_ := Aside0.mk ((by rw [hg]; exact (below_size z1_0) : w.heap.size ≤ gb104)); clear HB; have HB := n0_; have BK104 := n1_; have GW104 := n2_; have GE104 := n3_; clear n0_ n1_ n2_ n3_; clear hb hbox hg; have hcz6_0 : w5.cell? ⟨gb104, 0, none⟩ = some (.int .i64 a0_0) := (blk_cell BK104.out 0).trans rfl; have hcz6_1 : w5.cell? ⟨gb104, 1, none⟩ = some (.int .i64 a0_1) := (blk_cell BK104.out 1).trans rfl; have hcz6_2 : w5.cell? ⟨gb104, 2, none⟩ = some (.bool a0_2) := (blk_cell BK104.out 2).trans rfl; have hcz6_3 : w5.cell? ⟨gb104, 3, none⟩ = some (.int .i64 a0_3) := (blk_cell BK104.out 3).trans rfl; have hcz6_4 : w5.cell? ⟨gb104, 4, none⟩ = some (.int .i64 a0_4) := (blk_cell BK104.out 4).trans rfl; have hcz6_5 : w5.cell? ⟨gb104, 5, none⟩ = some (.int .i64 a0_5) := (blk_cell BK104.out 5).trans rfl; have hcz6_6 : w5.cell? ⟨gb104, 6, none⟩ = some (.int .i64 a0_6) := (blk_cell BK104.out 6).trans rfl; have hcz6_7 : w5.cell? ⟨gb104, 7, none⟩ = some (.int .i64 a0_7) := (blk_cell BK104.out 7).trans rfl; have hcz6_8 : w5.cell? ⟨gb104, 8, none⟩ = some (.int .i64 a0_8) := (blk_cell BK104.out 8).trans rfl; have hcz6_9 : w5.cell? ⟨gb104, 9, none⟩ = some (.slice A0_9 l0_9.length c0_9) := (blk_cell BK104.out 9).trans rfl; have hcz6_10 : w5.cell? ⟨gb104, 10, none⟩ = some (.slice A0_10 l0_10.length c0_10) := (blk_cell BK104.out 10).trans rfl; have hcz6_11 : w5.cell? ⟨gb104, 11, none⟩ = some (.bool a0_11) := (blk_cell BK104.out 11).trans rfl; have hcz6_12 : w5.cell? ⟨gb104, 12, none⟩ = some (.int .i64 a0_12) := (blk_cell BK104.out 12).trans rfl; have hcz6_13 : w5.cell? ⟨gb104, 13, none⟩ = some (.slice A0_13 l0_13.length c0_13) := (blk_cell BK104.out 13).trans rfl; have hcz6_14 : w5.cell? ⟨gb104, 14, none⟩ = some (.int .i64 a0_14) := (blk_cell BK104.out 14).trans rfl; have hcz6_15 : w5.cell? ⟨gb104, 15, none⟩ = some (.int .i64 a0_15) := (blk_cell BK104.out 15).trans rfl; have hcz6_16 : w5.cell? ⟨gb104, 16, none⟩ = some (.int .i64 a0_16) := (blk_cell BK104.out 16).trans rfl; have hcz6_17 : w5.cell? ⟨gb104, 17, none⟩ = some (.int .i64 a0_17) := (blk_cell BK104.out 17).trans rfl; have hcz6_18 : w5.cell? ⟨gb104, 18, none⟩ = some (.int .i64 a0_18) := (blk_cell BK104.out 18).trans rfl; have hcz6_19 : w5.cell? ⟨gb104, 19, none⟩ = some (.int .i64 a0_19) := (blk_cell BK104.out 19).trans rfl; have hcz6_20 : w5.cell? ⟨gb104, 20, none⟩ = some (.int .i64 a0_20) := (blk_cell BK104.out 20).trans rfl; have hcz6_21 : w5.cell? ⟨gb104, 21, none⟩ = some (.int .i64 a0_21) := (blk_cell BK104.out 21).trans rfl; have hcz6_22 : w5.cell? ⟨gb104, 22, none⟩ = some (.int .i64 a0_22) := (blk_cell BK104.out 22).trans rfl; have hcz6_23 : w5.cell? ⟨gb104, 23, none⟩ = some (.int .i64 a0_23) := (blk_cell BK104.out 23).trans rfl; have hcz6_24 : w5.cell? ⟨gb104, 24, none⟩ = some (.int .i64 a0_24) := (blk_cell BK104.out 24).trans rfl; have hcz6_25 : w5.cell? ⟨gb104, 25, none⟩ = some (.int .i64 a0_25) := (blk_cell BK104.out 25).trans rfl; have hcz6_26 : w5.cell? ⟨gb104, 26, none⟩ = some (.int .i64 a0_26) := (blk_cell BK104.out 26).trans rfl; have hcz6_27 : w5.cell? ⟨gb104, 27, none⟩ = some (.int .i64 a0_27) := (blk_cell BK104.out 27).trans rfl; have hcz6_28 : w5.cell? ⟨gb104, 28, none⟩ = some (.int .i64 a0_28) := (blk_cell BK104.out 28).trans rfl; have hcz6_29 : w5.cell? ⟨gb104, 29, none⟩ = some (.slice A0_29 l0_29.length c0_29) := (blk_cell BK104.out 29).trans rfl; have hcz6_30 : w5.cell? ⟨gb104, 30, none⟩ = some (.slice A0_30 l0_30.length c0_30) := (blk_cell BK104.out 30).trans rfl; have hfz6_0 := blk_frozen BK104.out 0; have hfz6_1 := blk_frozen BK104.out 1; have hfz6_2 := blk_frozen BK104.out 2; have hfz6_3 := blk_frozen BK104.out 3; have hfz6_4 := blk_frozen BK104.out 4; have hfz6_5 := blk_frozen BK104.out 5; have hfz6_6 := blk_frozen BK104.out 6; have hfz6_7 := blk_frozen BK104.out 7; have hfz6_8 := blk_frozen BK104.out 8; have hfz6_9 := blk_frozen BK104.out 9; have hfz6_10 := blk_frozen BK104.out 10; have hfz6_11 := blk_frozen BK104.out 11; have hfz6_12 := blk_frozen BK104.out 12; have hfz6_13 := blk_frozen BK104.out 13; have hfz6_14 := blk_frozen BK104.out 14; have hfz6_15 := blk_frozen BK104.out 15; have hfz6_16 := blk_frozen BK104.out 16; have hfz6_17 := blk_frozen BK104.out 17; have hfz6_18 := blk_frozen BK104.out 18; have hfz6_19 := blk_frozen BK104.out 19; have hfz6_20 := blk_frozen BK104.out 20; have hfz6_21 := blk_frozen BK104.out 21; have hfz6_22 := blk_frozen BK104.out 22; have hfz6_23 := blk_frozen BK104.out 23; have hfz6_24 := blk_frozen BK104.out 24; have hfz6_25 := blk_frozen BK104.out 25; have hfz6_26 := blk_frozen BK104.out 26; have hfz6_27 := blk_frozen BK104.out 27; have hfz6_28 := blk_frozen BK104.out 28; have hfz6_29 := blk_frozen BK104.out 29; have hfz6_30 := blk_frozen BK104.out 30) | ((with_reducible refine gate_callee (f := 179) rfl ?_); refine goesL_ (some 8) rfl rfl Try.func179 (by kernel_rfl) rfl #[.agg #[.slice A0_9 l0_9.length c0_9, .slice A0_10 l0_10.length c0_10], .int .i64 a1] rfl z1_1 ?_; (with_reducible refine (laws_szPath.calls _ _ l0_9 _ _ l0_10 a1 t105 _ ?side1 ?side2 ?side3 ?side4 A3.out).mono ?_); (case side1 => repeat (first | exact (Kd.C_below HR0_9.out HB.out) | (with_reducible refine Kd.C_alloc ?_ _) | (with_reducible refine Kd.C_drewN ?_ _) | (with_reducible refine Kd.C_drew ?_))); (case side2 => exact HC0_9.out); (case side3 => repeat (first | exact (Kd.C_below HR0_10.out HB.out) | (with_reducible refine Kd.C_alloc ?_ _) | (with_reducible refine Kd.C_drewN ?_ _) | (with_reducible refine Kd.C_drew ?_))); (case side4 => exact HC0_10.out); rintro e w7 ⟨rfl, hb⟩; refine ⟨_, rfl, ?_⟩; have n0_ := Aside0.mk (blk_below (g := gb104) (o := .cells #[.int .i64 a0_0, .int .i64 a0_1, .bool a0_2, .int .i64 a0_3, .int .i64 a0_4, .int .i64 a0_5, .int .i64 a0_6, .int .i64 a0_7, .int .i64 a0_8, .slice A0_9 l0_9.length c0_9, .slice A0_10 l0_10.length c0_10, .bool a0_11, .int .i64 a0_12, .slice A0_13 l0_13.length c0_13, .int .i64 a0_14, .int .i64 a0_15, .int .i64 a0_16, .int .i64 a0_17, .int .i64 a0_18, .int .i64 a0_19, .int .i64 a0_20, .int .i64 a0_21, .int .i64 a0_22, .int .i64 a0_23, .int .i64 a0_24, .int .i64 a0_25, .int .i64 a0_26, .int .i64 a0_27, .int .i64 a0_28, .slice A0_29 l0_29.length c0_29, .slice A0_30 l0_30.length c0_30] 173 (0, 0)) z1_3 hb); have n1_ := Aside0.mk (below_step z1_2 hb); clear BK104; clear HB; have BK104 := n0_; have HB := n1_; clear n0_ n1_; (try clear hb); (try clear hb2); (try clear hk); (try clear hi)))
  go_ret
  exact ⟨by first | rfl | (simp [errW_none, errW_some] <;> rfl) | (simp [*, errW_none, errW_some] <;> rfl), by repeat (first | (with_reducible first | exact HB.out | apply below_alloc | apply pw_below_drewN | apply below_drew1 | refine below_set ?_ GE104.out) | exact HB.out)⟩
 ·rw [if_neg c4] at H
  have c4b0 : decide (t105 < 0) = false := decide_eq_false c4
  clear c4
  replace H := Option.bind_eq_some_iff.mp H
  obtain ⟨t106, A80, H⟩ := H
  replace H : (if t106 < 0 then (some (-1)) else ((laws_szPath.f l0_29 l0_30 t106).bind fun t107 => (if t107 < 0 then (some (-1)) else (some t107)))) = some r := H
  have A8 := Aside0.mk A80
  clear A80
  by_cases c9 : t106 < 0
  ·rw [if_pos c9] at H
   have c9b0 : decide (t106 < 0) = true := decide_eq_true c9
   clear c9
   obtain rfl := Option.some.inj H
   simp only [Option.some.injEq, Prod.mk.injEq] at H
   obtain ⟨rfl⟩ := H
   go_enter Try.func160, Try.ntmps160
   go_wp2_with (first | ((with_reducible refine gate_dst (N := 2) rfl ?_); refine box_event ?hg (N := 2) ?hd (cs := #[.int .i64 a0_0, .int .i64 a0_1, .bool a0_2, .int .i64 a0_3, .int .i64 a0_4, .int .i64 a0_5, .int .i64 a0_6, .int .i64 a0_7, .int .i64 a0_8, .slice A0_9 l0_9.length c0_9, .slice A0_10 l0_10.length c0_10, .bool a0_11, .int .i64 a0_12, .slice A0_13 l0_13.length c0_13, .int .i64 a0_14, .int .i64 a0_15, .int .i64 a0_16, .int .i64 a0_17, .int .i64 a0_18, .int .i64 a0_19, .int .i64 a0_20, .int .i64 a0_21, .int .i64 a0_22, .int .i64 a0_23, .int .i64 a0_24, .int .i64 a0_25, .int .i64 a0_26, .int .i64 a0_27, .int .i64 a0_28, .slice A0_29 l0_29.length c0_29, .slice A0_30 l0_30.length c0_30]) (t := 173) ?hr ?_; (case hd => rfl); (case hg => rfl); (case hr => first | (go_simp; done) | (go_simp; rfl)); intro gb104 hg w10 hbox hb; have n0_ := Aside0.mk (below_step z1_0 hb); have n1_ := Aside0.mk (hbox); have n2_ := Aside0.mk ((by rw [hg]; exact (below_size z1_0) : w.heap.size ≤ gb104)); have n3_ := Aside0.mk ((by rw [hg]; exact (below_size z1_0) : w.heap.size ≤ gb104)); clear HB; have HB := n0_; have BK104 := n1_; have GW104 := n2_; have GE104 := n3_; clear n0_ n1_ n2_ n3_; clear hb hbox hg; have hcz11_0 : w10.cell? ⟨gb104, 0, none⟩ = some (.int .i64 a0_0) := (blk_cell BK104.out 0).trans rfl; have hcz11_1 : w10.cell? ⟨gb104, 1, none⟩ = some (.int .i64 a0_1) := (blk_cell BK104.out 1).trans rfl; have hcz11_2 : w10.cell? ⟨gb104, 2, none⟩ = some (.bool a0_2) := (blk_cell BK104.out 2).trans rfl; have hcz11_3 : w10.cell? ⟨gb104, 3, none⟩ = some (.int .i64 a0_3) := (blk_cell BK104.out 3).trans rfl; have hcz11_4 : w10.cell? ⟨gb104, 4, none⟩ = some (.int .i64 a0_4) := (blk_cell BK104.out 4).trans rfl; have hcz11_5 : w10.cell? ⟨gb104, 5, none⟩ = some (.int .i64 a0_5) := (blk_cell BK104.out 5).trans rfl; have hcz11_6 : w10.cell? ⟨gb104, 6, none⟩ = some (.int .i64 a0_6) := (blk_cell BK104.out 6).trans rfl; have hcz11_7 : w10.cell? ⟨gb104, 7, none⟩ = some (.int .i64 a0_7) := (blk_cell BK104.out 7).trans rfl; have hcz11_8 : w10.cell? ⟨gb104, 8, none⟩ = some (.int .i64 a0_8) := (blk_cell BK104.out 8).trans rfl; have hcz11_9 : w10.cell? ⟨gb104, 9, none⟩ = some (.slice A0_9 l0_9.length c0_9) := (blk_cell BK104.out 9).trans rfl; have hcz11_10 : w10.cell? ⟨gb104, 10, none⟩ = some (.slice A0_10 l0_10.length c0_10) := (blk_cell BK104.out 10).trans rfl; have hcz11_11 : w10.cell? ⟨gb104, 11, none⟩ = some (.bool a0_11) := (blk_cell BK104.out 11).trans rfl; have hcz11_12 : w10.cell? ⟨gb104, 12, none⟩ = some (.int .i64 a0_12) := (blk_cell BK104.out 12).trans rfl; have hcz11_13 : w10.cell? ⟨gb104, 13, none⟩ = some (.slice A0_13 l0_13.length c0_13) := (blk_cell BK104.out 13).trans rfl; have hcz11_14 : w10.cell? ⟨gb104, 14, none⟩ = some (.int .i64 a0_14) := (blk_cell BK104.out 14).trans rfl; have hcz11_15 : w10.cell? ⟨gb104, 15, none⟩ = some (.int .i64 a0_15) := (blk_cell BK104.out 15).trans rfl; have hcz11_16 : w10.cell? ⟨gb104, 16, none⟩ = some (.int .i64 a0_16) := (blk_cell BK104.out 16).trans rfl; have hcz11_17 : w10.cell? ⟨gb104, 17, none⟩ = some (.int .i64 a0_17) := (blk_cell BK104.out 17).trans rfl; have hcz11_18 : w10.cell? ⟨gb104, 18, none⟩ = some (.int .i64 a0_18) := (blk_cell BK104.out 18).trans rfl; have hcz11_19 : w10.cell? ⟨gb104, 19, none⟩ = some (.int .i64 a0_19) := (blk_cell BK104.out 19).trans rfl; have hcz11_20 : w10.cell? ⟨gb104, 20, none⟩ = some (.int .i64 a0_20) := (blk_cell BK104.out 20).trans rfl; have hcz11_21 : w10.cell? ⟨gb104, 21, none⟩ = some (.int .i64 a0_21) := (blk_cell BK104.out 21).trans rfl; have hcz11_22 : w10.cell? ⟨gb104, 22, none⟩ = some (.int .i64 a0_22) := (blk_cell BK104.out 22).trans rfl; have hcz11_23 : w10.cell? ⟨gb104, 23, none⟩ = some (.int .i64 a0_23) := (blk_cell BK104.out 23).trans rfl; have hcz11_24 : w10.cell? ⟨gb104, 24, none⟩ = some (.int .i64 a0_24) := (blk_cell BK104.out 24).trans rfl; have hcz11_25 : w10.cell? ⟨gb104, 25, none⟩ = some (.int .i64 a0_25) := (blk_cell BK104.out 25).trans rfl; have hcz11_26 : w10.cell? ⟨gb104, 26, none⟩ = some (.int .i64 a0_26) := (blk_cell BK104.out 26).trans rfl; have hcz11_27 : w10.cell? ⟨gb104, 27, none⟩ = some (.int .i64 a0_27) := (blk_cell BK104.out 27).trans rfl; have hcz11_28 : w10.cell? ⟨gb104, 28, none⟩ = some (.int .i64 a0_28) := (blk_cell BK104.out 28).trans rfl; have hcz11_29 : w10.cell? ⟨gb104, 29, none⟩ = some (.slice A0_29 l0_29.length c0_29) := (blk_cell BK104.out 29).trans rfl; have hcz11_30 : w10.cell? ⟨gb104, 30, none⟩ = some (.slice A0_30 l0_30.length c0_30) := (blk_cell BK104.out 30).trans rfl; have hfz11_0 := blk_frozen BK104.out 0; have hfz11_1 := blk_frozen BK104.out 1; have hfz11_2 := blk_frozen BK104.out 2; have hfz11_3 := blk_frozen BK104.out 3; have hfz11_4 := blk_frozen BK104.out 4; have hfz11_5 := blk_frozen BK104.out 5; have hfz11_6 := blk_frozen BK104.out 6; have hfz11_7 := blk_frozen BK104.out 7; have hfz11_8 := blk_frozen BK104.out 8; have hfz11_9 := blk_frozen BK104.out 9; have hfz11_10 := blk_frozen BK104.out 10; have hfz11_11 := blk_frozen BK104.out 11; have hfz11_12 := blk_frozen BK104.out 12; have hfz11_13 := blk_frozen BK104.out 13; have hfz11_14 := blk_frozen BK104.out 14; have hfz11_15 := blk_frozen BK104.out 15; have hfz11_16 := blk_frozen BK104.out 16; have hfz11_17 := blk_frozen BK104.out 17; have hfz11_18 := blk_frozen BK104.out 18; have hfz11_19 := blk_frozen BK104.out 19; have hfz11_20 := blk_frozen BK104.out 20; have hfz11_21 := blk_frozen BK104.out 21; have hfz11_22 := blk_frozen BK104.out 22; have hfz11_23 := blk_frozen BK104.out 23; have hfz11_24 := blk_frozen BK104.out 24; have hfz11_25 := blk_frozen BK104.out 25; have hfz11_26 := blk_frozen BK104.out 26; have hfz11_27 := blk_frozen BK104.out 27; have hfz11_28 := blk_frozen BK104.out 28; have hfz11_29 := blk_frozen BK104.out 29; have hfz11_30 := blk_frozen BK104.out 30) | ((with_reducible refine gate_callee (f := 179) rfl ?_); refine goesL_ (some 8) rfl rfl Try.func179 (by kernel_rfl) rfl #[.agg #[.slice A0_9 l0_9.length c0_9, .slice A0_10 l0_10.length c0_10], .int .i64 a1] rfl z1_1 ?_; (with_reducible refine (laws_szPath.calls _ _ l0_9 _ _ l0_10 a1 t105 _ ?side1 ?side2 ?side3 ?side4 A3.out).mono ?_); (case side1 => repeat (first | exact (Kd.C_below HR0_9.out HB.out) | (with_reducible refine Kd.C_alloc ?_ _) | (with_reducible refine Kd.C_drewN ?_ _) | (with_reducible refine Kd.C_drew ?_))); (case side2 => exact HC0_9.out); (case side3 => repeat (first | exact (Kd.C_below HR0_10.out HB.out) | (with_reducible refine Kd.C_alloc ?_ _) | (with_reducible refine Kd.C_drewN ?_ _) | (with_reducible refine Kd.C_drew ?_))); (case side4 => exact HC0_10.out); rintro e w12 ⟨rfl, hb⟩; refine ⟨_, rfl, ?_⟩; have n0_ := Aside0.mk (blk_below (g := gb104) (o := .cells #[.int .i64 a0_0, .int .i64 a0_1, .bool a0_2, .int .i64 a0_3, .int .i64 a0_4, .int .i64 a0_5, .int .i64 a0_6, .int .i64 a0_7, .int .i64 a0_8, .slice A0_9 l0_9.length c0_9, .slice A0_10 l0_10.length c0_10, .bool a0_11, .int .i64 a0_12, .slice A0_13 l0_13.length c0_13, .int .i64 a0_14, .int .i64 a0_15, .int .i64 a0_16, .int .i64 a0_17, .int .i64 a0_18, .int .i64 a0_19, .int .i64 a0_20, .int .i64 a0_21, .int .i64 a0_22, .int .i64 a0_23, .int .i64 a0_24, .int .i64 a0_25, .int .i64 a0_26, .int .i64 a0_27, .int .i64 a0_28, .slice A0_29 l0_29.length c0_29, .slice A0_30 l0_30.length c0_30] 173 (0, 0)) z1_3 hb); have n1_ := Aside0.mk (below_step z1_2 hb); clear BK104; clear HB; have BK104 := n0_; have HB := n1_; clear n0_ n1_; (try clear hb); (try clear hb2); (try clear hk); (try clear hi); have hcz13_0 : w12.cell? ⟨gb104, 0, none⟩ = some (.int .i64 a0_0) := (blk_cell BK104.out 0).trans rfl; have hcz13_1 : w12.cell? ⟨gb104, 1, none⟩ = some (.int .i64 a0_1) := (blk_cell BK104.out 1).trans rfl; have hcz13_2 : w12.cell? ⟨gb104, 2, none⟩ = some (.bool a0_2) := (blk_cell BK104.out 2).trans rfl; have hcz13_3 : w12.cell? ⟨gb104, 3, none⟩ = some (.int .i64 a0_3) := (blk_cell BK104.out 3).trans rfl; have hcz13_4 : w12.cell? ⟨gb104, 4, none⟩ = some (.int .i64 a0_4) := (blk_cell BK104.out 4).trans rfl; have hcz13_5 : w12.cell? ⟨gb104, 5, none⟩ = some (.int .i64 a0_5) := (blk_cell BK104.out 5).trans rfl; have hcz13_6 : w12.cell? ⟨gb104, 6, none⟩ = some (.int .i64 a0_6) := (blk_cell BK104.out 6).trans rfl; have hcz13_7 : w12.cell? ⟨gb104, 7, none⟩ = some (.int .i64 a0_7) := (blk_cell BK104.out 7).trans rfl; have hcz13_8 : w12.cell? ⟨gb104, 8, none⟩ = some (.int .i64 a0_8) := (blk_cell BK104.out 8).trans rfl; have hcz13_9 : w12.cell? ⟨gb104, 9, none⟩ = some (.slice A0_9 l0_9.length c0_9) := (blk_cell BK104.out 9).trans rfl; have hcz13_10 : w12.cell? ⟨gb104, 10, none⟩ = some (.slice A0_10 l0_10.length c0_10) := (blk_cell BK104.out 10).trans rfl; have hcz13_11 : w12.cell? ⟨gb104, 11, none⟩ = some (.bool a0_11) := (blk_cell BK104.out 11).trans rfl; have hcz13_12 : w12.cell? ⟨gb104, 12, none⟩ = some (.int .i64 a0_12) := (blk_cell BK104.out 12).trans rfl; have hcz13_13 : w12.cell? ⟨gb104, 13, none⟩ = some (.slice A0_13 l0_13.length c0_13) := (blk_cell BK104.out 13).trans rfl; have hcz13_14 : w12.cell? ⟨gb104, 14, none⟩ = some (.int .i64 a0_14) := (blk_cell BK104.out 14).trans rfl; have hcz13_15 : w12.cell? ⟨gb104, 15, none⟩ = some (.int .i64 a0_15) := (blk_cell BK104.out 15).trans rfl; have hcz13_16 : w12.cell? ⟨gb104, 16, none⟩ = some (.int .i64 a0_16) := (blk_cell BK104.out 16).trans rfl; have hcz13_17 : w12.cell? ⟨gb104, 17, none⟩ = some (.int .i64 a0_17) := (blk_cell BK104.out 17).trans rfl; have hcz13_18 : w12.cell? ⟨gb104, 18, none⟩ = some (.int .i64 a0_18) := (blk_cell BK104.out 18).trans rfl; have hcz13_19 : w12.cell? ⟨gb104, 19, none⟩ = some (.int .i64 a0_19) := (blk_cell BK104.out 19).trans rfl; have hcz13_20 : w12.cell? ⟨gb104, 20, none⟩ = some (.int .i64 a0_20) := (blk_cell BK104.out 20).trans rfl; have hcz13_21 : w12.cell? ⟨gb104, 21, none⟩ = some (.int .i64 a0_21) := (blk_cell BK104.out 21).trans rfl; have hcz13_22 : w12.cell? ⟨gb104, 22, none⟩ = some (.int .i64 a0_22) := (blk_cell BK104.out 22).trans rfl; have hcz13_23 : w12.cell? ⟨gb104, 23, none⟩ = some (.int .i64 a0_23) := (blk_cell BK104.out 23).trans rfl; have hcz13_24 : w12.cell? ⟨gb104, 24, none⟩ = some (.int .i64 a0_24) := (blk_cell BK104.out 24).trans rfl; have hcz13_25 : w12.cell? ⟨gb104, 25, none⟩ = some (.int .i64 a0_25) := (blk_cell BK104.out 25).trans rfl; have hcz13_26 : w12.cell? ⟨gb104, 26, none⟩ = some (.int .i64 a0_26) := (blk_cell BK104.out 26).trans rfl; have hcz13_27 : w12.cell? ⟨gb104, 27, none⟩ = some (.int .i64 a0_27) := (blk_cell BK104.out 27).trans rfl; have hcz13_28 : w12.cell? ⟨gb104, 28, none⟩ = some (.int .i64 a0_28) := (blk_cell BK104.out 28).trans rfl; have hcz13_29 : w12.cell? ⟨gb104, 29, none⟩ = some (.slice A0_29 l0_29.length c0_29) := (blk_cell BK104.out 29).trans rfl; have hcz13_30 : w12.cell? ⟨gb104, 30, none⟩ = some (.slice A0_30 l0_30.length c0_30) := (blk_cell BK104.out 30).trans rfl; have hfz13_0 := blk_frozen BK104.out 0; have hfz13_1 := blk_frozen BK104.out 1; have hfz13_2 := blk_frozen BK104.out 2; have hfz13_3 := blk_frozen BK104.out 3; have hfz13_4 := blk_frozen BK104.out 4; have hfz13_5 := blk_frozen BK104.out 5; have hfz13_6 := blk_frozen BK104.out 6; have hfz13_7 := blk_frozen BK104.out 7; have hfz13_8 := blk_frozen BK104.out 8; have hfz13_9 := blk_frozen BK104.out 9; have hfz13_10 := blk_frozen BK104.out 10; have hfz13_11 := blk_frozen BK104.out 11; have hfz13_12 := blk_frozen BK104.out 12; have hfz13_13 := blk_frozen BK104.out 13; have hfz13_14 := blk_frozen BK104.out 14; have hfz13_15 := blk_frozen BK104.out 15; have hfz13_16 := blk_frozen BK104.out 16; have hfz13_17 := blk_frozen BK104.out 17; have hfz13_18 := blk_frozen BK104.out 18; have hfz13_19 := blk_frozen BK104.out 19; have hfz13_20 := blk_frozen BK104.out 20; have hfz13_21 := blk_frozen BK104.out 21; have hfz13_22 := blk_frozen BK104.out 22; have hfz13_23 := blk_frozen BK104.out 23; have hfz13_24 := blk_frozen BK104.out 24; have hfz13_25 := blk_frozen BK104.out 25; have hfz13_26 := blk_frozen BK104.out 26; have hfz13_27 := blk_frozen BK104.out 27; have hfz13_28 := blk_frozen BK104.out 28; have hfz13_29 := blk_frozen BK104.out 29; have hfz13_30 := blk_frozen BK104.out 30) | ((with_reducible refine gate_callee (f := 180) rfl ?_); refine goesL_ (some 14) rfl rfl Try.func180 (by kernel_rfl) rfl #[.slice A0_13 l0_13.length c0_13, .int .i64 t105] rfl z1_1 ?_; (with_reducible refine (laws_szIntS.calls _ _ l0_13 t105 t106 _ ?side1 ?side2 A8.out).mono ?_); (case side1 => repeat (first | exact (Kd.C_below HR0_13.out HB.out) | (with_reducible refine Kd.C_alloc ?_ _) | (with_reducible refine Kd.C_drewN ?_ _) | (with_reducible refine Kd.C_drew ?_))); (case side2 => exact HC0_13.out); rintro e w' ⟨rfl, ⟨nd, rfl⟩⟩; refine ⟨_, rfl, ?_⟩))
   go_ret
   exact ⟨by first | rfl | (simp [errW_none, errW_some] <;> rfl) | (simp [*, errW_none, errW_some] <;> rfl), by repeat (first | (with_reducible first | exact HB.out | apply below_alloc | apply pw_below_drewN | apply below_drew1 | refine below_set ?_ GE104.out) | exact HB.out)⟩
  ·rw [if_neg c9] at H
   have c9b0 : decide (t106 < 0) = false := decide_eq_false c9
   clear c9
   replace H := Option.bind_eq_some_iff.mp H
   obtain ⟨t107, A140, H⟩ := H
   replace H : (if t107 < 0 then (some (-1)) else (some t107)) = some r := H
   have A14 := Aside0.mk A140
   clear A140
   by_cases c15 : t107 < 0
   ·rw [if_pos c15] at H
    have c15b0 : decide (t107 < 0) = true := decide_eq_true c15
    clear c15
    obtain rfl := Option.some.inj H
    simp only [Option.some.injEq, Prod.mk.injEq] at H
    obtain ⟨rfl⟩ := H
    go_enter Try.func160, Try.ntmps160
    go_wp2_with (first | ((with_reducible refine gate_dst (N := 2) rfl ?_); refine box_event ?hg (N := 2) ?hd (cs := #[.int .i64 a0_0, .int .i64 a0_1, .bool a0_2, .int .i64 a0_3, .int .i64 a0_4, .int .i64 a0_5, .int .i64 a0_6, .int .i64 a0_7, .int .i64 a0_8, .slice A0_9 l0_9.length c0_9, .slice A0_10 l0_10.length c0_10, .bool a0_11, .int .i64 a0_12, .slice A0_13 l0_13.length c0_13, .int .i64 a0_14, .int .i64 a0_15, .int .i64 a0_16, .int .i64 a0_17, .int .i64 a0_18, .int .i64 a0_19, .int .i64 a0_20, .int .i64 a0_21, .int .i64 a0_22, .int .i64 a0_23, .int .i64 a0_24, .int .i64 a0_25, .int .i64 a0_26, .int .i64 a0_27, .int .i64 a0_28, .slice A0_29 l0_29.length c0_29, .slice A0_30 l0_30.length c0_30]) (t := 173) ?hr ?_; (case hd => rfl); (case hg => rfl); (case hr => first | (go_simp; done) | (go_simp; rfl)); intro gb104 hg w16 hbox hb; have n0_ := Aside0.mk (below_step z1_0 hb); have n1_ := Aside0.mk (hbox); have n2_ := Aside0.mk ((by rw [hg]; exact (below_size z1_0) : w.heap.size ≤ gb104)); have n3_ := Aside0.mk ((by rw [hg]; exact (below_size z1_0) : w.heap.size ≤ gb104)); clear HB; have HB := n0_; have BK104 := n1_; have GW104 := n2_; have GE104 := n3_; clear n0_ n1_ n2_ n3_; clear hb hbox hg; have hcz17_0 : w16.cell? ⟨gb104, 0, none⟩ = some (.int .i64 a0_0) := (blk_cell BK104.out 0).trans rfl; have hcz17_1 : w16.cell? ⟨gb104, 1, none⟩ = some (.int .i64 a0_1) := (blk_cell BK104.out 1).trans rfl; have hcz17_2 : w16.cell? ⟨gb104, 2, none⟩ = some (.bool a0_2) := (blk_cell BK104.out 2).trans rfl; have hcz17_3 : w16.cell? ⟨gb104, 3, none⟩ = some (.int .i64 a0_3) := (blk_cell BK104.out 3).trans rfl; have hcz17_4 : w16.cell? ⟨gb104, 4, none⟩ = some (.int .i64 a0_4) := (blk_cell BK104.out 4).trans rfl; have hcz17_5 : w16.cell? ⟨gb104, 5, none⟩ = some (.int .i64 a0_5) := (blk_cell BK104.out 5).trans rfl; have hcz17_6 : w16.cell? ⟨gb104, 6, none⟩ = some (.int .i64 a0_6) := (blk_cell BK104.out 6).trans rfl; have hcz17_7 : w16.cell? ⟨gb104, 7, none⟩ = some (.int .i64 a0_7) := (blk_cell BK104.out 7).trans rfl; have hcz17_8 : w16.cell? ⟨gb104, 8, none⟩ = some (.int .i64 a0_8) := (blk_cell BK104.out 8).trans rfl; have hcz17_9 : w16.cell? ⟨gb104, 9, none⟩ = some (.slice A0_9 l0_9.length c0_9) := (blk_cell BK104.out 9).trans rfl; have hcz17_10 : w16.cell? ⟨gb104, 10, none⟩ = some (.slice A0_10 l0_10.length c0_10) := (blk_cell BK104.out 10).trans rfl; have hcz17_11 : w16.cell? ⟨gb104, 11, none⟩ = some (.bool a0_11) := (blk_cell BK104.out 11).trans rfl; have hcz17_12 : w16.cell? ⟨gb104, 12, none⟩ = some (.int .i64 a0_12) := (blk_cell BK104.out 12).trans rfl; have hcz17_13 : w16.cell? ⟨gb104, 13, none⟩ = some (.slice A0_13 l0_13.length c0_13) := (blk_cell BK104.out 13).trans rfl; have hcz17_14 : w16.cell? ⟨gb104, 14, none⟩ = some (.int .i64 a0_14) := (blk_cell BK104.out 14).trans rfl; have hcz17_15 : w16.cell? ⟨gb104, 15, none⟩ = some (.int .i64 a0_15) := (blk_cell BK104.out 15).trans rfl; have hcz17_16 : w16.cell? ⟨gb104, 16, none⟩ = some (.int .i64 a0_16) := (blk_cell BK104.out 16).trans rfl; have hcz17_17 : w16.cell? ⟨gb104, 17, none⟩ = some (.int .i64 a0_17) := (blk_cell BK104.out 17).trans rfl; have hcz17_18 : w16.cell? ⟨gb104, 18, none⟩ = some (.int .i64 a0_18) := (blk_cell BK104.out 18).trans rfl; have hcz17_19 : w16.cell? ⟨gb104, 19, none⟩ = some (.int .i64 a0_19) := (blk_cell BK104.out 19).trans rfl; have hcz17_20 : w16.cell? ⟨gb104, 20, none⟩ = some (.int .i64 a0_20) := (blk_cell BK104.out 20).trans rfl; have hcz17_21 : w16.cell? ⟨gb104, 21, none⟩ = some (.int .i64 a0_21) := (blk_cell BK104.out 21).trans rfl; have hcz17_22 : w16.cell? ⟨gb104, 22, none⟩ = some (.int .i64 a0_22) := (blk_cell BK104.out 22).trans rfl; have hcz17_23 : w16.cell? ⟨gb104, 23, none⟩ = some (.int .i64 a0_23) := (blk_cell BK104.out 23).trans rfl; have hcz17_24 : w16.cell? ⟨gb104, 24, none⟩ = some (.int .i64 a0_24) := (blk_cell BK104.out 24).trans rfl; have hcz17_25 : w16.cell? ⟨gb104, 25, none⟩ = some (.int .i64 a0_25) := (blk_cell BK104.out 25).trans rfl; have hcz17_26 : w16.cell? ⟨gb104, 26, none⟩ = some (.int .i64 a0_26) := (blk_cell BK104.out 26).trans rfl; have hcz17_27 : w16.cell? ⟨gb104, 27, none⟩ = some (.int .i64 a0_27) := (blk_cell BK104.out 27).trans rfl; have hcz17_28 : w16.cell? ⟨gb104, 28, none⟩ = some (.int .i64 a0_28) := (blk_cell BK104.out 28).trans rfl; have hcz17_29 : w16.cell? ⟨gb104, 29, none⟩ = some (.slice A0_29 l0_29.length c0_29) := (blk_cell BK104.out 29).trans rfl; have hcz17_30 : w16.cell? ⟨gb104, 30, none⟩ = some (.slice A0_30 l0_30.length c0_30) := (blk_cell BK104.out 30).trans rfl; have hfz17_0 := blk_frozen BK104.out 0; have hfz17_1 := blk_frozen BK104.out 1; have hfz17_2 := blk_frozen BK104.out 2; have hfz17_3 := blk_frozen BK104.out 3; have hfz17_4 := blk_frozen BK104.out 4; have hfz17_5 := blk_frozen BK104.out 5; have hfz17_6 := blk_frozen BK104.out 6; have hfz17_7 := blk_frozen BK104.out 7; have hfz17_8 := blk_frozen BK104.out 8; have hfz17_9 := blk_frozen BK104.out 9; have hfz17_10 := blk_frozen BK104.out 10; have hfz17_11 := blk_frozen BK104.out 11; have hfz17_12 := blk_frozen BK104.out 12; have hfz17_13 := blk_frozen BK104.out 13; have hfz17_14 := blk_frozen BK104.out 14; have hfz17_15 := blk_frozen BK104.out 15; have hfz17_16 := blk_frozen BK104.out 16; have hfz17_17 := blk_frozen BK104.out 17; have hfz17_18 := blk_frozen BK104.out 18; have hfz17_19 := blk_frozen BK104.out 19; have hfz17_20 := blk_frozen BK104.out 20; have hfz17_21 := blk_frozen BK104.out 21; have hfz17_22 := blk_frozen BK104.out 22; have hfz17_23 := blk_frozen BK104.out 23; have hfz17_24 := blk_frozen BK104.out 24; have hfz17_25 := blk_frozen BK104.out 25; have hfz17_26 := blk_frozen BK104.out 26; have hfz17_27 := blk_frozen BK104.out 27; have hfz17_28 := blk_frozen BK104.out 28; have hfz17_29 := blk_frozen BK104.out 29; have hfz17_30 := blk_frozen BK104.out 30) | ((with_reducible refine gate_callee (f := 179) rfl ?_); refine goesL_ (some 8) rfl rfl Try.func179 (by kernel_rfl) rfl #[.agg #[.slice A0_9 l0_9.length c0_9, .slice A0_10 l0_10.length c0_10], .int .i64 a1] rfl z1_1 ?_; (with_reducible refine (laws_szPath.calls _ _ l0_9 _ _ l0_10 a1 t105 _ ?side1 ?side2 ?side3 ?side4 A3.out).mono ?_); (case side1 => repeat (first | exact (Kd.C_below HR0_9.out HB.out) | (with_reducible refine Kd.C_alloc ?_ _) | (with_reducible refine Kd.C_drewN ?_ _) | (with_reducible refine Kd.C_drew ?_))); (case side2 => exact HC0_9.out); (case side3 => repeat (first | exact (Kd.C_below HR0_10.out HB.out) | (with_reducible refine Kd.C_alloc ?_ _) | (with_reducible refine Kd.C_drewN ?_ _) | (with_reducible refine Kd.C_drew ?_))); (case side4 => exact HC0_10.out); rintro e w18 ⟨rfl, hb⟩; refine ⟨_, rfl, ?_⟩; have n0_ := Aside0.mk (blk_below (g := gb104) (o := .cells #[.int .i64 a0_0, .int .i64 a0_1, .bool a0_2, .int .i64 a0_3, .int .i64 a0_4, .int .i64 a0_5, .int .i64 a0_6, .int .i64 a0_7, .int .i64 a0_8, .slice A0_9 l0_9.length c0_9, .slice A0_10 l0_10.length c0_10, .bool a0_11, .int .i64 a0_12, .slice A0_13 l0_13.length c0_13, .int .i64 a0_14, .int .i64 a0_15, .int .i64 a0_16, .int .i64 a0_17, .int .i64 a0_18, .int .i64 a0_19, .int .i64 a0_20, .int .i64 a0_21, .int .i64 a0_22, .int .i64 a0_23, .int .i64 a0_24, .int .i64 a0_25, .int .i64 a0_26, .int .i64 a0_27, .int .i64 a0_28, .slice A0_29 l0_29.length c0_29, .slice A0_30 l0_30.length c0_30] 173 (0, 0)) z1_3 hb); have n1_ := Aside0.mk (below_step z1_2 hb); clear BK104; clear HB; have BK104 := n0_; have HB := n1_; clear n0_ n1_; (try clear hb); (try clear hb2); (try clear hk); (try clear hi); have hcz19_0 : w18.cell? ⟨gb104, 0, none⟩ = some (.int .i64 a0_0) := (blk_cell BK104.out 0).trans rfl; have hcz19_1 : w18.cell? ⟨gb104, 1, none⟩ = some (.int .i64 a0_1) := (blk_cell BK104.out 1).trans rfl; have hcz19_2 : w18.cell? ⟨gb104, 2, none⟩ = some (.bool a0_2) := (blk_cell BK104.out 2).trans rfl; have hcz19_3 : w18.cell? ⟨gb104, 3, none⟩ = some (.int .i64 a0_3) := (blk_cell BK104.out 3).trans rfl; have hcz19_4 : w18.cell? ⟨gb104, 4, none⟩ = some (.int .i64 a0_4) := (blk_cell BK104.out 4).trans rfl; have hcz19_5 : w18.cell? ⟨gb104, 5, none⟩ = some (.int .i64 a0_5) := (blk_cell BK104.out 5).trans rfl; have hcz19_6 : w18.cell? ⟨gb104, 6, none⟩ = some (.int .i64 a0_6) := (blk_cell BK104.out 6).trans rfl; have hcz19_7 : w18.cell? ⟨gb104, 7, none⟩ = some (.int .i64 a0_7) := (blk_cell BK104.out 7).trans rfl; have hcz19_8 : w18.cell? ⟨gb104, 8, none⟩ = some (.int .i64 a0_8) := (blk_cell BK104.out 8).trans rfl; have hcz19_9 : w18.cell? ⟨gb104, 9, none⟩ = some (.slice A0_9 l0_9.length c0_9) := (blk_cell BK104.out 9).trans rfl; have hcz19_10 : w18.cell? ⟨gb104, 10, none⟩ = some (.slice A0_10 l0_10.length c0_10) := (blk_cell BK104.out 10).trans rfl; have hcz19_11 : w18.cell? ⟨gb104, 11, none⟩ = some (.bool a0_11) := (blk_cell BK104.out 11).trans rfl; have hcz19_12 : w18.cell? ⟨gb104, 12, none⟩ = some (.int .i64 a0_12) := (blk_cell BK104.out 12).trans rfl; have hcz19_13 : w18.cell? ⟨gb104, 13, none⟩ = some (.slice A0_13 l0_13.length c0_13) := (blk_cell BK104.out 13).trans rfl; have hcz19_14 : w18.cell? ⟨gb104, 14, none⟩ = some (.int .i64 a0_14) := (blk_cell BK104.out 14).trans rfl; have hcz19_15 : w18.cell? ⟨gb104, 15, none⟩ = some (.int .i64 a0_15) := (blk_cell BK104.out 15).trans rfl; have hcz19_16 : w18.cell? ⟨gb104, 16, none⟩ = some (.int .i64 a0_16) := (blk_cell BK104.out 16).trans rfl; have hcz19_17 : w18.cell? ⟨gb104, 17, none⟩ = some (.int .i64 a0_17) := (blk_cell BK104.out 17).trans rfl; have hcz19_18 : w18.cell? ⟨gb104, 18, none⟩ = some (.int .i64 a0_18) := (blk_cell BK104.out 18).trans rfl; have hcz19_19 : w18.cell? ⟨gb104, 19, none⟩ = some (.int .i64 a0_19) := (blk_cell BK104.out 19).trans rfl; have hcz19_20 : w18.cell? ⟨gb104, 20, none⟩ = some (.int .i64 a0_20) := (blk_cell BK104.out 20).trans rfl; have hcz19_21 : w18.cell? ⟨gb104, 21, none⟩ = some (.int .i64 a0_21) := (blk_cell BK104.out 21).trans rfl; have hcz19_22 : w18.cell? ⟨gb104, 22, none⟩ = some (.int .i64 a0_22) := (blk_cell BK104.out 22).trans rfl; have hcz19_23 : w18.cell? ⟨gb104, 23, none⟩ = some (.int .i64 a0_23) := (blk_cell BK104.out 23).trans rfl; have hcz19_24 : w18.cell? ⟨gb104, 24, none⟩ = some (.int .i64 a0_24) := (blk_cell BK104.out 24).trans rfl; have hcz19_25 : w18.cell? ⟨gb104, 25, none⟩ = some (.int .i64 a0_25) := (blk_cell BK104.out 25).trans rfl; have hcz19_26 : w18.cell? ⟨gb104, 26, none⟩ = some (.int .i64 a0_26) := (blk_cell BK104.out 26).trans rfl; have hcz19_27 : w18.cell? ⟨gb104, 27, none⟩ = some (.int .i64 a0_27) := (blk_cell BK104.out 27).trans rfl; have hcz19_28 : w18.cell? ⟨gb104, 28, none⟩ = some (.int .i64 a0_28) := (blk_cell BK104.out 28).trans rfl; have hcz19_29 : w18.cell? ⟨gb104, 29, none⟩ = some (.slice A0_29 l0_29.length c0_29) := (blk_cell BK104.out 29).trans rfl; have hcz19_30 : w18.cell? ⟨gb104, 30, none⟩ = some (.slice A0_30 l0_30.length c0_30) := (blk_cell BK104.out 30).trans rfl; have hfz19_0 := blk_frozen BK104.out 0; have hfz19_1 := blk_frozen BK104.out 1; have hfz19_2 := blk_frozen BK104.out 2; have hfz19_3 := blk_frozen BK104.out 3; have hfz19_4 := blk_frozen BK104.out 4; have hfz19_5 := blk_frozen BK104.out 5; have hfz19_6 := blk_frozen BK104.out 6; have hfz19_7 := blk_frozen BK104.out 7; have hfz19_8 := blk_frozen BK104.out 8; have hfz19_9 := blk_frozen BK104.out 9; have hfz19_10 := blk_frozen BK104.out 10; have hfz19_11 := blk_frozen BK104.out 11; have hfz19_12 := blk_frozen BK104.out 12; have hfz19_13 := blk_frozen BK104.out 13; have hfz19_14 := blk_frozen BK104.out 14; have hfz19_15 := blk_frozen BK104.out 15; have hfz19_16 := blk_frozen BK104.out 16; have hfz19_17 := blk_frozen BK104.out 17; have hfz19_18 := blk_frozen BK104.out 18; have hfz19_19 := blk_frozen BK104.out 19; have hfz19_20 := blk_frozen BK104.out 20; have hfz19_21 := blk_frozen BK104.out 21; have hfz19_22 := blk_frozen BK104.out 22; have hfz19_23 := blk_frozen BK104.out 23; have hfz19_24 := blk_frozen BK104.out 24; have hfz19_25 := blk_frozen BK104.out 25; have hfz19_26 := blk_frozen BK104.out 26; have hfz19_27 := blk_frozen BK104.out 27; have hfz19_28 := blk_frozen BK104.out 28; have hfz19_29 := blk_frozen BK104.out 29; have hfz19_30 := blk_frozen BK104.out 30) | ((with_reducible refine gate_callee (f := 180) rfl ?_); refine goesL_ (some 14) rfl rfl Try.func180 (by kernel_rfl) rfl #[.slice A0_13 l0_13.length c0_13, .int .i64 t105] rfl z1_1 ?_; (with_reducible refine (laws_szIntS.calls _ _ l0_13 t105 t106 _ ?side1 ?side2 A8.out).mono ?_); (case side1 => repeat (first | exact (Kd.C_below HR0_13.out HB.out) | (with_reducible refine Kd.C_alloc ?_ _) | (with_reducible refine Kd.C_drewN ?_ _) | (with_reducible refine Kd.C_drew ?_))); (case side2 => exact HC0_13.out); rintro e w' ⟨rfl, ⟨nd, rfl⟩⟩; refine ⟨_, rfl, ?_⟩) | ((with_reducible refine gate_callee (f := 179) rfl ?_); refine goesL_ (some 20) rfl rfl Try.func179 (by kernel_rfl) rfl #[.agg #[.slice A0_29 l0_29.length c0_29, .slice A0_30 l0_30.length c0_30], .int .i64 t106] rfl z1_1 ?_; (with_reducible refine (laws_szPath.calls _ _ l0_29 _ _ l0_30 t106 t107 _ ?side1 ?side2 ?side3 ?side4 A14.out).mono ?_); (case side1 => repeat (first | exact (Kd.C_below HR0_29.out z1_2) | (with_reducible refine Kd.C_alloc ?_ _) | (with_reducible refine Kd.C_drewN ?_ _) | (with_reducible refine Kd.C_drew ?_))); (case side2 => exact HC0_29.out); (case side3 => repeat (first | exact (Kd.C_below HR0_30.out z1_2) | (with_reducible refine Kd.C_alloc ?_ _) | (with_reducible refine Kd.C_drewN ?_ _) | (with_reducible refine Kd.C_drew ?_))); (case side4 => exact HC0_30.out); rintro e w20 ⟨rfl, hb⟩; refine ⟨_, rfl, ?_⟩; have n0_ := Aside0.mk (blk_below (g := gb104) (o := .cells #[.int .i64 a0_0, .int .i64 a0_1, .bool a0_2, .int .i64 a0_3, .int .i64 a0_4, .int .i64 a0_5, .int .i64 a0_6, .int .i64 a0_7, .int .i64 a0_8, .slice A0_9 l0_9.length c0_9, .slice A0_10 l0_10.length c0_10, .bool a0_11, .int .i64 a0_12, .slice A0_13 l0_13.length c0_13, .int .i64 a0_14, .int .i64 a0_15, .int .i64 a0_16, .int .i64 a0_17, .int .i64 a0_18, .int .i64 a0_19, .int .i64 a0_20, .int .i64 a0_21, .int .i64 a0_22, .int .i64 a0_23, .int .i64 a0_24, .int .i64 a0_25, .int .i64 a0_26, .int .i64 a0_27, .int .i64 a0_28, .slice A0_29 l0_29.length c0_29, .slice A0_30 l0_30.length c0_30] 173 (0, 0)) z1_3 hb); have n1_ := Aside0.mk (below_step z1_2 hb); clear BK104; clear HB; have BK104 := n0_; have HB := n1_; clear n0_ n1_; (try clear hb); (try clear hb2); (try clear hk); (try clear hi)))
    go_ret
    exact ⟨by first | rfl | (simp [errW_none, errW_some] <;> rfl) | (simp [*, errW_none, errW_some] <;> rfl), by repeat (first | (with_reducible first | exact HB.out | apply below_alloc | apply pw_below_drewN | apply below_drew1 | refine below_set ?_ GE104.out) | exact HB.out)⟩
   ·rw [if_neg c15] at H
    have c15b0 : decide (t107 < 0) = false := decide_eq_false c15
    clear c15
    obtain rfl := Option.some.inj H
    simp only [Option.some.injEq, Prod.mk.injEq] at H
    obtain ⟨rfl⟩ := H
    go_enter Try.func160, Try.ntmps160
    go_wp2_with (first | ((with_reducible refine gate_dst (N := 2) rfl ?_); refine box_event ?hg (N := 2) ?hd (cs := #[.int .i64 a0_0, .int .i64 a0_1, .bool a0_2, .int .i64 a0_3, .int .i64 a0_4, .int .i64 a0_5, .int .i64 a0_6, .int .i64 a0_7, .int .i64 a0_8, .slice A0_9 l0_9.length c0_9, .slice A0_10 l0_10.length c0_10, .bool a0_11, .int .i64 a0_12, .slice A0_13 l0_13.length c0_13, .int .i64 a0_14, .int .i64 a0_15, .int .i64 a0_16, .int .i64 a0_17, .int .i64 a0_18, .int .i64 a0_19, .int .i64 a0_20, .int .i64 a0_21, .int .i64 a0_22, .int .i64 a0_23, .int .i64 a0_24, .int .i64 a0_25, .int .i64 a0_26, .int .i64 a0_27, .int .i64 a0_28, .slice A0_29 l0_29.length c0_29, .slice A0_30 l0_30.length c0_30]) (t := 173) ?hr ?_; (case hd => rfl); (case hg => rfl); (case hr => first | (go_simp; done) | (go_simp; rfl)); intro gb104 hg w21 hbox hb; have n0_ := Aside0.mk (below_step z1_0 hb); have n1_ := Aside0.mk (hbox); have n2_ := Aside0.mk ((by rw [hg]; exact (below_size z1_0) : w.heap.size ≤ gb104)); have n3_ := Aside0.mk ((by rw [hg]; exact (below_size z1_0) : w.heap.size ≤ gb104)); clear HB; have HB := n0_; have BK104 := n1_; have GW104 := n2_; have GE104 := n3_; clear n0_ n1_ n2_ n3_; clear hb hbox hg; have hcz22_0 : w21.cell? ⟨gb104, 0, none⟩ = some (.int .i64 a0_0) := (blk_cell BK104.out 0).trans rfl; have hcz22_1 : w21.cell? ⟨gb104, 1, none⟩ = some (.int .i64 a0_1) := (blk_cell BK104.out 1).trans rfl; have hcz22_2 : w21.cell? ⟨gb104, 2, none⟩ = some (.bool a0_2) := (blk_cell BK104.out 2).trans rfl; have hcz22_3 : w21.cell? ⟨gb104, 3, none⟩ = some (.int .i64 a0_3) := (blk_cell BK104.out 3).trans rfl; have hcz22_4 : w21.cell? ⟨gb104, 4, none⟩ = some (.int .i64 a0_4) := (blk_cell BK104.out 4).trans rfl; have hcz22_5 : w21.cell? ⟨gb104, 5, none⟩ = some (.int .i64 a0_5) := (blk_cell BK104.out 5).trans rfl; have hcz22_6 : w21.cell? ⟨gb104, 6, none⟩ = some (.int .i64 a0_6) := (blk_cell BK104.out 6).trans rfl; have hcz22_7 : w21.cell? ⟨gb104, 7, none⟩ = some (.int .i64 a0_7) := (blk_cell BK104.out 7).trans rfl; have hcz22_8 : w21.cell? ⟨gb104, 8, none⟩ = some (.int .i64 a0_8) := (blk_cell BK104.out 8).trans rfl; have hcz22_9 : w21.cell? ⟨gb104, 9, none⟩ = some (.slice A0_9 l0_9.length c0_9) := (blk_cell BK104.out 9).trans rfl; have hcz22_10 : w21.cell? ⟨gb104, 10, none⟩ = some (.slice A0_10 l0_10.length c0_10) := (blk_cell BK104.out 10).trans rfl; have hcz22_11 : w21.cell? ⟨gb104, 11, none⟩ = some (.bool a0_11) := (blk_cell BK104.out 11).trans rfl; have hcz22_12 : w21.cell? ⟨gb104, 12, none⟩ = some (.int .i64 a0_12) := (blk_cell BK104.out 12).trans rfl; have hcz22_13 : w21.cell? ⟨gb104, 13, none⟩ = some (.slice A0_13 l0_13.length c0_13) := (blk_cell BK104.out 13).trans rfl; have hcz22_14 : w21.cell? ⟨gb104, 14, none⟩ = some (.int .i64 a0_14) := (blk_cell BK104.out 14).trans rfl; have hcz22_15 : w21.cell? ⟨gb104, 15, none⟩ = some (.int .i64 a0_15) := (blk_cell BK104.out 15).trans rfl; have hcz22_16 : w21.cell? ⟨gb104, 16, none⟩ = some (.int .i64 a0_16) := (blk_cell BK104.out 16).trans rfl; have hcz22_17 : w21.cell? ⟨gb104, 17, none⟩ = some (.int .i64 a0_17) := (blk_cell BK104.out 17).trans rfl; have hcz22_18 : w21.cell? ⟨gb104, 18, none⟩ = some (.int .i64 a0_18) := (blk_cell BK104.out 18).trans rfl; have hcz22_19 : w21.cell? ⟨gb104, 19, none⟩ = some (.int .i64 a0_19) := (blk_cell BK104.out 19).trans rfl; have hcz22_20 : w21.cell? ⟨gb104, 20, none⟩ = some (.int .i64 a0_20) := (blk_cell BK104.out 20).trans rfl; have hcz22_21 : w21.cell? ⟨gb104, 21, none⟩ = some (.int .i64 a0_21) := (blk_cell BK104.out 21).trans rfl; have hcz22_22 : w21.cell? ⟨gb104, 22, none⟩ = some (.int .i64 a0_22) := (blk_cell BK104.out 22).trans rfl; have hcz22_23 : w21.cell? ⟨gb104, 23, none⟩ = some (.int .i64 a0_23) := (blk_cell BK104.out 23).trans rfl; have hcz22_24 : w21.cell? ⟨gb104, 24, none⟩ = some (.int .i64 a0_24) := (blk_cell BK104.out 24).trans rfl; have hcz22_25 : w21.cell? ⟨gb104, 25, none⟩ = some (.int .i64 a0_25) := (blk_cell BK104.out 25).trans rfl; have hcz22_26 : w21.cell? ⟨gb104, 26, none⟩ = some (.int .i64 a0_26) := (blk_cell BK104.out 26).trans rfl; have hcz22_27 : w21.cell? ⟨gb104, 27, none⟩ = some (.int .i64 a0_27) := (blk_cell BK104.out 27).trans rfl; have hcz22_28 : w21.cell? ⟨gb104, 28, none⟩ = some (.int .i64 a0_28) := (blk_cell BK104.out 28).trans rfl; have hcz22_29 : w21.cell? ⟨gb104, 29, none⟩ = some (.slice A0_29 l0_29.length c0_29) := (blk_cell BK104.out 29).trans rfl; have hcz22_30 : w21.cell? ⟨gb104, 30, none⟩ = some (.slice A0_30 l0_30.length c0_30) := (blk_cell BK104.out 30).trans rfl; have hfz22_0 := blk_frozen BK104.out 0; have hfz22_1 := blk_frozen BK104.out 1; have hfz22_2 := blk_frozen BK104.out 2; have hfz22_3 := blk_frozen BK104.out 3; have hfz22_4 := blk_frozen BK104.out 4; have hfz22_5 := blk_frozen BK104.out 5; have hfz22_6 := blk_frozen BK104.out 6; have hfz22_7 := blk_frozen BK104.out 7; have hfz22_8 := blk_frozen BK104.out 8; have hfz22_9 := blk_frozen BK104.out 9; have hfz22_10 := blk_frozen BK104.out 10; have hfz22_11 := blk_frozen BK104.out 11; have hfz22_12 := blk_frozen BK104.out 12; have hfz22_13 := blk_frozen BK104.out 13; have hfz22_14 := blk_frozen BK104.out 14; have hfz22_15 := blk_frozen BK104.out 15; have hfz22_16 := blk_frozen BK104.out 16; have hfz22_17 := blk_frozen BK104.out 17; have hfz22_18 := blk_frozen BK104.out 18; have hfz22_19 := blk_frozen BK104.out 19; have hfz22_20 := blk_frozen BK104.out 20; have hfz22_21 := blk_frozen BK104.out 21; have hfz22_22 := blk_frozen BK104.out 22; have hfz22_23 := blk_frozen BK104.out 23; have hfz22_24 := blk_frozen BK104.out 24; have hfz22_25 := blk_frozen BK104.out 25; have hfz22_26 := blk_frozen BK104.out 26; have hfz22_27 := blk_frozen BK104.out 27; have hfz22_28 := blk_frozen BK104.out 28; have hfz22_29 := blk_frozen BK104.out 29; have hfz22_30 := blk_frozen BK104.out 30) | ((with_reducible refine gate_callee (f := 179) rfl ?_); refine goesL_ (some 8) rfl rfl Try.func179 (by kernel_rfl) rfl #[.agg #[.slice A0_9 l0_9.length c0_9, .slice A0_10 l0_10.length c0_10], .int .i64 a1] rfl z1_1 ?_; (with_reducible refine (laws_szPath.calls _ _ l0_9 _ _ l0_10 a1 t105 _ ?side1 ?side2 ?side3 ?side4 A3.out).mono ?_); (case side1 => repeat (first | exact (Kd.C_below HR0_9.out HB.out) | (with_reducible refine Kd.C_alloc ?_ _) | (with_reducible refine Kd.C_drewN ?_ _) | (with_reducible refine Kd.C_drew ?_))); (case side2 => exact HC0_9.out); (case side3 => repeat (first | exact (Kd.C_below HR0_10.out HB.out) | (with_reducible refine Kd.C_alloc ?_ _) | (with_reducible refine Kd.C_drewN ?_ _) | (with_reducible refine Kd.C_drew ?_))); (case side4 => exact HC0_10.out); rintro e w23 ⟨rfl, hb⟩; refine ⟨_, rfl, ?_⟩; have n0_ := Aside0.mk (blk_below (g := gb104) (o := .cells #[.int .i64 a0_0, .int .i64 a0_1, .bool a0_2, .int .i64 a0_3, .int .i64 a0_4, .int .i64 a0_5, .int .i64 a0_6, .int .i64 a0_7, .int .i64 a0_8, .slice A0_9 l0_9.length c0_9, .slice A0_10 l0_10.length c0_10, .bool a0_11, .int .i64 a0_12, .slice A0_13 l0_13.length c0_13, .int .i64 a0_14, .int .i64 a0_15, .int .i64 a0_16, .int .i64 a0_17, .int .i64 a0_18, .int .i64 a0_19, .int .i64 a0_20, .int .i64 a0_21, .int .i64 a0_22, .int .i64 a0_23, .int .i64 a0_24, .int .i64 a0_25, .int .i64 a0_26, .int .i64 a0_27, .int .i64 a0_28, .slice A0_29 l0_29.length c0_29, .slice A0_30 l0_30.length c0_30] 173 (0, 0)) z1_3 hb); have n1_ := Aside0.mk (below_step z1_2 hb); clear BK104; clear HB; have BK104 := n0_; have HB := n1_; clear n0_ n1_; (try clear hb); (try clear hb2); (try clear hk); (try clear hi); have hcz24_0 : w23.cell? ⟨gb104, 0, none⟩ = some (.int .i64 a0_0) := (blk_cell BK104.out 0).trans rfl; have hcz24_1 : w23.cell? ⟨gb104, 1, none⟩ = some (.int .i64 a0_1) := (blk_cell BK104.out 1).trans rfl; have hcz24_2 : w23.cell? ⟨gb104, 2, none⟩ = some (.bool a0_2) := (blk_cell BK104.out 2).trans rfl; have hcz24_3 : w23.cell? ⟨gb104, 3, none⟩ = some (.int .i64 a0_3) := (blk_cell BK104.out 3).trans rfl; have hcz24_4 : w23.cell? ⟨gb104, 4, none⟩ = some (.int .i64 a0_4) := (blk_cell BK104.out 4).trans rfl; have hcz24_5 : w23.cell? ⟨gb104, 5, none⟩ = some (.int .i64 a0_5) := (blk_cell BK104.out 5).trans rfl; have hcz24_6 : w23.cell? ⟨gb104, 6, none⟩ = some (.int .i64 a0_6) := (blk_cell BK104.out 6).trans rfl; have hcz24_7 : w23.cell? ⟨gb104, 7, none⟩ = some (.int .i64 a0_7) := (blk_cell BK104.out 7).trans rfl; have hcz24_8 : w23.cell? ⟨gb104, 8, none⟩ = some (.int .i64 a0_8) := (blk_cell BK104.out 8).trans rfl; have hcz24_9 : w23.cell? ⟨gb104, 9, none⟩ = some (.slice A0_9 l0_9.length c0_9) := (blk_cell BK104.out 9).trans rfl; have hcz24_10 : w23.cell? ⟨gb104, 10, none⟩ = some (.slice A0_10 l0_10.length c0_10) := (blk_cell BK104.out 10).trans rfl; have hcz24_11 : w23.cell? ⟨gb104, 11, none⟩ = some (.bool a0_11) := (blk_cell BK104.out 11).trans rfl; have hcz24_12 : w23.cell? ⟨gb104, 12, none⟩ = some (.int .i64 a0_12) := (blk_cell BK104.out 12).trans rfl; have hcz24_13 : w23.cell? ⟨gb104, 13, none⟩ = some (.slice A0_13 l0_13.length c0_13) := (blk_cell BK104.out 13).trans rfl; have hcz24_14 : w23.cell? ⟨gb104, 14, none⟩ = some (.int .i64 a0_14) := (blk_cell BK104.out 14).trans rfl; have hcz24_15 : w23.cell? ⟨gb104, 15, none⟩ = some (.int .i64 a0_15) := (blk_cell BK104.out 15).trans rfl; have hcz24_16 : w23.cell? ⟨gb104, 16, none⟩ = some (.int .i64 a0_16) := (blk_cell BK104.out 16).trans rfl; have hcz24_17 : w23.cell? ⟨gb104, 17, none⟩ = some (.int .i64 a0_17) := (blk_cell BK104.out 17).trans rfl; have hcz24_18 : w23.cell? ⟨gb104, 18, none⟩ = some (.int .i64 a0_18) := (blk_cell BK104.out 18).trans rfl; have hcz24_19 : w23.cell? ⟨gb104, 19, none⟩ = some (.int .i64 a0_19) := (blk_cell BK104.out 19).trans rfl; have hcz24_20 : w23.cell? ⟨gb104, 20, none⟩ = some (.int .i64 a0_20) := (blk_cell BK104.out 20).trans rfl; have hcz24_21 : w23.cell? ⟨gb104, 21, none⟩ = some (.int .i64 a0_21) := (blk_cell BK104.out 21).trans rfl; have hcz24_22 : w23.cell? ⟨gb104, 22, none⟩ = some (.int .i64 a0_22) := (blk_cell BK104.out 22).trans rfl; have hcz24_23 : w23.cell? ⟨gb104, 23, none⟩ = some (.int .i64 a0_23) := (blk_cell BK104.out 23).trans rfl; have hcz24_24 : w23.cell? ⟨gb104, 24, none⟩ = some (.int .i64 a0_24) := (blk_cell BK104.out 24).trans rfl; have hcz24_25 : w23.cell? ⟨gb104, 25, none⟩ = some (.int .i64 a0_25) := (blk_cell BK104.out 25).trans rfl; have hcz24_26 : w23.cell? ⟨gb104, 26, none⟩ = some (.int .i64 a0_26) := (blk_cell BK104.out 26).trans rfl; have hcz24_27 : w23.cell? ⟨gb104, 27, none⟩ = some (.int .i64 a0_27) := (blk_cell BK104.out 27).trans rfl; have hcz24_28 : w23.cell? ⟨gb104, 28, none⟩ = some (.int .i64 a0_28) := (blk_cell BK104.out 28).trans rfl; have hcz24_29 : w23.cell? ⟨gb104, 29, none⟩ = some (.slice A0_29 l0_29.length c0_29) := (blk_cell BK104.out 29).trans rfl; have hcz24_30 : w23.cell? ⟨gb104, 30, none⟩ = some (.slice A0_30 l0_30.length c0_30) := (blk_cell BK104.out 30).trans rfl; have hfz24_0 := blk_frozen BK104.out 0; have hfz24_1 := blk_frozen BK104.out 1; have hfz24_2 := blk_frozen BK104.out 2; have hfz24_3 := blk_frozen BK104.out 3; have hfz24_4 := blk_frozen BK104.out 4; have hfz24_5 := blk_frozen BK104.out 5; have hfz24_6 := blk_frozen BK104.out 6; have hfz24_7 := blk_frozen BK104.out 7; have hfz24_8 := blk_frozen BK104.out 8; have hfz24_9 := blk_frozen BK104.out 9; have hfz24_10 := blk_frozen BK104.out 10; have hfz24_11 := blk_frozen BK104.out 11; have hfz24_12 := blk_frozen BK104.out 12; have hfz24_13 := blk_frozen BK104.out 13; have hfz24_14 := blk_frozen BK104.out 14; have hfz24_15 := blk_frozen BK104.out 15; have hfz24_16 := blk_frozen BK104.out 16; have hfz24_17 := blk_frozen BK104.out 17; have hfz24_18 := blk_frozen BK104.out 18; have hfz24_19 := blk_frozen BK104.out 19; have hfz24_20 := blk_frozen BK104.out 20; have hfz24_21 := blk_frozen BK104.out 21; have hfz24_22 := blk_frozen BK104.out 22; have hfz24_23 := blk_frozen BK104.out 23; have hfz24_24 := blk_frozen BK104.out 24; have hfz24_25 := blk_frozen BK104.out 25; have hfz24_26 := blk_frozen BK104.out 26; have hfz24_27 := blk_frozen BK104.out 27; have hfz24_28 := blk_frozen BK104.out 28; have hfz24_29 := blk_frozen BK104.out 29; have hfz24_30 := blk_frozen BK104.out 30) | ((with_reducible refine gate_callee (f := 180) rfl ?_); refine goesL_ (some 14) rfl rfl Try.func180 (by kernel_rfl) rfl #[.slice A0_13 l0_13.length c0_13, .int .i64 t105] rfl z1_1 ?_; (with_reducible refine (laws_szIntS.calls _ _ l0_13 t105 t106 _ ?side1 ?side2 A8.out).mono ?_); (case side1 => repeat (first | exact (Kd.C_below HR0_13.out HB.out) | (with_reducible refine Kd.C_alloc ?_ _) | (with_reducible refine Kd.C_drewN ?_ _) | (with_reducible refine Kd.C_drew ?_))); (case side2 => exact HC0_13.out); rintro e w' ⟨rfl, ⟨nd, rfl⟩⟩; refine ⟨_, rfl, ?_⟩) | ((with_reducible refine gate_callee (f := 179) rfl ?_); refine goesL_ (some 20) rfl rfl Try.func179 (by kernel_rfl) rfl #[.agg #[.slice A0_29 l0_29.length c0_29, .slice A0_30 l0_30.length c0_30], .int .i64 t106] rfl z1_1 ?_; (with_reducible refine (laws_szPath.calls _ _ l0_29 _ _ l0_30 t106 t107 _ ?side1 ?side2 ?side3 ?side4 A14.out).mono ?_); (case side1 => repeat (first | exact (Kd.C_below HR0_29.out z1_2) | (with_reducible refine Kd.C_alloc ?_ _) | (with_reducible refine Kd.C_drewN ?_ _) | (with_reducible refine Kd.C_drew ?_))); (case side2 => exact HC0_29.out); (case side3 => repeat (first | exact (Kd.C_below HR0_30.out z1_2) | (with_reducible refine Kd.C_alloc ?_ _) | (with_reducible refine Kd.C_drewN ?_ _) | (with_reducible refine Kd.C_drew ?_))); (case side4 => exact HC0_30.out); rintro e w25 ⟨rfl, hb⟩; refine ⟨_, rfl, ?_⟩; have n0_ := Aside0.mk (blk_below (g := gb104) (o := .cells #[.int .i64 a0_0, .int .i64 a0_1, .bool a0_2, .int .i64 a0_3, .int .i64 a0_4, .int .i64 a0_5, .int .i64 a0_6, .int .i64 a0_7, .int .i64 a0_8, .slice A0_9 l0_9.length c0_9, .slice A0_10 l0_10.length c0_10, .bool a0_11, .int .i64 a0_12, .slice A0_13 l0_13.length c0_13, .int .i64 a0_14, .int .i64 a0_15, .int .i64 a0_16, .int .i64 a0_17, .int .i64 a0_18, .int .i64 a0_19, .int .i64 a0_20, .int .i64 a0_21, .int .i64 a0_22, .int .i64 a0_23, .int .i64 a0_24, .int .i64 a0_25, .int .i64 a0_26, .int .i64 a0_27, .int .i64 a0_28, .slice A0_29 l0_29.length c0_29, .slice A0_30 l0_30.length c0_30] 173 (0, 0)) z1_3 hb); have n1_ := Aside0.mk (below_step z1_2 hb); clear BK104; clear HB; have BK104 := n0_; have HB := n1_; clear n0_ n1_; (try clear hb); (try clear hb2); (try clear hk); (try clear hi)))
    go_ret
    exact ⟨by first | rfl | (simp [errW_none, errW_some] <;> rfl) | (simp [*, errW_none, errW_some] <;> rfl), by repeat (first | (with_reducible first | exact HB.out | apply below_alloc | apply pw_below_drewN | apply below_drew1 | refine below_set ?_ GE104.out) | exact HB.out)⟩

/-! ### laws_szNodeS: function 116 -/
def laws_szNodeS.l0 : Nat → List (S173) → Int → Int → Option (Int)
 | 0, _, _, _ => none
 | k + 1, x0, x1, x5 => if x5 < (x0.length : Int) then (if 0 ≤ x5 then ((laws_szNode.f ((rd_T173 x0 x5).f0) ((rd_T173 x0 x5).f1) ((rd_T173 x0 x5).f2) ((rd_T173 x0 x5).f3.f0) ((rd_T173 x0 x5).f3.f1) ((rd_T173 x0 x5).f3.f2) ((rd_T173 x0 x5).f3.f3) ((rd_T173 x0 x5).f3.f4) ((rd_T173 x0 x5).f3.f5) ((rd_T173 x0 x5).f4.f0) ((rd_T173 x0 x5).f4.f1) ((rd_T173 x0 x5).f5) ((rd_T173 x0 x5).f6) ((rd_T173 x0 x5).f7) ((rd_T173 x0 x5).f8.f0) ((rd_T173 x0 x5).f8.f1.f0) ((rd_T173 x0 x5).f8.f1.f1) ((rd_T173 x0 x5).f8.f1.f2) ((rd_T173 x0 x5).f8.f1.f3) ((rd_T173 x0 x5).f8.f2.f0) ((rd_T173 x0 x5).f8.f2.f1) ((rd_T173 x0 x5).f8.f2.f2) ((rd_T173 x0 x5).f8.f2.f3) ((rd_T173 x0 x5).f8.f3.f0) ((rd_T173 x0 x5).f8.f3.f1) ((rd_T173 x0 x5).f8.f4.f0) ((rd_T173 x0 x5).f8.f4.f1) ((rd_T173 x0 x5).f9) ((rd_T173 x0 x5).f10) ((rd_T173 x0 x5).f11.f0) ((rd_T173 x0 x5).f11.f1) x1).bind fun t109 => (if t109 < 0 then (some (-1)) else (laws_szNodeS.l0 k x0 t109 (wrap64 (x5 + 1))))) else (none)) else (some x1)
def laws_szNodeS.f (k : Nat) (l0 : List (S173)) (a1 : Int) : Option (Int) := if (wrap64 (a1 - (l0.length : Int))) < 0 then (some (-1)) else (laws_szNodeS.l0 k l0 (wrap64 (a1 - (l0.length : Int))) 0)
theorem laws_szNodeS.mono_l : ∀ k, (∀ y0 y1 y2, LeO (laws_szNodeS.l0 k y0 y1 y2) (laws_szNodeS.l0 (k + 1) y0 y1 y2))
 | 0 => fun _ _ _ r h => by simp [laws_szNodeS.l0] at h
 | k + 1 => by
  have ih0 := laws_szNodeS.mono_l k
  ·intro y0 y1 y2
   unfold laws_szNodeS.l0
   repeat' first
   | (with_reducible exact ih0 _ _ _)
   | (with_reducible exact LeO.refl _)
   | (with_reducible exact LeO.none _)
   | (with_reducible refine LeO.ite ?_ ?_)
   | (with_reducible refine LeO.bind ?_ (fun _ => ?_))
   | exact ih0 _ _ _
   | exact LeO.none _
   | refine LeO.ite ?_ ?_
   | refine LeO.bind ?_ (fun _ => ?_)
theorem laws_szNodeS.mono : ∀ a0 a1 k, LeO (laws_szNodeS.f k a0 a1) (laws_szNodeS.f (k + 1) a0 a1) := by
 intro a0 a1 k
 have ih0 := laws_szNodeS.mono_l k
 unfold laws_szNodeS.f
 repeat' first
   | (with_reducible exact ih0 _ _ _)
   | (with_reducible exact LeO.refl _)
   | (with_reducible exact LeO.none _)
   | (with_reducible refine LeO.ite ?_ ?_)
   | (with_reducible refine LeO.bind ?_ (fun _ => ?_))
   | exact ih0 _ _ _
   | exact LeO.none _
   | refine LeO.ite ?_ ?_
   | refine LeO.bind ?_ (fun _ => ?_)
set_option maxHeartbeats 8000000 in
set_option maxRecDepth 100000 in
theorem laws_szNodeS.calls (k : Nat) (A0 : Option Addr) (c0 : Nat) (l0 : List (S173)) (a1 : Int) (r : Int) (w : World) (hr0 : Kd.C k173 w A0 l0.length l0) (hc0 : l0.length ≤ c0) (h : laws_szNodeS.f k l0 a1 = some r) :
  Calls Try.prog 116 #[.slice A0 l0.length c0, .int .i64 a1] w fun e w' => e = .returned (.int .i64 r) ∧ Below w.heap.size w w' := by
 have hu173 := Try.underlying173
 have HR0 := Aside0.mk hr0
 have HC0 := Aside0.mk hc0
 clear hr0 hc0
 have HB := Aside0.mk (Below.refl w.heap.size w)
 have H : (if (wrap64 (a1 - (l0.length : Int))) < 0 then (some (-1)) else (laws_szNodeS.l0 k l0 (wrap64 (a1 - (l0.length : Int))) 0)) = some r := h
 clear h
 by_cases c3 : (wrap64 (a1 - (l0.length : Int))) < 0
 ·rw [if_pos c3] at H
  have c3b0 : decide ((wrap64 (a1 - (l0.length : Int))) < 0) = true := decide_eq_true c3
  clear c3
  obtain rfl := Option.some.inj H
  simp only [Option.some.injEq, Prod.mk.injEq] at H
  obtain ⟨rfl⟩ := H
  go_enter Try.func116, Try.ntmps116
  go_wp2
  go_ret
  exact ⟨by first | rfl | (simp [errW_none, errW_some] <;> rfl) | (simp [*, errW_none, errW_some] <;> rfl), by repeat (first | (with_reducible first | exact HB.out | apply below_alloc | apply pw_below_drewN | apply below_drew1) | exact HB.out)⟩
 ·rw [if_neg c3] at H
  have c3b0 : decide ((wrap64 (a1 - (l0.length : Int))) < 0) = false := decide_eq_false c3
  clear c3
  have H' := Aside0.mk H
  clear H
  go_enter Try.func116, Try.ntmps116
  go_wp2
  go_loopg [1, 5] k (fun kq v1 v5 w' => ∃ (x1_1 : Int) (x5_1 : Int), v1 = .int .i64 x1_1 ∧ v5 = .int .i64 x5_1 ∧ Aside0 (laws_szNodeS.l0 kq l0 x1_1 x5_1 = some r) ∧ Aside0 (kq ≤ k) ∧ Aside0 (Below w.heap.size w w'))
  case atStart => exact ⟨(wrap64 (a1 - (l0.length : Int))), (0), (by first | rfl | (simp; done) | (simp [*]; done)), (by first | rfl | (simp; done) | (simp [*]; done)), H', ⟨Nat.le_refl _⟩, ⟨by repeat (first | (with_reducible first | exact HB.out | apply below_alloc | apply pw_below_drewN | apply below_drew1) | exact HB.out)⟩⟩
  case round =>
   clear H'
   try clear c1
   try clear p2
   try clear c3
   try clear c3b0
   obtain ⟨x1_1, x5_1, rfl, rfl, HA, HK1, HB⟩ := hrel
   cases gk with
   | zero => exact absurd HA.out (by simp [laws_szNodeS.l0])
   | succ k1 =>
    have H := HA.out; clear HA
    simp only [laws_szNodeS.l0] at H
    by_cases c4 : x5_1 < (l0.length : Int)
    ·rw [if_pos c4] at H
     have c4b0 : decide (x5_1 < (l0.length : Int)) = true := decide_eq_true c4
     clear c4
     by_cases c5 : 0 ≤ x5_1
     ·rw [if_pos c5] at H
      have c5b0 : decide (0 ≤ x5_1) = true := decide_eq_true c5
      clear c5
      replace H := Option.bind_eq_some_iff.mp H
      obtain ⟨t109, A60, H⟩ := H
      replace H : (if t109 < 0 then (some (-1)) else (laws_szNodeS.l0 k1 l0 t109 (wrap64 (x5_1 + 1)))) = some r := H
      have A6 := Aside0.mk A60
      clear A60
      by_cases c7 : t109 < 0
      ·rw [if_pos c7] at H
       have c7b0 : decide (t109 < 0) = true := decide_eq_true c7
       clear c7
       obtain rfl := Option.some.inj H
       simp only [Option.some.injEq, Prod.mk.injEq] at H
       obtain ⟨rfl⟩ := H
       have p108 : 0 ≤ (x5_1 : Int) := of_decide_eq_true (by first | (with_reducible assumption) | assumption)
       have q108 : x5_1 < (l0.length : Int) := of_decide_eq_true (by first | (with_reducible assumption) | assumption)
       obtain ⟨ad108, A108_9, c108_9, A108_10, c108_10, A108_13, c108_13, A108_29, c108_29, A108_30, c108_30, e108, hx108_0, hx108_1, hx108_2, hx108_3, hx108_4, hx108_5, hx108_6, hx108_7, hx108_8, hx108_9, hx108_10, hx108_11, hx108_12, hx108_13, hx108_14, hx108_15, hx108_16, hx108_17, hx108_18, hx108_19, hx108_20, hx108_21, hx108_22, hx108_23, hx108_24, hx108_25, hx108_26, hx108_27, hx108_28, hx108_29, hx108_30, hl108_9, hi108_9, hl108_10, hi108_10, hl108_13, hi108_13, hl108_29, hi108_29, hl108_30, hi108_30⟩ := at_T173 HR0.out x5_1 p108 q108
       cases e108
       replace hx108_0 := (HB.out.cell (World.block_lt_of_cell? w _ hx108_0)).trans hx108_0
       replace hx108_1 := (HB.out.cell (World.block_lt_of_cell? w _ hx108_1)).trans hx108_1
       replace hx108_2 := (HB.out.cell (World.block_lt_of_cell? w _ hx108_2)).trans hx108_2
       replace hx108_3 := (HB.out.cell (World.block_lt_of_cell? w _ hx108_3)).trans hx108_3
       replace hx108_4 := (HB.out.cell (World.block_lt_of_cell? w _ hx108_4)).trans hx108_4
       replace hx108_5 := (HB.out.cell (World.block_lt_of_cell? w _ hx108_5)).trans hx108_5
       replace hx108_6 := (HB.out.cell (World.block_lt_of_cell? w _ hx108_6)).trans hx108_6
       replace hx108_7 := (HB.out.cell (World.block_lt_of_cell? w _ hx108_7)).trans hx108_7
       replace hx108_8 := (HB.out.cell (World.block_lt_of_cell? w _ hx108_8)).trans hx108_8
       replace hx108_9 := (HB.out.cell (World.block_lt_of_cell? w _ hx108_9)).trans hx108_9
       replace hx108_10 := (HB.out.cell (World.block_lt_of_cell? w _ hx108_10)).trans hx108_10
       replace hx108_11 := (HB.out.cell (World.block_lt_of_cell? w _ hx108_11)).trans hx108_11
       replace hx108_12 := (HB.out.cell (World.block_lt_of_cell? w _ hx108_12)).trans hx108_12
       replace hx108_13 := (HB.out.cell (World.block_lt_of_cell? w _ hx108_13)).trans hx108_13
       replace hx108_14 := (HB.out.cell (World.block_lt_of_cell? w _ hx108_14)).trans hx108_14
       replace hx108_15 := (HB.out.cell (World.block_lt_of_cell? w _ hx108_15)).trans hx108_15
       replace hx108_16 := (HB.out.cell (World.block_lt_of_cell? w _ hx108_16)).trans hx108_16
       replace hx108_17 := (HB.out.cell (World.block_lt_of_cell? w _ hx108_17)).trans hx108_17
       replace hx108_18 := (HB.out.cell (World.block_lt_of_cell? w _ hx108_18)).trans hx108_18
       replace hx108_19 := (HB.out.cell (World.block_lt_of_cell? w _ hx108_19)).trans hx108_19
       replace hx108_20 := (HB.out.cell (World.block_lt_of_cell? w _ hx108_20)).trans hx108_20
       replace hx108_21 := (HB.out.cell (World.block_lt_of_cell? w _ hx108_21)).trans hx108_21
       replace hx108_22 := (HB.out.cell (World.block_lt_of_cell? w _ hx108_22)).trans hx108_22
       replace hx108_23 := (HB.out.cell (World.block_lt_of_cell? w _ hx108_23)).trans hx108_23
       replace hx108_24 := (HB.out.cell (World.block_lt_of_cell? w _ hx108_24)).trans hx108_24
       replace hx108_25 := (HB.out.cell (World.block_lt_of_cell? w _ hx108_25)).trans hx108_25
       replace hx108_26 := (HB.out.cell (World.block_lt_of_cell? w _ hx108_26)).trans hx108_26
       replace hx108_27 := (HB.out.cell (World.block_lt_of_cell? w _ hx108_27)).trans hx108_27
       replace hx108_28 := (HB.out.cell (World.block_lt_of_cell? w _ hx108_28)).trans hx108_28
       replace hx108_29 := (HB.out.cell (World.block_lt_of_cell? w _ hx108_29)).trans hx108_29
       replace hx108_30 := (HB.out.cell (World.block_lt_of_cell? w _ hx108_30)).trans hx108_30
       have HR108_9 := Aside0.mk hi108_9
       have HC108_9 := Aside0.mk hl108_9
       clear hi108_9 hl108_9
       have HR108_10 := Aside0.mk hi108_10
       have HC108_10 := Aside0.mk hl108_10
       clear hi108_10 hl108_10
       have HR108_13 := Aside0.mk hi108_13
       have HC108_13 := Aside0.mk hl108_13
       clear hi108_13 hl108_13
       have HR108_29 := Aside0.mk hi108_29
       have HC108_29 := Aside0.mk hl108_29
       clear hi108_29 hl108_29
       have HR108_30 := Aside0.mk hi108_30
       have HC108_30 := Aside0.mk hl108_30
       clear hi108_30 hl108_30
       replace p108 := eq_true p108
       replace q108 := eq_true q108
       go_wp2_with (first | ((with_reducible refine gate_load (t := 173) rfl ?_); refine load_event (t := 173) rfl rfl (p := ad108.add (x5_1.toNat * 31)) rfl [.int .i64 (rd_T173 l0 x5_1).f0, .int .i64 (rd_T173 l0 x5_1).f1, .bool (rd_T173 l0 x5_1).f2, .int .i64 (rd_T173 l0 x5_1).f3.f0, .int .i64 (rd_T173 l0 x5_1).f3.f1, .int .i64 (rd_T173 l0 x5_1).f3.f2, .int .i64 (rd_T173 l0 x5_1).f3.f3, .int .i64 (rd_T173 l0 x5_1).f3.f4, .int .i64 (rd_T173 l0 x5_1).f3.f5, .slice A108_9 (rd_T173 l0 x5_1).f4.f0.length c108_9, .slice A108_10 (rd_T173 l0 x5_1).f4.f1.length c108_10, .bool (rd_T173 l0 x5_1).f5, .int .i64 (rd_T173 l0 x5_1).f6, .slice A108_13 (rd_T173 l0 x5_1).f7.length c108_13, .int .i64 (rd_T173 l0 x5_1).f8.f0, .int .i64 (rd_T173 l0 x5_1).f8.f1.f0, .int .i64 (rd_T173 l0 x5_1).f8.f1.f1, .int .i64 (rd_T173 l0 x5_1).f8.f1.f2, .int .i64 (rd_T173 l0 x5_1).f8.f1.f3, .int .i64 (rd_T173 l0 x5_1).f8.f2.f0, .int .i64 (rd_T173 l0 x5_1).f8.f2.f1, .int .i64 (rd_T173 l0 x5_1).f8.f2.f2, .int .i64 (rd_T173 l0 x5_1).f8.f2.f3, .int .i64 (rd_T173 l0 x5_1).f8.f3.f0, .int .i64 (rd_T173 l0 x5_1).f8.f3.f1, .int .i64 (rd_T173 l0 x5_1).f8.f4.f0, .int .i64 (rd_T173 l0 x5_1).f8.f4.f1, .int .i64 (rd_T173 l0 x5_1).f9, .int .i64 (rd_T173 l0 x5_1).f10, .slice A108_29 (rd_T173 l0 x5_1).f11.f0.length c108_29, .slice A108_30 (rd_T173 l0 x5_1).f11.f1.length c108_30] _ (lie_cons (by first | exact hx108_0 | simpa using hx108_0) (lie_cons (by first | exact hx108_1 | simpa using hx108_1) (lie_cons (by first | exact hx108_2 | simpa using hx108_2) (lie_cons (by first | exact hx108_3 | simpa using hx108_3) (lie_cons (by first | exact hx108_4 | simpa using hx108_4) (lie_cons (by first | exact hx108_5 | simpa using hx108_5) (lie_cons (by first | exact hx108_6 | simpa using hx108_6) (lie_cons (by first | exact hx108_7 | simpa using hx108_7) (lie_cons (by first | exact hx108_8 | simpa using hx108_8) (lie_cons (by first | exact hx108_9 | simpa using hx108_9) (lie_cons (by first | exact hx108_10 | simpa using hx108_10) (lie_cons (by first | exact hx108_11 | simpa using hx108_11) (lie_cons (by first | exact hx108_12 | simpa using hx108_12) (lie_cons (by first | exact hx108_13 | simpa using hx108_13) (lie_cons (by first | exact hx108_14 | simpa using hx108_14) (lie_cons (by first | exact hx108_15 | simpa using hx108_15) (lie_cons (by first | exact hx108_16 | simpa using hx108_16) (lie_cons (by first | exact hx108_17 | simpa using hx108_17) (lie_cons (by first | exact hx108_18 | simpa using hx108_18) (lie_cons (by first | exact hx108_19 | simpa using hx108_19) (lie_cons (by first | exact hx108_20 | simpa using hx108_20) (lie_cons (by first | exact hx108_21 | simpa using hx108_21) (lie_cons (by first | exact hx108_22 | simpa using hx108_22) (lie_cons (by first | exact hx108_23 | simpa using hx108_23) (lie_cons (by first | exact hx108_24 | simpa using hx108_24) (lie_cons (by first | exact hx108_25 | simpa using hx108_25) (lie_cons (by first | exact hx108_26 | simpa using hx108_26) (lie_cons (by first | exact hx108_27 | simpa using hx108_27) (lie_cons (by first | exact hx108_28 | simpa using hx108_28) (lie_cons (by first | exact hx108_29 | simpa using hx108_29) (lie_cons (by first | exact hx108_30 | simpa using hx108_30) (lie_nil _ _ _)))))))))))))))))))))))))))))))) Try.underlying173 rfl (show (Try.prog.info? 173).map (·.size) = some 31 by kernel_rfl) ?_) | ((with_reducible refine gate_callee (f := 160) rfl ?_); refine goesL_ (some 23) rfl rfl Try.func160 (by kernel_rfl) rfl #[.agg #[.int .i64 ((rd_T173 l0 x5_1).f0), .int .i64 ((rd_T173 l0 x5_1).f1), .bool ((rd_T173 l0 x5_1).f2), .int .i64 ((rd_T173 l0 x5_1).f3.f0), .int .i64 ((rd_T173 l0 x5_1).f3.f1), .int .i64 ((rd_T173 l0 x5_1).f3.f2), .int .i64 ((rd_T173 l0 x5_1).f3.f3), .int .i64 ((rd_T173 l0 x5_1).f3.f4), .int .i64 ((rd_T173 l0 x5_1).f3.f5), .slice A108_9 ((rd_T173 l0 x5_1).f4.f0).length c108_9, .slice A108_10 ((rd_T173 l0 x5_1).f4.f1).length c108_10, .bool ((rd_T173 l0 x5_1).f5), .int .i64 ((rd_T173 l0 x5_1).f6), .slice A108_13 ((rd_T173 l0 x5_1).f7).length c108_13, .int .i64 ((rd_T173 l0 x5_1).f8.f0), .int .i64 ((rd_T173 l0 x5_1).f8.f1.f0), .int .i64 ((rd_T173 l0 x5_1).f8.f1.f1), .int .i64 ((rd_T173 l0 x5_1).f8.f1.f2), .int .i64 ((rd_T173 l0 x5_1).f8.f1.f3), .int .i64 ((rd_T173 l0 x5_1).f8.f2.f0), .int .i64 ((rd_T173 l0 x5_1).f8.f2.f1), .int .i64 ((rd_T173 l0 x5_1).f8.f2.f2), .int .i64 ((rd_T173 l0 x5_1).f8.f2.f3), .int .i64 ((rd_T173 l0 x5_1).f8.f3.f0), .int .i64 ((rd_T173 l0 x5_1).f8.f3.f1), .int .i64 ((rd_T173 l0 x5_1).f8.f4.f0), .int .i64 ((rd_T173 l0 x5_1).f8.f4.f1), .int .i64 ((rd_T173 l0 x5_1).f9), .int .i64 ((rd_T173 l0 x5_1).f10), .slice A108_29 ((rd_T173 l0 x5_1).f11.f0).length c108_29, .slice A108_30 ((rd_T173 l0 x5_1).f11.f1).length c108_30], .int .i64 x1_1] rfl z1_1 ?_; (with_reducible refine (laws_szNode.calls ((rd_T173 l0 x5_1).f0) ((rd_T173 l0 x5_1).f1) ((rd_T173 l0 x5_1).f2) ((rd_T173 l0 x5_1).f3.f0) ((rd_T173 l0 x5_1).f3.f1) ((rd_T173 l0 x5_1).f3.f2) ((rd_T173 l0 x5_1).f3.f3) ((rd_T173 l0 x5_1).f3.f4) ((rd_T173 l0 x5_1).f3.f5) _ _ ((rd_T173 l0 x5_1).f4.f0) _ _ ((rd_T173 l0 x5_1).f4.f1) ((rd_T173 l0 x5_1).f5) ((rd_T173 l0 x5_1).f6) _ _ ((rd_T173 l0 x5_1).f7) ((rd_T173 l0 x5_1).f8.f0) ((rd_T173 l0 x5_1).f8.f1.f0) ((rd_T173 l0 x5_1).f8.f1.f1) ((rd_T173 l0 x5_1).f8.f1.f2) ((rd_T173 l0 x5_1).f8.f1.f3) ((rd_T173 l0 x5_1).f8.f2.f0) ((rd_T173 l0 x5_1).f8.f2.f1) ((rd_T173 l0 x5_1).f8.f2.f2) ((rd_T173 l0 x5_1).f8.f2.f3) ((rd_T173 l0 x5_1).f8.f3.f0) ((rd_T173 l0 x5_1).f8.f3.f1) ((rd_T173 l0 x5_1).f8.f4.f0) ((rd_T173 l0 x5_1).f8.f4.f1) ((rd_T173 l0 x5_1).f9) ((rd_T173 l0 x5_1).f10) _ _ ((rd_T173 l0 x5_1).f11.f0) _ _ ((rd_T173 l0 x5_1).f11.f1) x1_1 t109 _ ?side1 ?side2 ?side3 ?side4 ?side5 ?side6 ?side7 ?side8 ?side9 ?side10 A6.out).mono ?_); (case side1 => repeat (first | exact (Kd.C_below HR108_9.out HB.out) | (with_reducible refine Kd.C_alloc ?_ _) | (with_reducible refine Kd.C_drewN ?_ _) | (with_reducible refine Kd.C_drew ?_))); (case side2 => exact HC108_9.out); (case side3 => repeat (first | exact (Kd.C_below HR108_10.out HB.out) | (with_reducible refine Kd.C_alloc ?_ _) | (with_reducible refine Kd.C_drewN ?_ _) | (with_reducible refine Kd.C_drew ?_))); (case side4 => exact HC108_10.out); (case side5 => repeat (first | exact (Kd.C_below HR108_13.out HB.out) | (with_reducible refine Kd.C_alloc ?_ _) | (with_reducible refine Kd.C_drewN ?_ _) | (with_reducible refine Kd.C_drew ?_))); (case side6 => exact HC108_13.out); (case side7 => repeat (first | exact (Kd.C_below HR108_29.out HB.out) | (with_reducible refine Kd.C_alloc ?_ _) | (with_reducible refine Kd.C_drewN ?_ _) | (with_reducible refine Kd.C_drew ?_))); (case side8 => exact HC108_29.out); (case side9 => repeat (first | exact (Kd.C_below HR108_30.out HB.out) | (with_reducible refine Kd.C_alloc ?_ _) | (with_reducible refine Kd.C_drewN ?_ _) | (with_reducible refine Kd.C_drew ?_))); (case side10 => exact HC108_30.out); rintro e w8 ⟨rfl, hb⟩; refine ⟨_, rfl, ?_⟩; have n0_ := Aside0.mk (below_step z1_0 hb); clear HB; have HB := n0_; clear n0_; (try clear hb); (try clear hb2); (try clear hk); (try clear hi)))
       go_ret
       exact ⟨by first | rfl | (simp [errW_none, errW_some] <;> rfl) | (simp [*, errW_none, errW_some] <;> rfl), by repeat (first | (with_reducible first | exact HB.out | apply below_alloc | apply pw_below_drewN | apply below_drew1) | exact HB.out)⟩
      ·rw [if_neg c7] at H
       have c7b0 : decide (t109 < 0) = false := decide_eq_false c7
       clear c7
       have H' := Aside0.mk H
       clear H
       have p108 : 0 ≤ (x5_1 : Int) := of_decide_eq_true (by first | (with_reducible assumption) | assumption)
       have q108 : x5_1 < (l0.length : Int) := of_decide_eq_true (by first | (with_reducible assumption) | assumption)
       obtain ⟨ad108, A108_9, c108_9, A108_10, c108_10, A108_13, c108_13, A108_29, c108_29, A108_30, c108_30, e108, hx108_0, hx108_1, hx108_2, hx108_3, hx108_4, hx108_5, hx108_6, hx108_7, hx108_8, hx108_9, hx108_10, hx108_11, hx108_12, hx108_13, hx108_14, hx108_15, hx108_16, hx108_17, hx108_18, hx108_19, hx108_20, hx108_21, hx108_22, hx108_23, hx108_24, hx108_25, hx108_26, hx108_27, hx108_28, hx108_29, hx108_30, hl108_9, hi108_9, hl108_10, hi108_10, hl108_13, hi108_13, hl108_29, hi108_29, hl108_30, hi108_30⟩ := at_T173 HR0.out x5_1 p108 q108
       cases e108
       replace hx108_0 := (HB.out.cell (World.block_lt_of_cell? w _ hx108_0)).trans hx108_0
       replace hx108_1 := (HB.out.cell (World.block_lt_of_cell? w _ hx108_1)).trans hx108_1
       replace hx108_2 := (HB.out.cell (World.block_lt_of_cell? w _ hx108_2)).trans hx108_2
       replace hx108_3 := (HB.out.cell (World.block_lt_of_cell? w _ hx108_3)).trans hx108_3
       replace hx108_4 := (HB.out.cell (World.block_lt_of_cell? w _ hx108_4)).trans hx108_4
       replace hx108_5 := (HB.out.cell (World.block_lt_of_cell? w _ hx108_5)).trans hx108_5
       replace hx108_6 := (HB.out.cell (World.block_lt_of_cell? w _ hx108_6)).trans hx108_6
       replace hx108_7 := (HB.out.cell (World.block_lt_of_cell? w _ hx108_7)).trans hx108_7
       replace hx108_8 := (HB.out.cell (World.block_lt_of_cell? w _ hx108_8)).trans hx108_8
       replace hx108_9 := (HB.out.cell (World.block_lt_of_cell? w _ hx108_9)).trans hx108_9
       replace hx108_10 := (HB.out.cell (World.block_lt_of_cell? w _ hx108_10)).trans hx108_10
       replace hx108_11 := (HB.out.cell (World.block_lt_of_cell? w _ hx108_11)).trans hx108_11
       replace hx108_12 := (HB.out.cell (World.block_lt_of_cell? w _ hx108_12)).trans hx108_12
       replace hx108_13 := (HB.out.cell (World.block_lt_of_cell? w _ hx108_13)).trans hx108_13
       replace hx108_14 := (HB.out.cell (World.block_lt_of_cell? w _ hx108_14)).trans hx108_14
       replace hx108_15 := (HB.out.cell (World.block_lt_of_cell? w _ hx108_15)).trans hx108_15
       replace hx108_16 := (HB.out.cell (World.block_lt_of_cell? w _ hx108_16)).trans hx108_16
       replace hx108_17 := (HB.out.cell (World.block_lt_of_cell? w _ hx108_17)).trans hx108_17
       replace hx108_18 := (HB.out.cell (World.block_lt_of_cell? w _ hx108_18)).trans hx108_18
       replace hx108_19 := (HB.out.cell (World.block_lt_of_cell? w _ hx108_19)).trans hx108_19
       replace hx108_20 := (HB.out.cell (World.block_lt_of_cell? w _ hx108_20)).trans hx108_20
       replace hx108_21 := (HB.out.cell (World.block_lt_of_cell? w _ hx108_21)).trans hx108_21
       replace hx108_22 := (HB.out.cell (World.block_lt_of_cell? w _ hx108_22)).trans hx108_22
       replace hx108_23 := (HB.out.cell (World.block_lt_of_cell? w _ hx108_23)).trans hx108_23
       replace hx108_24 := (HB.out.cell (World.block_lt_of_cell? w _ hx108_24)).trans hx108_24
       replace hx108_25 := (HB.out.cell (World.block_lt_of_cell? w _ hx108_25)).trans hx108_25
       replace hx108_26 := (HB.out.cell (World.block_lt_of_cell? w _ hx108_26)).trans hx108_26
       replace hx108_27 := (HB.out.cell (World.block_lt_of_cell? w _ hx108_27)).trans hx108_27
       replace hx108_28 := (HB.out.cell (World.block_lt_of_cell? w _ hx108_28)).trans hx108_28
       replace hx108_29 := (HB.out.cell (World.block_lt_of_cell? w _ hx108_29)).trans hx108_29
       replace hx108_30 := (HB.out.cell (World.block_lt_of_cell? w _ hx108_30)).trans hx108_30
       have HR108_9 := Aside0.mk hi108_9
       have HC108_9 := Aside0.mk hl108_9
       clear hi108_9 hl108_9
       have HR108_10 := Aside0.mk hi108_10
       have HC108_10 := Aside0.mk hl108_10
       clear hi108_10 hl108_10
       have HR108_13 := Aside0.mk hi108_13
       have HC108_13 := Aside0.mk hl108_13
       clear hi108_13 hl108_13
       have HR108_29 := Aside0.mk hi108_29
       have HC108_29 := Aside0.mk hl108_29
       clear hi108_29 hl108_29
       have HR108_30 := Aside0.mk hi108_30
       have HC108_30 := Aside0.mk hl108_30
       clear hi108_30 hl108_30
       replace p108 := eq_true p108
       replace q108 := eq_true q108
       go_wp2_with (first | ((with_reducible refine gate_load (t := 173) rfl ?_); refine load_event (t := 173) rfl rfl (p := ad108.add (x5_1.toNat * 31)) rfl [.int .i64 (rd_T173 l0 x5_1).f0, .int .i64 (rd_T173 l0 x5_1).f1, .bool (rd_T173 l0 x5_1).f2, .int .i64 (rd_T173 l0 x5_1).f3.f0, .int .i64 (rd_T173 l0 x5_1).f3.f1, .int .i64 (rd_T173 l0 x5_1).f3.f2, .int .i64 (rd_T173 l0 x5_1).f3.f3, .int .i64 (rd_T173 l0 x5_1).f3.f4, .int .i64 (rd_T173 l0 x5_1).f3.f5, .slice A108_9 (rd_T173 l0 x5_1).f4.f0.length c108_9, .slice A108_10 (rd_T173 l0 x5_1).f4.f1.length c108_10, .bool (rd_T173 l0 x5_1).f5, .int .i64 (rd_T173 l0 x5_1).f6, .slice A108_13 (rd_T173 l0 x5_1).f7.length c108_13, .int .i64 (rd_T173 l0 x5_1).f8.f0, .int .i64 (rd_T173 l0 x5_1).f8.f1.f0, .int .i64 (rd_T173 l0 x5_1).f8.f1.f1, .int .i64 (rd_T173 l0 x5_1).f8.f1.f2, .int .i64 (rd_T173 l0 x5_1).f8.f1.f3, .int .i64 (rd_T173 l0 x5_1).f8.f2.f0, .int .i64 (rd_T173 l0 x5_1).f8.f2.f1, .int .i64 (rd_T173 l0 x5_1).f8.f2.f2, .int .i64 (rd_T173 l0 x5_1).f8.f2.f3, .int .i64 (rd_T173 l0 x5_1).f8.f3.f0, .int .i64 (rd_T173 l0 x5_1).f8.f3.f1, .int .i64 (rd_T173 l0 x5_1).f8.f4.f0, .int .i64 (rd_T173 l0 x5_1).f8.f4.f1, .int .i64 (rd_T173 l0 x5_1).f9, .int .i64 (rd_T173 l0 x5_1).f10, .slice A108_29 (rd_T173 l0 x5_1).f11.f0.length c108_29, .slice A108_30 (rd_T173 l0 x5_1).f11.f1.length c108_30] _ (lie_cons (by first | exact hx108_0 | simpa using hx108_0) (lie_cons (by first | exact hx108_1 | simpa using hx108_1) (lie_cons (by first | exact hx108_2 | simpa using hx108_2) (lie_cons (by first | exact hx108_3 | simpa using hx108_3) (lie_cons (by first | exact hx108_4 | simpa using hx108_4) (lie_cons (by first | exact hx108_5 | simpa using hx108_5) (lie_cons (by first | exact hx108_6 | simpa using hx108_6) (lie_cons (by first | exact hx108_7 | simpa using hx108_7) (lie_cons (by first | exact hx108_8 | simpa using hx108_8) (lie_cons (by first | exact hx108_9 | simpa using hx108_9) (lie_cons (by first | exact hx108_10 | simpa using hx108_10) (lie_cons (by first | exact hx108_11 | simpa using hx108_11) (lie_cons (by first | exact hx108_12 | simpa using hx108_12) (lie_cons (by first | exact hx108_13 | simpa using hx108_13) (lie_cons (by first | exact hx108_14 | simpa using hx108_14) (lie_cons (by first | exact hx108_15 | simpa using hx108_15) (lie_cons (by first | exact hx108_16 | simpa using hx108_16) (lie_cons (by first | exact hx108_17 | simpa using hx108_17) (lie_cons (by first | exact hx108_18 | simpa using hx108_18) (lie_cons (by first | exact hx108_19 | simpa using hx108_19) (lie_cons (by first | exact hx108_20 | simpa using hx108_20) (lie_cons (by first | exact hx108_21 | simpa using hx108_21) (lie_cons (by first | exact hx108_22 | simpa using hx108_22) (lie_cons (by first | exact hx108_23 | simpa using hx108_23) (lie_cons (by first | exact hx108_24 | simpa using hx108_24) (lie_cons (by first | exact hx108_25 | simpa using hx108_25) (lie_cons (by first | exact hx108_26 | simpa using hx108_26) (lie_cons (by first | exact hx108_27 | simpa using hx108_27) (lie_cons (by first | exact hx108_28 | simpa using hx108_28) (lie_cons (by first | exact hx108_29 | simpa using hx108_29) (lie_cons (by first | exact hx108_30 | simpa using hx108_30) (lie_nil _ _ _)))))))))))))))))))))))))))))))) Try.underlying173 rfl (show (Try.prog.info? 173).map (·.size) = some 31 by kernel_rfl) ?_) | ((with_reducible refine gate_callee (f := 160) rfl ?_); refine goesL_ (some 23) rfl rfl Try.func160 (by kernel_rfl) rfl #[.agg #[.int .i64 ((rd_T173 l0 x5_1).f0), .int .i64 ((rd_T173 l0 x5_1).f1), .bool ((rd_T173 l0 x5_1).f2), .int .i64 ((rd_T173 l0 x5_1).f3.f0), .int .i64 ((rd_T173 l0 x5_1).f3.f1), .int .i64 ((rd_T173 l0 x5_1).f3.f2), .int .i64 ((rd_T173 l0 x5_1).f3.f3), .int .i64 ((rd_T173 l0 x5_1).f3.f4), .int .i64 ((rd_T173 l0 x5_1).f3.f5), .slice A108_9 ((rd_T173 l0 x5_1).f4.f0).length c108_9, .slice A108_10 ((rd_T173 l0 x5_1).f4.f1).length c108_10, .bool ((rd_T173 l0 x5_1).f5), .int .i64 ((rd_T173 l0 x5_1).f6), .slice A108_13 ((rd_T173 l0 x5_1).f7).length c108_13, .int .i64 ((rd_T173 l0 x5_1).f8.f0), .int .i64 ((rd_T173 l0 x5_1).f8.f1.f0), .int .i64 ((rd_T173 l0 x5_1).f8.f1.f1), .int .i64 ((rd_T173 l0 x5_1).f8.f1.f2), .int .i64 ((rd_T173 l0 x5_1).f8.f1.f3), .int .i64 ((rd_T173 l0 x5_1).f8.f2.f0), .int .i64 ((rd_T173 l0 x5_1).f8.f2.f1), .int .i64 ((rd_T173 l0 x5_1).f8.f2.f2), .int .i64 ((rd_T173 l0 x5_1).f8.f2.f3), .int .i64 ((rd_T173 l0 x5_1).f8.f3.f0), .int .i64 ((rd_T173 l0 x5_1).f8.f3.f1), .int .i64 ((rd_T173 l0 x5_1).f8.f4.f0), .int .i64 ((rd_T173 l0 x5_1).f8.f4.f1), .int .i64 ((rd_T173 l0 x5_1).f9), .int .i64 ((rd_T173 l0 x5_1).f10), .slice A108_29 ((rd_T173 l0 x5_1).f11.f0).length c108_29, .slice A108_30 ((rd_T173 l0 x5_1).f11.f1).length c108_30], .int .i64 x1_1] rfl z1_1 ?_; (with_reducible refine (laws_szNode.calls ((rd_T173 l0 x5_1).f0) ((rd_T173 l0 x5_1).f1) ((rd_T173 l0 x5_1).f2) ((rd_T173 l0 x5_1).f3.f0) ((rd_T173 l0 x5_1).f3.f1) ((rd_T173 l0 x5_1).f3.f2) ((rd_T173 l0 x5_1).f3.f3) ((rd_T173 l0 x5_1).f3.f4) ((rd_T173 l0 x5_1).f3.f5) _ _ ((rd_T173 l0 x5_1).f4.f0) _ _ ((rd_T173 l0 x5_1).f4.f1) ((rd_T173 l0 x5_1).f5) ((rd_T173 l0 x5_1).f6) _ _ ((rd_T173 l0 x5_1).f7) ((rd_T173 l0 x5_1).f8.f0) ((rd_T173 l0 x5_1).f8.f1.f0) ((rd_T173 l0 x5_1).f8.f1.f1) ((rd_T173 l0 x5_1).f8.f1.f2) ((rd_T173 l0 x5_1).f8.f1.f3) ((rd_T173 l0 x5_1).f8.f2.f0) ((rd_T173 l0 x5_1).f8.f2.f1) ((rd_T173 l0 x5_1).f8.f2.f2) ((rd_T173 l0 x5_1).f8.f2.f3) ((rd_T173 l0 x5_1).f8.f3.f0) ((rd_T173 l0 x5_1).f8.f3.f1) ((rd_T173 l0 x5_1).f8.f4.f0) ((rd_T173 l0 x5_1).f8.f4.f1) ((rd_T173 l0 x5_1).f9) ((rd_T173 l0 x5_1).f10) _ _ ((rd_T173 l0 x5_1).f11.f0) _ _ ((rd_T173 l0 x5_1).f11.f1) x1_1 t109 _ ?side1 ?side2 ?side3 ?side4 ?side5 ?side6 ?side7 ?side8 ?side9 ?side10 A6.out).mono ?_); (case side1 => repeat (first | exact (Kd.C_below HR108_9.out HB.out) | (with_reducible refine Kd.C_alloc ?_ _) | (with_reducible refine Kd.C_drewN ?_ _) | (with_reducible refine Kd.C_drew ?_))); (case side2 => exact HC108_9.out); (case side3 => repeat (first | exact (Kd.C_below HR108_10.out HB.out) | (with_reducible refine Kd.C_alloc ?_ _) | (with_reducible refine Kd.C_drewN ?_ _) | (with_reducible refine Kd.C_drew ?_))); (case side4 => exact HC108_10.out); (case side5 => repeat (first | exact (Kd.C_below HR108_13.out HB.out) | (with_reducible refine Kd.C_alloc ?_ _) | (with_reducible refine Kd.C_drewN ?_ _) | (with_reducible refine Kd.C_drew ?_))); (case side6 => exact HC108_13.out); (case side7 => repeat (first | exact (Kd.C_below HR108_29.out HB.out) | (with_reducible refine Kd.C_alloc ?_ _) | (with_reducible refine Kd.C_drewN ?_ _) | (with_reducible refine Kd.C_drew ?_))); (case side8 => exact HC108_29.out); (case side9 => repeat (first | exact (Kd.C_below HR108_30.out HB.out) | (with_reducible refine Kd.C_alloc ?_ _) | (with_reducible refine Kd.C_drewN ?_ _) | (with_reducible refine Kd.C_drew ?_))); (case side10 => exact HC108_30.out); rintro e w9 ⟨rfl, hb⟩; refine ⟨_, rfl, ?_⟩; have n0_ := Aside0.mk (below_step z1_0 hb); clear HB; have HB := n0_; clear n0_; (try clear hb); (try clear hb2); (try clear hk); (try clear hi)))
       go_roundg k1
       case measure => have := HK1.out; omega
       case rel => exact ⟨(t109), (wrap64 (x5_1 + 1)), (by first | rfl | (simp; done) | (simp [*]; done)), (by first | rfl | (simp; done) | (simp [*]; done)), H', ⟨by have := HK1.out; omega⟩, ⟨by repeat (first | (with_reducible first | exact HB.out | apply below_alloc | apply pw_below_drewN | apply below_drew1) | exact HB.out)⟩⟩
     ·rw [if_neg c5] at H
      exact absurd H (by simp)
    ·rw [if_neg c4] at H
     have c4b0 : decide (x5_1 < (l0.length : Int)) = false := decide_eq_false c4
     clear c4
     obtain rfl := Option.some.inj H
     simp only [Option.some.injEq, Prod.mk.injEq] at H
     obtain ⟨rfl⟩ := H
     go_wp2
     go_ret
     exact ⟨by first | rfl | (simp [errW_none, errW_some] <;> rfl) | (simp [*, errW_none, errW_some] <;> rfl), by repeat (first | (with_reducible first | exact HB.out | apply below_alloc | apply pw_below_drewN | apply below_drew1) | exact HB.out)⟩

/-! ### laws_szScene: function 48 -/
def laws_szScene.f (k : Nat) (l0_0 : List (S173)) (a1 : Int) : Option (Int) := (laws_szNodeS.f k l0_0 a1).bind fun t111 => (if t111 < 0 then (some (-1)) else (some t111))
theorem laws_szScene.mono : ∀ a0 a1 k, LeO (laws_szScene.f k a0 a1) (laws_szScene.f (k + 1) a0 a1) := by
 intro a0 a1 k
 unfold laws_szScene.f
 repeat' first
   | (with_reducible exact laws_szNodeS.mono _ _ _)
   | (with_reducible exact LeO.refl _)
   | (with_reducible exact LeO.none _)
   | (with_reducible refine LeO.ite ?_ ?_)
   | (with_reducible refine LeO.bind ?_ (fun _ => ?_))
   | exact laws_szNodeS.mono _ _ _
   | exact LeO.none _
   | refine LeO.ite ?_ ?_
   | refine LeO.bind ?_ (fun _ => ?_)
set_option maxHeartbeats 8000000 in
set_option maxRecDepth 100000 in
theorem laws_szScene.calls (k : Nat) (A0_0 : Option Addr) (c0_0 : Nat) (l0_0 : List (S173)) (a1 : Int) (r : Int) (w : World) (hr0_0 : Kd.C k173 w A0_0 l0_0.length l0_0) (hc0_0 : l0_0.length ≤ c0_0) (h : laws_szScene.f k l0_0 a1 = some r) :
  Calls Try.prog 48 #[.agg #[.slice A0_0 l0_0.length c0_0], .int .i64 a1] w fun e w' => e = .returned (.int .i64 r) ∧ Below w.heap.size w w' := by
 have hu72 := Try.underlying72
 have HR0_0 := Aside0.mk hr0_0
 have HC0_0 := Aside0.mk hc0_0
 clear hr0_0 hc0_0
 have HB := Aside0.mk (Below.refl w.heap.size w)
 have H : ((laws_szNodeS.f k l0_0 a1).bind fun t111 => (if t111 < 0 then (some (-1)) else (some t111))) = some r := h
 clear h
 replace H := Option.bind_eq_some_iff.mp H
 obtain ⟨t111, A30, H⟩ := H
 replace H : (if t111 < 0 then (some (-1)) else (some t111)) = some r := H
 have A3 := Aside0.mk A30
 clear A30
 by_cases c4 : t111 < 0
 ·rw [if_pos c4] at H
  have c4b0 : decide (t111 < 0) = true := decide_eq_true c4
  clear c4
  obtain rfl := Option.some.inj H
  simp only [Option.some.injEq, Prod.mk.injEq] at H
  obtain ⟨rfl⟩ := H
  go_enter Try.func48, Try.ntmps48
  go_wp2_with (first | ((with_reducible refine gate_dst (N := 2) rfl ?_); refine box_event ?hg (N := 2) ?hd (cs := #[.slice A0_0 l0_0.length c0_0]) (t := 72) ?hr ?_; (case hd => rfl); (case hg => rfl); (case hr => first | (go_simp; done) | (go_simp; rfl)); intro gb110 hg w5 hbox hb; have n0_ := Aside0.mk (below_step z1_0 hb); have n1_ := Aside0.mk (hbox); have n2_ := Aside0.mk ((by rw [hg]; exact (below_size z1_0) : w.heap.size ≤ gb110)); have n3_ := Aside0.mk ((by rw [hg]; exact (below_size z1_0) : w.heap.size ≤ gb110)); clear HB; have HB := n0_; have BK110 := n1_; have GW110 := n2_; have GE110 := n3_; clear n0_ n1_ n2_ n3_; clear hb hbox hg; have hcz6_0 : w5.cell? ⟨gb110, 0, none⟩ = some (.slice A0_0 l0_0.length c0_0) := (blk_cell BK110.out 0).trans rfl; have hfz6_0 := blk_frozen BK110.out 0) | ((with_reducible refine gate_callee (f := 116) rfl ?_); refine goesL_ (some 8) rfl rfl Try.func116 (by kernel_rfl) rfl #[.slice A0_0 l0_0.length c0_0, .int .i64 a1] rfl z1_1 ?_; (with_reducible refine (laws_szNodeS.calls k _ _ l0_0 a1 t111 _ ?side1 ?side2 A3.out).mono ?_); (case side1 => repeat (first | exact (Kd.C_below HR0_0.out HB.out) | (with_reducible refine Kd.C_alloc ?_ _) | (with_reducible refine Kd.C_drewN ?_ _) | (with_reducible refine Kd.C_drew ?_))); (case side2 => exact HC0_0.out); rintro e w7 ⟨rfl, hb⟩; refine ⟨_, rfl, ?_⟩; have n0_ := Aside0.mk (blk_below (g := gb110) (o := .cells #[.slice A0_0 l0_0.length c0_0] 72 (0, 0)) z1_14 hb); have n1_ := Aside0.mk (below_step z1_13 hb); clear BK110; clear HB; have BK110 := n0_; have HB := n1_; clear n0_ n1_; (try clear hb); (try clear hb2); (try clear hk); (try clear hi)))
  go_ret
  exact ⟨by first | rfl | (simp [errW_none, errW_some] <;> rfl) | (simp [*, errW_none, errW_some] <;> rfl), by repeat (first | (with_reducible first | exact HB.out | apply below_alloc | apply pw_below_drewN | apply below_drew1 | refine below_set ?_ GE110.out) | exact HB.out)⟩
 ·rw [if_neg c4] at H
  have c4b0 : decide (t111 < 0) = false := decide_eq_false c4
  clear c4
  obtain rfl := Option.some.inj H
  simp only [Option.some.injEq, Prod.mk.injEq] at H
  obtain ⟨rfl⟩ := H
  go_enter Try.func48, Try.ntmps48
  go_wp2_with (first | ((with_reducible refine gate_dst (N := 2) rfl ?_); refine box_event ?hg (N := 2) ?hd (cs := #[.slice A0_0 l0_0.length c0_0]) (t := 72) ?hr ?_; (case hd => rfl); (case hg => rfl); (case hr => first | (go_simp; done) | (go_simp; rfl)); intro gb110 hg w8 hbox hb; have n0_ := Aside0.mk (below_step z1_0 hb); have n1_ := Aside0.mk (hbox); have n2_ := Aside0.mk ((by rw [hg]; exact (below_size z1_0) : w.heap.size ≤ gb110)); have n3_ := Aside0.mk ((by rw [hg]; exact (below_size z1_0) : w.heap.size ≤ gb110)); clear HB; have HB := n0_; have BK110 := n1_; have GW110 := n2_; have GE110 := n3_; clear n0_ n1_ n2_ n3_; clear hb hbox hg; have hcz9_0 : w8.cell? ⟨gb110, 0, none⟩ = some (.slice A0_0 l0_0.length c0_0) := (blk_cell BK110.out 0).trans rfl; have hfz9_0 := blk_frozen BK110.out 0) | ((with_reducible refine gate_callee (f := 116) rfl ?_); refine goesL_ (some 8) rfl rfl Try.func116 (by kernel_rfl) rfl #[.slice A0_0 l0_0.length c0_0, .int .i64 a1] rfl z1_1 ?_; (with_reducible refine (laws_szNodeS.calls k _ _ l0_0 a1 t111 _ ?side1 ?side2 A3.out).mono ?_); (case side1 => repeat (first | exact (Kd.C_below HR0_0.out HB.out) | (with_reducible refine Kd.C_alloc ?_ _) | (with_reducible refine Kd.C_drewN ?_ _) | (with_reducible refine Kd.C_drew ?_))); (case side2 => exact HC0_0.out); rintro e w10 ⟨rfl, hb⟩; refine ⟨_, rfl, ?_⟩; have n0_ := Aside0.mk (blk_below (g := gb110) (o := .cells #[.slice A0_0 l0_0.length c0_0] 72 (0, 0)) z1_14 hb); have n1_ := Aside0.mk (below_step z1_13 hb); clear BK110; clear HB; have BK110 := n0_; have HB := n1_; clear n0_ n1_; (try clear hb); (try clear hb2); (try clear hk); (try clear hi)))
  go_ret
  exact ⟨by first | rfl | (simp [errW_none, errW_some] <;> rfl) | (simp [*, errW_none, errW_some] <;> rfl), by repeat (first | (with_reducible first | exact HB.out | apply below_alloc | apply pw_below_drewN | apply below_drew1 | refine below_set ?_ GE110.out) | exact HB.out)⟩

/-! ### spec_NodeAt: function 49 -/
def spec_NodeAt.l0 : Nat → Int → Int → List (S96) → Option (Int)
 | 0, _, _, _ => none
 | k + 1, x1, x5, x113000 => if x5 < (x113000.length : Int) then (if 0 ≤ x5 then (if ((rd_T96 x113000 x5).f0) = x1 then (some x5) else (spec_NodeAt.l0 k x1 (wrap64 (x5 + 1)) x113000)) else (none)) else (some (-1))
def spec_NodeAt.f (k : Nat) (l0_0 : List (S96)) (a1 : Int) : Option (Int) := spec_NodeAt.l0 k a1 0 l0_0
theorem spec_NodeAt.mono_l : ∀ k, (∀ y0 y1 y2, LeO (spec_NodeAt.l0 k y0 y1 y2) (spec_NodeAt.l0 (k + 1) y0 y1 y2))
 | 0 => fun _ _ _ r h => by simp [spec_NodeAt.l0] at h
 | k + 1 => by
  have ih0 := spec_NodeAt.mono_l k
  ·intro y0 y1 y2
   unfold spec_NodeAt.l0
   repeat' first
   | (with_reducible exact ih0 _ _ _)
   | (with_reducible exact LeO.refl _)
   | (with_reducible exact LeO.none _)
   | (with_reducible refine LeO.ite ?_ ?_)
   | (with_reducible refine LeO.bind ?_ (fun _ => ?_))
   | exact ih0 _ _ _
   | exact LeO.none _
   | refine LeO.ite ?_ ?_
   | refine LeO.bind ?_ (fun _ => ?_)
theorem spec_NodeAt.mono : ∀ a0 a1 k, LeO (spec_NodeAt.f k a0 a1) (spec_NodeAt.f (k + 1) a0 a1) := by
 intro a0 a1 k
 have ih0 := spec_NodeAt.mono_l k
 unfold spec_NodeAt.f
 repeat' first
   | (with_reducible exact ih0 _ _ _)
   | (with_reducible exact LeO.refl _)
   | (with_reducible exact LeO.none _)
   | (with_reducible refine LeO.ite ?_ ?_)
   | (with_reducible refine LeO.bind ?_ (fun _ => ?_))
   | exact ih0 _ _ _
   | exact LeO.none _
   | refine LeO.ite ?_ ?_
   | refine LeO.bind ?_ (fun _ => ?_)
set_option maxHeartbeats 8000000 in
set_option maxRecDepth 100000 in
theorem spec_NodeAt.calls (k : Nat) (A0_0 : Option Addr) (c0_0 : Nat) (l0_0 : List (S96)) (a1 : Int) (r : Int) (w : World) (hr0_0 : Kd.C k96 w A0_0 l0_0.length l0_0) (hc0_0 : l0_0.length ≤ c0_0) (h : spec_NodeAt.f k l0_0 a1 = some r) :
  Calls Try.prog 49 #[.agg #[.slice A0_0 l0_0.length c0_0], .int .i64 a1] w fun e w' => e = .returned (.int .i64 r) ∧ Below w.heap.size w w' := by
 have hu77 := Try.underlying77
 have HR0_0 := Aside0.mk hr0_0
 have HC0_0 := Aside0.mk hc0_0
 clear hr0_0 hc0_0
 have HB := Aside0.mk (Below.refl w.heap.size w)
 have H : (spec_NodeAt.l0 k a1 0 l0_0) = some r := h
 clear h
 have H' := Aside0.mk H
 clear H
 go_enter Try.func49, Try.ntmps49
 go_wp2_with (first | ((with_reducible refine gate_dst (N := 2) rfl ?_); refine box_event ?hg (N := 2) ?hd (cs := #[.slice A0_0 l0_0.length c0_0]) (t := 77) ?hr ?_; (case hd => rfl); (case hg => rfl); (case hr => first | (go_simp; done) | (go_simp; rfl)); intro gb112 hg w3 hbox hb; have n0_ := Aside0.mk (below_step z1_0 hb); have n1_ := Aside0.mk (hbox); have n2_ := Aside0.mk ((by rw [hg]; exact (below_size z1_0) : w.heap.size ≤ gb112)); have n3_ := Aside0.mk ((by rw [hg]; exact (below_size z1_0) : w.heap.size ≤ gb112)); clear HB; have HB := n0_; have BK112 := n1_; have GW112 := n2_; have GE112 := n3_; clear n0_ n1_ n2_ n3_; clear hb hbox hg))
 go_loopg [5] k (fun kq v5 w' => ∃ (x5_1 : Int), v5 = .int .i64 x5_1 ∧ Aside0 (spec_NodeAt.l0 kq a1 x5_1 l0_0 = some r) ∧ Aside0 (kq ≤ k) ∧ Aside0 (w'.heap[gb112]? = some (.cells #[(.slice A0_0 l0_0.length c0_0)] 77 (0, 0))) ∧ Aside0 (Below w.heap.size w w'))
 case atStart => exact ⟨(0), (by first | rfl | (simp; done) | (simp [*]; done)), H', ⟨Nat.le_refl _⟩, ⟨by (with_reducible repeat (first | refine blk_drewN ?_ _ | refine blk_drew ?_ | refine blk_alloc ?_ _)); exact BK112.out⟩, ⟨by repeat (first | (with_reducible first | exact HB.out | apply below_alloc | apply pw_below_drewN | apply below_drew1 | refine below_set ?_ GE112.out) | exact HB.out)⟩⟩
 case round =>
  clear H'
  try clear p2
  obtain ⟨x5_1, rfl, HA, HK1, BK112, HB⟩ := hrel
  cases gk with
  | zero => exact absurd HA.out (by simp [spec_NodeAt.l0])
  | succ k1 =>
   have H := HA.out; clear HA
   simp only [spec_NodeAt.l0] at H
   by_cases c4 : x5_1 < (l0_0.length : Int)
   ·rw [if_pos c4] at H
    have c4b0 : decide (x5_1 < (l0_0.length : Int)) = true := decide_eq_true c4
    clear c4
    by_cases c5 : 0 ≤ x5_1
    ·rw [if_pos c5] at H
     have c5b0 : decide (0 ≤ x5_1) = true := decide_eq_true c5
     clear c5
     by_cases c6 : ((rd_T96 l0_0 x5_1).f0) = a1
     ·rw [if_pos c6] at H
      have c6b0 : (((rd_T96 l0_0 x5_1).f0) == a1) = true := beq_iff_eq.mpr c6
      have c6b1 : (((rd_T96 l0_0 x5_1).f0) != a1) = false := bne_eq_false_iff_eq.mpr c6
      clear c6
      obtain rfl := Option.some.inj H
      simp only [Option.some.injEq, Prod.mk.injEq] at H
      obtain ⟨rfl⟩ := H
      have hcz7_0 : wr.cell? ⟨gb112, 0, none⟩ = some (.slice A0_0 l0_0.length c0_0) := (blk_cell BK112.out 0).trans rfl
      have hfz7_0 := blk_frozen BK112.out 0
      have p113 : 0 ≤ (x5_1 : Int) := of_decide_eq_true (by first | (with_reducible assumption) | assumption)
      have q113 : x5_1 < (l0_0.length : Int) := of_decide_eq_true (by first | (with_reducible assumption) | assumption)
      obtain ⟨ad113, A113_9, c113_9, A113_10, c113_10, A113_13, c113_13, A113_29, c113_29, A113_30, c113_30, e113, hx113_0, hx113_1, hx113_2, hx113_3, hx113_4, hx113_5, hx113_6, hx113_7, hx113_8, hx113_9, hx113_10, hx113_11, hx113_12, hx113_13, hx113_14, hx113_15, hx113_16, hx113_17, hx113_18, hx113_19, hx113_20, hx113_21, hx113_22, hx113_23, hx113_24, hx113_25, hx113_26, hx113_27, hx113_28, hx113_29, hx113_30, hl113_9, hi113_9, hl113_10, hi113_10, hl113_13, hi113_13, hl113_29, hi113_29, hl113_30, hi113_30⟩ := at_T96 HR0_0.out x5_1 p113 q113
      cases e113
      replace hx113_0 := (HB.out.cell (World.block_lt_of_cell? w _ hx113_0)).trans hx113_0
      replace hx113_1 := (HB.out.cell (World.block_lt_of_cell? w _ hx113_1)).trans hx113_1
      replace hx113_2 := (HB.out.cell (World.block_lt_of_cell? w _ hx113_2)).trans hx113_2
      replace hx113_3 := (HB.out.cell (World.block_lt_of_cell? w _ hx113_3)).trans hx113_3
      replace hx113_4 := (HB.out.cell (World.block_lt_of_cell? w _ hx113_4)).trans hx113_4
      replace hx113_5 := (HB.out.cell (World.block_lt_of_cell? w _ hx113_5)).trans hx113_5
      replace hx113_6 := (HB.out.cell (World.block_lt_of_cell? w _ hx113_6)).trans hx113_6
      replace hx113_7 := (HB.out.cell (World.block_lt_of_cell? w _ hx113_7)).trans hx113_7
      replace hx113_8 := (HB.out.cell (World.block_lt_of_cell? w _ hx113_8)).trans hx113_8
      replace hx113_9 := (HB.out.cell (World.block_lt_of_cell? w _ hx113_9)).trans hx113_9
      replace hx113_10 := (HB.out.cell (World.block_lt_of_cell? w _ hx113_10)).trans hx113_10
      replace hx113_11 := (HB.out.cell (World.block_lt_of_cell? w _ hx113_11)).trans hx113_11
      replace hx113_12 := (HB.out.cell (World.block_lt_of_cell? w _ hx113_12)).trans hx113_12
      replace hx113_13 := (HB.out.cell (World.block_lt_of_cell? w _ hx113_13)).trans hx113_13
      replace hx113_14 := (HB.out.cell (World.block_lt_of_cell? w _ hx113_14)).trans hx113_14
      replace hx113_15 := (HB.out.cell (World.block_lt_of_cell? w _ hx113_15)).trans hx113_15
      replace hx113_16 := (HB.out.cell (World.block_lt_of_cell? w _ hx113_16)).trans hx113_16
      replace hx113_17 := (HB.out.cell (World.block_lt_of_cell? w _ hx113_17)).trans hx113_17
      replace hx113_18 := (HB.out.cell (World.block_lt_of_cell? w _ hx113_18)).trans hx113_18
      replace hx113_19 := (HB.out.cell (World.block_lt_of_cell? w _ hx113_19)).trans hx113_19
      replace hx113_20 := (HB.out.cell (World.block_lt_of_cell? w _ hx113_20)).trans hx113_20
      replace hx113_21 := (HB.out.cell (World.block_lt_of_cell? w _ hx113_21)).trans hx113_21
      replace hx113_22 := (HB.out.cell (World.block_lt_of_cell? w _ hx113_22)).trans hx113_22
      replace hx113_23 := (HB.out.cell (World.block_lt_of_cell? w _ hx113_23)).trans hx113_23
      replace hx113_24 := (HB.out.cell (World.block_lt_of_cell? w _ hx113_24)).trans hx113_24
      replace hx113_25 := (HB.out.cell (World.block_lt_of_cell? w _ hx113_25)).trans hx113_25
      replace hx113_26 := (HB.out.cell (World.block_lt_of_cell? w _ hx113_26)).trans hx113_26
      replace hx113_27 := (HB.out.cell (World.block_lt_of_cell? w _ hx113_27)).trans hx113_27
      replace hx113_28 := (HB.out.cell (World.block_lt_of_cell? w _ hx113_28)).trans hx113_28
      replace hx113_29 := (HB.out.cell (World.block_lt_of_cell? w _ hx113_29)).trans hx113_29
      replace hx113_30 := (HB.out.cell (World.block_lt_of_cell? w _ hx113_30)).trans hx113_30
      have HR113_9 := Aside0.mk hi113_9
      have HC113_9 := Aside0.mk hl113_9
      clear hi113_9 hl113_9
      have HR113_10 := Aside0.mk hi113_10
      have HC113_10 := Aside0.mk hl113_10
      clear hi113_10 hl113_10
      have HR113_13 := Aside0.mk hi113_13
      have HC113_13 := Aside0.mk hl113_13
      clear hi113_13 hl113_13
      have HR113_29 := Aside0.mk hi113_29
      have HC113_29 := Aside0.mk hl113_29
      clear hi113_29 hl113_29
      have HR113_30 := Aside0.mk hi113_30
      have HC113_30 := Aside0.mk hl113_30
      clear hi113_30 hl113_30
      replace p113 := eq_true p113
      replace q113 := eq_true q113
      go_wp2_with (first | ((with_reducible refine gate_load (t := 96) rfl ?_); refine load_event (t := 96) rfl rfl (p := ad113.add (x5_1.toNat * 31)) rfl [.int .i64 (rd_T96 l0_0 x5_1).f0, .int .i64 (rd_T96 l0_0 x5_1).f1, .bool (rd_T96 l0_0 x5_1).f2, .int .i64 (rd_T96 l0_0 x5_1).f3.f0, .int .i64 (rd_T96 l0_0 x5_1).f3.f1, .int .i64 (rd_T96 l0_0 x5_1).f3.f2, .int .i64 (rd_T96 l0_0 x5_1).f3.f3, .int .i64 (rd_T96 l0_0 x5_1).f3.f4, .int .i64 (rd_T96 l0_0 x5_1).f3.f5, .slice A113_9 (rd_T96 l0_0 x5_1).f4.f0.length c113_9, .slice A113_10 (rd_T96 l0_0 x5_1).f4.f1.length c113_10, .bool (rd_T96 l0_0 x5_1).f5, .int .i64 (rd_T96 l0_0 x5_1).f6, .slice A113_13 (rd_T96 l0_0 x5_1).f7.length c113_13, .int .i64 (rd_T96 l0_0 x5_1).f8.f0, .int .i64 (rd_T96 l0_0 x5_1).f8.f1.f0, .int .i64 (rd_T96 l0_0 x5_1).f8.f1.f1, .int .i64 (rd_T96 l0_0 x5_1).f8.f1.f2, .int .i64 (rd_T96 l0_0 x5_1).f8.f1.f3, .int .i64 (rd_T96 l0_0 x5_1).f8.f2.f0, .int .i64 (rd_T96 l0_0 x5_1).f8.f2.f1, .int .i64 (rd_T96 l0_0 x5_1).f8.f2.f2, .int .i64 (rd_T96 l0_0 x5_1).f8.f2.f3, .int .i64 (rd_T96 l0_0 x5_1).f8.f3.f0, .int .i64 (rd_T96 l0_0 x5_1).f8.f3.f1, .int .i64 (rd_T96 l0_0 x5_1).f8.f4.f0, .int .i64 (rd_T96 l0_0 x5_1).f8.f4.f1, .int .i64 (rd_T96 l0_0 x5_1).f9, .int .i64 (rd_T96 l0_0 x5_1).f10, .slice A113_29 (rd_T96 l0_0 x5_1).f11.f0.length c113_29, .slice A113_30 (rd_T96 l0_0 x5_1).f11.f1.length c113_30] _ (lie_cons (by first | exact hx113_0 | simpa using hx113_0) (lie_cons (by first | exact hx113_1 | simpa using hx113_1) (lie_cons (by first | exact hx113_2 | simpa using hx113_2) (lie_cons (by first | exact hx113_3 | simpa using hx113_3) (lie_cons (by first | exact hx113_4 | simpa using hx113_4) (lie_cons (by first | exact hx113_5 | simpa using hx113_5) (lie_cons (by first | exact hx113_6 | simpa using hx113_6) (lie_cons (by first | exact hx113_7 | simpa using hx113_7) (lie_cons (by first | exact hx113_8 | simpa using hx113_8) (lie_cons (by first | exact hx113_9 | simpa using hx113_9) (lie_cons (by first | exact hx113_10 | simpa using hx113_10) (lie_cons (by first | exact hx113_11 | simpa using hx113_11) (lie_cons (by first | exact hx113_12 | simpa using hx113_12) (lie_cons (by first | exact hx113_13 | simpa using hx113_13) (lie_cons (by first | exact hx113_14 | simpa using hx113_14) (lie_cons (by first | exact hx113_15 | simpa using hx113_15) (lie_cons (by first | exact hx113_16 | simpa using hx113_16) (lie_cons (by first | exact hx113_17 | simpa using hx113_17) (lie_cons (by first | exact hx113_18 | simpa using hx113_18) (lie_cons (by first | exact hx113_19 | simpa using hx113_19) (lie_cons (by first | exact hx113_20 | simpa using hx113_20) (lie_cons (by first | exact hx113_21 | simpa using hx113_21) (lie_cons (by first | exact hx113_22 | simpa using hx113_22) (lie_cons (by first | exact hx113_23 | simpa using hx113_23) (lie_cons (by first | exact hx113_24 | simpa using hx113_24) (lie_cons (by first | exact hx113_25 | simpa using hx113_25) (lie_cons (by first | exact hx113_26 | simpa using hx113_26) (lie_cons (by first | exact hx113_27 | simpa using hx113_27) (lie_cons (by first | exact hx113_28 | simpa using hx113_28) (lie_cons (by first | exact hx113_29 | simpa using hx113_29) (lie_cons (by first | exact hx113_30 | simpa using hx113_30) (lie_nil _ _ _)))))))))))))))))))))))))))))))) Try.underlying96 rfl (show (Try.prog.info? 96).map (·.size) = some 31 by kernel_rfl) ?_))
      go_ret
      exact ⟨by first | rfl | (simp [errW_none, errW_some] <;> rfl) | (simp [*, errW_none, errW_some] <;> rfl), by repeat (first | (with_reducible first | exact HB.out | apply below_alloc | apply pw_below_drewN | apply below_drew1 | refine below_set ?_ GE112.out) | exact HB.out)⟩
     ·rw [if_neg c6] at H
      have c6b0 : (((rd_T96 l0_0 x5_1).f0) == a1) = false := beq_eq_false_iff_ne.mpr c6
      have c6b1 : (((rd_T96 l0_0 x5_1).f0) != a1) = true := bne_iff_ne.mpr c6
      have H' := Aside0.mk H
      clear H
      have hcz8_0 : wr.cell? ⟨gb112, 0, none⟩ = some (.slice A0_0 l0_0.length c0_0) := (blk_cell BK112.out 0).trans rfl
      have hfz8_0 := blk_frozen BK112.out 0
      have p113 : 0 ≤ (x5_1 : Int) := of_decide_eq_true (by first | (with_reducible assumption) | assumption)
      have q113 : x5_1 < (l0_0.length : Int) := of_decide_eq_true (by first | (with_reducible assumption) | assumption)
      obtain ⟨ad113, A113_9, c113_9, A113_10, c113_10, A113_13, c113_13, A113_29, c113_29, A113_30, c113_30, e113, hx113_0, hx113_1, hx113_2, hx113_3, hx113_4, hx113_5, hx113_6, hx113_7, hx113_8, hx113_9, hx113_10, hx113_11, hx113_12, hx113_13, hx113_14, hx113_15, hx113_16, hx113_17, hx113_18, hx113_19, hx113_20, hx113_21, hx113_22, hx113_23, hx113_24, hx113_25, hx113_26, hx113_27, hx113_28, hx113_29, hx113_30, hl113_9, hi113_9, hl113_10, hi113_10, hl113_13, hi113_13, hl113_29, hi113_29, hl113_30, hi113_30⟩ := at_T96 HR0_0.out x5_1 p113 q113
      cases e113
      replace hx113_0 := (HB.out.cell (World.block_lt_of_cell? w _ hx113_0)).trans hx113_0
      replace hx113_1 := (HB.out.cell (World.block_lt_of_cell? w _ hx113_1)).trans hx113_1
      replace hx113_2 := (HB.out.cell (World.block_lt_of_cell? w _ hx113_2)).trans hx113_2
      replace hx113_3 := (HB.out.cell (World.block_lt_of_cell? w _ hx113_3)).trans hx113_3
      replace hx113_4 := (HB.out.cell (World.block_lt_of_cell? w _ hx113_4)).trans hx113_4
      replace hx113_5 := (HB.out.cell (World.block_lt_of_cell? w _ hx113_5)).trans hx113_5
      replace hx113_6 := (HB.out.cell (World.block_lt_of_cell? w _ hx113_6)).trans hx113_6
      replace hx113_7 := (HB.out.cell (World.block_lt_of_cell? w _ hx113_7)).trans hx113_7
      replace hx113_8 := (HB.out.cell (World.block_lt_of_cell? w _ hx113_8)).trans hx113_8
      replace hx113_9 := (HB.out.cell (World.block_lt_of_cell? w _ hx113_9)).trans hx113_9
      replace hx113_10 := (HB.out.cell (World.block_lt_of_cell? w _ hx113_10)).trans hx113_10
      replace hx113_11 := (HB.out.cell (World.block_lt_of_cell? w _ hx113_11)).trans hx113_11
      replace hx113_12 := (HB.out.cell (World.block_lt_of_cell? w _ hx113_12)).trans hx113_12
      replace hx113_13 := (HB.out.cell (World.block_lt_of_cell? w _ hx113_13)).trans hx113_13
      replace hx113_14 := (HB.out.cell (World.block_lt_of_cell? w _ hx113_14)).trans hx113_14
      replace hx113_15 := (HB.out.cell (World.block_lt_of_cell? w _ hx113_15)).trans hx113_15
      replace hx113_16 := (HB.out.cell (World.block_lt_of_cell? w _ hx113_16)).trans hx113_16
      replace hx113_17 := (HB.out.cell (World.block_lt_of_cell? w _ hx113_17)).trans hx113_17
      replace hx113_18 := (HB.out.cell (World.block_lt_of_cell? w _ hx113_18)).trans hx113_18
      replace hx113_19 := (HB.out.cell (World.block_lt_of_cell? w _ hx113_19)).trans hx113_19
      replace hx113_20 := (HB.out.cell (World.block_lt_of_cell? w _ hx113_20)).trans hx113_20
      replace hx113_21 := (HB.out.cell (World.block_lt_of_cell? w _ hx113_21)).trans hx113_21
      replace hx113_22 := (HB.out.cell (World.block_lt_of_cell? w _ hx113_22)).trans hx113_22
      replace hx113_23 := (HB.out.cell (World.block_lt_of_cell? w _ hx113_23)).trans hx113_23
      replace hx113_24 := (HB.out.cell (World.block_lt_of_cell? w _ hx113_24)).trans hx113_24
      replace hx113_25 := (HB.out.cell (World.block_lt_of_cell? w _ hx113_25)).trans hx113_25
      replace hx113_26 := (HB.out.cell (World.block_lt_of_cell? w _ hx113_26)).trans hx113_26
      replace hx113_27 := (HB.out.cell (World.block_lt_of_cell? w _ hx113_27)).trans hx113_27
      replace hx113_28 := (HB.out.cell (World.block_lt_of_cell? w _ hx113_28)).trans hx113_28
      replace hx113_29 := (HB.out.cell (World.block_lt_of_cell? w _ hx113_29)).trans hx113_29
      replace hx113_30 := (HB.out.cell (World.block_lt_of_cell? w _ hx113_30)).trans hx113_30
      have HR113_9 := Aside0.mk hi113_9
      have HC113_9 := Aside0.mk hl113_9
      clear hi113_9 hl113_9
      have HR113_10 := Aside0.mk hi113_10
      have HC113_10 := Aside0.mk hl113_10
      clear hi113_10 hl113_10
      have HR113_13 := Aside0.mk hi113_13
      have HC113_13 := Aside0.mk hl113_13
      clear hi113_13 hl113_13
      have HR113_29 := Aside0.mk hi113_29
      have HC113_29 := Aside0.mk hl113_29
      clear hi113_29 hl113_29
      have HR113_30 := Aside0.mk hi113_30
      have HC113_30 := Aside0.mk hl113_30
      clear hi113_30 hl113_30
      replace p113 := eq_true p113
      replace q113 := eq_true q113
      go_wp2_with (first | ((with_reducible refine gate_load (t := 96) rfl ?_); refine load_event (t := 96) rfl rfl (p := ad113.add (x5_1.toNat * 31)) rfl [.int .i64 (rd_T96 l0_0 x5_1).f0, .int .i64 (rd_T96 l0_0 x5_1).f1, .bool (rd_T96 l0_0 x5_1).f2, .int .i64 (rd_T96 l0_0 x5_1).f3.f0, .int .i64 (rd_T96 l0_0 x5_1).f3.f1, .int .i64 (rd_T96 l0_0 x5_1).f3.f2, .int .i64 (rd_T96 l0_0 x5_1).f3.f3, .int .i64 (rd_T96 l0_0 x5_1).f3.f4, .int .i64 (rd_T96 l0_0 x5_1).f3.f5, .slice A113_9 (rd_T96 l0_0 x5_1).f4.f0.length c113_9, .slice A113_10 (rd_T96 l0_0 x5_1).f4.f1.length c113_10, .bool (rd_T96 l0_0 x5_1).f5, .int .i64 (rd_T96 l0_0 x5_1).f6, .slice A113_13 (rd_T96 l0_0 x5_1).f7.length c113_13, .int .i64 (rd_T96 l0_0 x5_1).f8.f0, .int .i64 (rd_T96 l0_0 x5_1).f8.f1.f0, .int .i64 (rd_T96 l0_0 x5_1).f8.f1.f1, .int .i64 (rd_T96 l0_0 x5_1).f8.f1.f2, .int .i64 (rd_T96 l0_0 x5_1).f8.f1.f3, .int .i64 (rd_T96 l0_0 x5_1).f8.f2.f0, .int .i64 (rd_T96 l0_0 x5_1).f8.f2.f1, .int .i64 (rd_T96 l0_0 x5_1).f8.f2.f2, .int .i64 (rd_T96 l0_0 x5_1).f8.f2.f3, .int .i64 (rd_T96 l0_0 x5_1).f8.f3.f0, .int .i64 (rd_T96 l0_0 x5_1).f8.f3.f1, .int .i64 (rd_T96 l0_0 x5_1).f8.f4.f0, .int .i64 (rd_T96 l0_0 x5_1).f8.f4.f1, .int .i64 (rd_T96 l0_0 x5_1).f9, .int .i64 (rd_T96 l0_0 x5_1).f10, .slice A113_29 (rd_T96 l0_0 x5_1).f11.f0.length c113_29, .slice A113_30 (rd_T96 l0_0 x5_1).f11.f1.length c113_30] _ (lie_cons (by first | exact hx113_0 | simpa using hx113_0) (lie_cons (by first | exact hx113_1 | simpa using hx113_1) (lie_cons (by first | exact hx113_2 | simpa using hx113_2) (lie_cons (by first | exact hx113_3 | simpa using hx113_3) (lie_cons (by first | exact hx113_4 | simpa using hx113_4) (lie_cons (by first | exact hx113_5 | simpa using hx113_5) (lie_cons (by first | exact hx113_6 | simpa using hx113_6) (lie_cons (by first | exact hx113_7 | simpa using hx113_7) (lie_cons (by first | exact hx113_8 | simpa using hx113_8) (lie_cons (by first | exact hx113_9 | simpa using hx113_9) (lie_cons (by first | exact hx113_10 | simpa using hx113_10) (lie_cons (by first | exact hx113_11 | simpa using hx113_11) (lie_cons (by first | exact hx113_12 | simpa using hx113_12) (lie_cons (by first | exact hx113_13 | simpa using hx113_13) (lie_cons (by first | exact hx113_14 | simpa using hx113_14) (lie_cons (by first | exact hx113_15 | simpa using hx113_15) (lie_cons (by first | exact hx113_16 | simpa using hx113_16) (lie_cons (by first | exact hx113_17 | simpa using hx113_17) (lie_cons (by first | exact hx113_18 | simpa using hx113_18) (lie_cons (by first | exact hx113_19 | simpa using hx113_19) (lie_cons (by first | exact hx113_20 | simpa using hx113_20) (lie_cons (by first | exact hx113_21 | simpa using hx113_21) (lie_cons (by first | exact hx113_22 | simpa using hx113_22) (lie_cons (by first | exact hx113_23 | simpa using hx113_23) (lie_cons (by first | exact hx113_24 | simpa using hx113_24) (lie_cons (by first | exact hx113_25 | simpa using hx113_25) (lie_cons (by first | exact hx113_26 | simpa using hx113_26) (lie_cons (by first | exact hx113_27 | simpa using hx113_27) (lie_cons (by first | exact hx113_28 | simpa using hx113_28) (lie_cons (by first | exact hx113_29 | simpa using hx113_29) (lie_cons (by first | exact hx113_30 | simpa using hx113_30) (lie_nil _ _ _)))))))))))))))))))))))))))))))) Try.underlying96 rfl (show (Try.prog.info? 96).map (·.size) = some 31 by kernel_rfl) ?_))
      go_roundg k1
      case measure => have := HK1.out; omega
      case rel => exact ⟨(wrap64 (x5_1 + 1)), (by first | rfl | (simp; done) | (simp [*]; done)), H', ⟨by have := HK1.out; omega⟩, ⟨by (with_reducible repeat (first | refine blk_drewN ?_ _ | refine blk_drew ?_ | refine blk_alloc ?_ _)); exact BK112.out⟩, ⟨by repeat (first | (with_reducible first | exact HB.out | apply below_alloc | apply pw_below_drewN | apply below_drew1 | refine below_set ?_ GE112.out) | exact HB.out)⟩⟩
    ·rw [if_neg c5] at H
     exact absurd H (by simp)
   ·rw [if_neg c4] at H
    have c4b0 : decide (x5_1 < (l0_0.length : Int)) = false := decide_eq_false c4
    clear c4
    obtain rfl := Option.some.inj H
    simp only [Option.some.injEq, Prod.mk.injEq] at H
    obtain ⟨rfl⟩ := H
    have hcz9_0 : wr.cell? ⟨gb112, 0, none⟩ = some (.slice A0_0 l0_0.length c0_0) := (blk_cell BK112.out 0).trans rfl
    have hfz9_0 := blk_frozen BK112.out 0
    go_wp2
    go_ret
    exact ⟨by first | rfl | (simp [errW_none, errW_some] <;> rfl) | (simp [*, errW_none, errW_some] <;> rfl), by repeat (first | (with_reducible first | exact HB.out | apply below_alloc | apply pw_below_drewN | apply below_drew1 | refine below_set ?_ GE112.out) | exact HB.out)⟩

/-! ### laws_toIntS: function 72 -/
def laws_toIntS.l0 : Nat → List Int → List Int → Int → Option (List Int)
 | 0, _, _, _ => none
 | k + 1, x0, x3, x4 => if x4 < (x0.length : Int) then (if 0 ≤ x4 then (if x4 < (x3.length : Int) then (laws_toIntS.l0 k x0 (x3.set (x4 : Int).toNat (rd x0 x4)) (wrap64 (x4 + 1))) else (none)) else (none)) else (some x3)
def laws_toIntS.f (k : Nat) (l0 : List Int) : Option (List Int) := if 0 ≤ (l0.length : Int) then (if ((l0.length : Int) : Int).toNat ≤ 35184372088832 then (laws_toIntS.l0 k l0 (List.replicate ((l0.length : Int) : Int).toNat 0) 0) else (none)) else (none)
theorem laws_toIntS.mono_l : ∀ k, (∀ y0 y1 y2, LeO (laws_toIntS.l0 k y0 y1 y2) (laws_toIntS.l0 (k + 1) y0 y1 y2))
 | 0 => fun _ _ _ r h => by simp [laws_toIntS.l0] at h
 | k + 1 => by
  have ih0 := laws_toIntS.mono_l k
  ·intro y0 y1 y2
   unfold laws_toIntS.l0
   repeat' first
   | (with_reducible exact ih0 _ _ _)
   | (with_reducible exact LeO.refl _)
   | (with_reducible exact LeO.none _)
   | (with_reducible refine LeO.ite ?_ ?_)
   | (with_reducible refine LeO.bind ?_ (fun _ => ?_))
   | exact ih0 _ _ _
   | exact LeO.none _
   | refine LeO.ite ?_ ?_
   | refine LeO.bind ?_ (fun _ => ?_)
theorem laws_toIntS.mono : ∀ a0 k, LeO (laws_toIntS.f k a0) (laws_toIntS.f (k + 1) a0) := by
 intro a0 k
 have ih0 := laws_toIntS.mono_l k
 unfold laws_toIntS.f
 repeat' first
   | (with_reducible exact ih0 _ _ _)
   | (with_reducible exact LeO.refl _)
   | (with_reducible exact LeO.none _)
   | (with_reducible refine LeO.ite ?_ ?_)
   | (with_reducible refine LeO.bind ?_ (fun _ => ?_))
   | exact ih0 _ _ _
   | exact LeO.none _
   | refine LeO.ite ?_ ?_
   | refine LeO.bind ?_ (fun _ => ?_)
set_option maxHeartbeats 8000000 in
set_option maxRecDepth 100000 in
theorem laws_toIntS.calls (k : Nat) (A0 : Option Addr) (c0 : Nat) (l0 : List Int) (r : List Int) (w : World) (hr0 : Kd.C (Kd.int .i64) w A0 l0.length l0) (hc0 : l0.length ≤ c0) (h : laws_toIntS.f k l0 = some r) :
  Calls Try.prog 72 #[.slice A0 l0.length c0] w fun e w' => ∃ v0_ : Value, e = .returned (v0_) ∧ Kd.R (Kd.int .i64) 3 w' w.heap.size (fun _ => True) v0_ r ∧ Below w.heap.size w w' := by
 have HR0 := Aside0.mk hr0
 have HC0 := Aside0.mk hc0
 clear hr0 hc0
 have HB := Aside0.mk (Below.refl w.heap.size w)
 have H : (if 0 ≤ (l0.length : Int) then (if ((l0.length : Int) : Int).toNat ≤ 35184372088832 then (laws_toIntS.l0 k l0 (List.replicate ((l0.length : Int) : Int).toNat 0) 0) else (none)) else (none)) = some r := h
 clear h
 by_cases c2 : 0 ≤ (l0.length : Int)
 ·rw [if_pos c2] at H
  have c2b0 := eq_true c2
  have c2b1 : decide (0 ≤ (l0.length : Int)) = true := decide_eq_true c2
  clear c2
  by_cases c3 : ((l0.length : Int) : Int).toNat ≤ 35184372088832
  ·rw [if_pos c3] at H
   have c3b0 := eq_true c3
   have c3b1 : decide (((l0.length : Int) : Int).toNat ≤ 35184372088832) = true := decide_eq_true c3
   clear c3
   obtain ⟨y114, hy114⟩ : ∃ y_ : List Int, y_ = (List.replicate ((l0.length : Int) : Int).toNat 0) := ⟨_, rfl⟩
   replace H : (laws_toIntS.l0 k l0 y114 0) = some r := by first | (rw [hy114]; with_reducible exact H) | (have H2_ := (Option.bind_some _ _).symm.trans H; rw [hy114]; with_reducible exact H2_) | (have H2_ := (Option.bind_some _ _).symm.trans H; with_reducible exact H2_) | with_reducible exact H | (rw [hy114]; exact H) | exact H
   have Ny114 := Aside0.mk hy114
   clear hy114
   have H' := Aside0.mk H
   clear H
   go_enter Try.func72, Try.ntmps72
   go_wp2_with (first | ((with_reducible refine gate_dst (N := 7) rfl ?_); refine Kd.R_make (Kd.int .i64) _ 3 rfl (N := 7) rfl 26 _ _ rfl (l0.length : Int) rfl rfl Try.underlying26 (.int .i64 0) 8 info3 rfl (by decide) (by omega) 0 (ok := fun _ => True) (okp := fun _ => True) rfl (fun _ hk => hk) trivial (of_decide_eq_true (by first | (with_reducible assumption) | assumption)) (Nat.le_trans (Nat.mul_le_mul_right _ (of_decide_eq_true (by first | (with_reducible assumption) | assumption) : (l0.length : Int).toNat ≤ 35184372088832)) (by omega)) (Below.refl _ _) (Nat.le_refl _) ?_; intro v115 w4 ho5 hb hg_ hnew_; clear hg_ hnew_; (first | rw [← Ny114.out] at ho5 | (simp only [Int.reduceToNat] at ho5; rw [← Ny114.out] at ho5)); have n0_ := Aside0.mk (Kd.R_lower ho5 (below_size z1_0)); have n1_ := Aside0.mk (below_step z1_0 hb); clear HB; have HO116 := n0_; have HB := n1_; clear n0_ n1_; clear hb ho5))
   go_loopg [4] k (fun kq v4 w' => ∃ (x3_1 : List Int) (x4_1 : Int), v4 = .int .i64 x4_1 ∧ Aside0 (laws_toIntS.l0 kq l0 x3_1 x4_1 = some r) ∧ Aside0 (kq ≤ k) ∧ Aside0 (Kd.R (Kd.int .i64) 3 w' w.heap.size (fun _ => True) v115 x3_1) ∧ Aside0 (Below w.heap.size w w'))
   case atStart => exact ⟨(y114), (0), (by first | rfl | (simp; done) | (simp [*]; done)), H', ⟨Nat.le_refl _⟩, ⟨by (with_reducible repeat (first | apply Kd.R_alloc | apply Kd.R_drewN | apply Kd.R_drew)); exact HO116.out⟩, ⟨by repeat (first | (with_reducible first | exact HB.out | apply below_alloc | apply pw_below_drewN | apply below_drew1) | exact HB.out)⟩⟩
   case round =>
    clear H'
    try clear c2
    try clear c2b0
    try clear c2b1
    try clear p2
    try clear c3
    try clear c3b0
    try clear c3b1
    obtain ⟨x3_1, x4_1, rfl, HA, HK1, HO_3, HB⟩ := hrel
    cases gk with
    | zero => exact absurd HA.out (by simp [laws_toIntS.l0])
    | succ k1 =>
     have H := HA.out; clear HA
     simp only [laws_toIntS.l0] at H
     by_cases c6 : x4_1 < (l0.length : Int)
     ·rw [if_pos c6] at H
      have c6b0 : decide (x4_1 < (l0.length : Int)) = true := decide_eq_true c6
      clear c6
      by_cases c7 : 0 ≤ x4_1
      ·rw [if_pos c7] at H
       have c7b0 : decide (0 ≤ x4_1) = true := decide_eq_true c7
       clear c7
       by_cases c8 : x4_1 < (x3_1.length : Int)
       ·rw [if_pos c8] at H
        have c8b0 : decide (x4_1 < (x3_1.length : Int)) = true := decide_eq_true c8
        clear c8
        obtain ⟨y118, hy118⟩ : ∃ y_ : List Int, y_ = (x3_1.set (x4_1 : Int).toNat (rd l0 x4_1)) := ⟨_, rfl⟩
        replace H : (laws_toIntS.l0 k1 l0 y118 (wrap64 (x4_1 + 1))) = some r := by first | (rw [hy118]; with_reducible exact H) | (have H2_ := (Option.bind_some _ _).symm.trans H; rw [hy118]; with_reducible exact H2_) | (have H2_ := (Option.bind_some _ _).symm.trans H; with_reducible exact H2_) | with_reducible exact H | (rw [hy118]; exact H) | exact H
        have Ny118 := Aside0.mk hy118
        clear hy118
        have H' := Aside0.mk H
        clear H
        have p117 : 0 ≤ (x4_1 : Int) := of_decide_eq_true (by first | (with_reducible assumption) | assumption)
        have q117 : x4_1 < (l0.length : Int) := of_decide_eq_true (by first | (with_reducible assumption) | assumption)
        obtain ⟨ad117, e117, hx117_0⟩ := Kd.at_int HR0.out x4_1 p117 q117
        cases e117
        replace hx117_0 := (HB.out.cell (World.block_lt_of_cell? w _ hx117_0)).trans hx117_0
        replace p117 := eq_true p117
        replace q117 := eq_true q117
        have p9 : 0 ≤ (x4_1 : Int) := of_decide_eq_true (by first | (with_reducible assumption) | assumption)
        have q9 : (x4_1 : Int) < ((x3_1.length : Int) : Int) := of_decide_eq_true (by first | (with_reducible assumption) | assumption)
        obtain ⟨go9, co9, eo9, gb9, gl9, cl9, HG9⟩ := Kd.R_form HO_3.out (by omega)
        (first | cases eo9 | (injection eo9 with ea_ en_ ec_; (first | subst ea_ | (injection ea_ with ea_; subst ea_)); subst ec_; clear en_))
        have GB9 := Aside0.mk gb9
        have GG9 := Aside0.mk HG9
        clear gb9 gl9 HG9
        obtain ⟨hx9_0, hf9_0⟩ := Kd.R_celln 0 HO_3.out (x4_1 : Int) p9 q9
        replace p9 := eq_true p9
        replace q9 := eq_true q9
        have HP10 := Kd.R_putg HO_3.out (x4_1 : Int) (rd l0 x4_1)
        go_wp2_with (first | ((with_reducible refine gate_store (t := 3) (p := 20) rfl ?_); refine store_event (t := 3) (p := 20) (v := ?vo_w11) (w1 := (wr.setCell ⟨go9, (x4_1 : Int).toNat, none⟩ (.int .i64 (rd l0 x4_1)))) ?hg ?ho ?hn ?hr ?_; (case ho => rfl); (case hg => rfl); (case hn => rfl); (case hr => first | (go_simp; done) | (go_simp; rfl) | (obtain ⟨Aq_, cq_, eq_⟩ := Kd.R_slice HO_3.out; subst eq_; first | (go_simp; done) | (go_simp; rfl))); intro w11 hw; have hg : wr.grownBy w11 (some go9) := (by rw [hw]; exact HP10.2); have hp_ : Kd.R (Kd.int .i64) 3 w11 w.heap.size (fun _ => True) (.slice (some ⟨go9, 0, none⟩) x3_1.length co9) y118 := (by rw [hw, Ny118.out]; exact HP10.1); clear HP10; have n0_ := Aside0.mk (hp_); have n1_ := Aside0.mk ((by rw [hw]; exact below_set (HB.out) GB9.out : Below w.heap.size w w11)); clear HO_3; clear HB; have HO_3 := n0_; have HB := n1_; clear n0_ n1_; clear hg hw hp_))
        go_roundg k1
        case measure => have := HK1.out; omega
        case rel => exact ⟨(y118), (wrap64 (x4_1 + 1)), (by first | rfl | (simp; done) | (simp [*]; done)), H', ⟨by have := HK1.out; omega⟩, ⟨by (with_reducible repeat (first | apply Kd.R_alloc | apply Kd.R_drewN | apply Kd.R_drew)); exact HO_3.out⟩, ⟨by repeat (first | (with_reducible first | exact HB.out | apply below_alloc | apply pw_below_drewN | apply below_drew1) | exact HB.out)⟩⟩
       ·rw [if_neg c8] at H
        exact absurd H (by simp)
      ·rw [if_neg c7] at H
       exact absurd H (by simp)
     ·rw [if_neg c6] at H
      have c6b0 : decide (x4_1 < (l0.length : Int)) = false := decide_eq_false c6
      clear c6
      obtain rfl := Option.some.inj H
      simp only [Option.some.injEq, Prod.mk.injEq] at H
      obtain ⟨rfl⟩ := H
      go_wp2
      go_ret
      exact ⟨_, by first | rfl | (simp [errW_none, errW_some] <;> rfl) | (simp [*, errW_none, errW_some] <;> rfl), by (with_reducible repeat (first | apply Kd.R_alloc | apply Kd.R_drewN | apply Kd.R_drew)); exact HO_3.out, by repeat (first | (with_reducible first | exact HB.out | apply below_alloc | apply pw_below_drewN | apply below_drew1) | exact HB.out)⟩
  ·rw [if_neg c3] at H
   exact absurd H (by simp)
 ·rw [if_neg c2] at H
  exact absurd H (by simp)

/-! ### laws_toMat: function 181 -/
def laws_toMat.f (a0_0 : Int) (a0_1 : Int) (a0_2 : Int) (a0_3 : Int) (a0_4 : Int) (a0_5 : Int) : Option (Int × Int × Int × Int × Int × Int) := some (a0_0, a0_1, a0_2, a0_3, a0_4, a0_5)
set_option maxHeartbeats 8000000 in
set_option maxRecDepth 100000 in
theorem laws_toMat.calls (a0_0 : Int) (a0_1 : Int) (a0_2 : Int) (a0_3 : Int) (a0_4 : Int) (a0_5 : Int) (r1 : Int) (r2 : Int) (r3 : Int) (r4 : Int) (r5 : Int) (r6 : Int) (w : World) (h : laws_toMat.f a0_0 a0_1 a0_2 a0_3 a0_4 a0_5 = some (r1, r2, r3, r4, r5, r6)) :
  Calls Try.prog 181 #[.agg #[.int .i64 a0_0, .int .i64 a0_1, .int .i64 a0_2, .int .i64 a0_3, .int .i64 a0_4, .int .i64 a0_5]] w fun e w' => e = .returned (.agg #[.int .i64 r1, .int .i64 r2, .int .i64 r3, .int .i64 r4, .int .i64 r5, .int .i64 r6]) ∧ Below w.heap.size w w' := by
 have hu166 := Try.underlying166
 have hu90 := Try.underlying90
 have HB := Aside0.mk (Below.refl w.heap.size w)
 have H : (some (a0_0, a0_1, a0_2, a0_3, a0_4, a0_5)) = some (r1, r2, r3, r4, r5, r6) := h
 clear h
 simp only [Option.some.injEq, Prod.mk.injEq] at H
 obtain ⟨rfl, rfl, rfl, rfl, rfl, rfl⟩ := H
 go_enter Try.func181, Try.ntmps181
 go_wp2_with (first | ((with_reducible refine gate_dst (N := 1) rfl ?_); refine box_event ?hg (N := 1) ?hd (cs := #[.int .i64 a0_0, .int .i64 a0_1, .int .i64 a0_2, .int .i64 a0_3, .int .i64 a0_4, .int .i64 a0_5]) (t := 166) ?hr ?_; (case hd => rfl); (case hg => rfl); (case hr => first | (go_simp; done) | (go_simp; rfl)); intro gb119 hg w2 hbox hb; have n0_ := Aside0.mk (below_step z1_0 hb); have n1_ := Aside0.mk (hbox); have n2_ := Aside0.mk ((by rw [hg]; exact (below_size z1_0) : w.heap.size ≤ gb119)); have n3_ := Aside0.mk ((by rw [hg]; exact (below_size z1_0) : w.heap.size ≤ gb119)); clear HB; have HB := n0_; have BK119 := n1_; have GW119 := n2_; have GE119 := n3_; clear n0_ n1_ n2_ n3_; clear hb hbox hg) | ((with_reducible refine gate_dst (N := 2) rfl ?_); refine box_event ?hg (N := 2) ?hd (cs := #[.int .i64 0, .int .i64 0, .int .i64 0, .int .i64 0, .int .i64 0, .int .i64 0]) (t := 90) ?hr ?_; (case hd => rfl); (case hg => rfl); (case hr => first | (go_simp; done) | (go_simp; rfl)); intro gb120 hg w3 hbox hb; have n0_ := Aside0.mk (blk_below (g := gb119) (o := .cells #[.int .i64 a0_0, .int .i64 a0_1, .int .i64 a0_2, .int .i64 a0_3, .int .i64 a0_4, .int .i64 a0_5] 166 (0, 0)) z1_4 hb); have n1_ := Aside0.mk (below_step z1_8 hb); have n2_ := Aside0.mk (hbox); have n3_ := Aside0.mk ((by rw [hg]; exact (below_size z1_8) : w.heap.size ≤ gb120)); have n4_ := Aside0.mk ((by rw [hg]; exact (below_size z1_8) : w.heap.size ≤ gb120)); have n5_ := Aside0.mk ((by rw [hg]; exact Nat.ne_of_lt (blk_lt (g := gb119) (o := .cells #[.int .i64 a0_0, .int .i64 a0_1, .int .i64 a0_2, .int .i64 a0_3, .int .i64 a0_4, .int .i64 a0_5] 166 (0, 0)) z1_4) : gb119 ≠ gb120)); have n6_ := Aside0.mk ((by rw [hg]; exact Nat.ne_of_gt (blk_lt (g := gb119) (o := .cells #[.int .i64 a0_0, .int .i64 a0_1, .int .i64 a0_2, .int .i64 a0_3, .int .i64 a0_4, .int .i64 a0_5] 166 (0, 0)) z1_4) : gb120 ≠ gb119)); clear BK119; clear HB; have BK119 := n0_; have HB := n1_; have BK120 := n2_; have GW120 := n3_; have GE120 := n4_; have NB119_120 := n5_; have NB120_119 := n6_; clear n0_ n1_ n2_ n3_ n4_ n5_ n6_; clear hb hbox hg) | ((with_reducible refine gate_dst (N := 3) rfl ?_); refine box_event ?hg (N := 3) ?hd (cs := #[.int .i64 0, .int .i64 0, .int .i64 0, .int .i64 0, .int .i64 0, .int .i64 0]) (t := 90) ?hr ?_; (case hd => rfl); (case hg => rfl); (case hr => first | (go_simp; done) | (go_simp; rfl)); intro gb121 hg w4 hbox hb; have n0_ := Aside0.mk (blk_below (g := gb119) (o := .cells #[.int .i64 a0_0, .int .i64 a0_1, .int .i64 a0_2, .int .i64 a0_3, .int .i64 a0_4, .int .i64 a0_5] 166 (0, 0)) z1_4 hb); have n1_ := Aside0.mk (blk_below (g := gb120) (o := .cells #[.int .i64 0, .int .i64 0, .int .i64 0, .int .i64 0, .int .i64 0, .int .i64 0] 90 (0, 0)) z1_10 hb); have n2_ := Aside0.mk (below_step z1_6 hb); have n3_ := Aside0.mk (hbox); have n4_ := Aside0.mk ((by rw [hg]; exact (below_size z1_6) : w.heap.size ≤ gb121)); have n5_ := Aside0.mk ((by rw [hg]; exact (below_size z1_6) : w.heap.size ≤ gb121)); have n6_ := Aside0.mk ((by rw [hg]; exact Nat.ne_of_lt (blk_lt (g := gb119) (o := .cells #[.int .i64 a0_0, .int .i64 a0_1, .int .i64 a0_2, .int .i64 a0_3, .int .i64 a0_4, .int .i64 a0_5] 166 (0, 0)) z1_4) : gb119 ≠ gb121)); have n7_ := Aside0.mk ((by rw [hg]; exact Nat.ne_of_gt (blk_lt (g := gb119) (o := .cells #[.int .i64 a0_0, .int .i64 a0_1, .int .i64 a0_2, .int .i64 a0_3, .int .i64 a0_4, .int .i64 a0_5] 166 (0, 0)) z1_4) : gb121 ≠ gb119)); have n8_ := Aside0.mk ((by rw [hg]; exact Nat.ne_of_lt (blk_lt (g := gb120) (o := .cells #[.int .i64 0, .int .i64 0, .int .i64 0, .int .i64 0, .int .i64 0, .int .i64 0] 90 (0, 0)) z1_10) : gb120 ≠ gb121)); have n9_ := Aside0.mk ((by rw [hg]; exact Nat.ne_of_gt (blk_lt (g := gb120) (o := .cells #[.int .i64 0, .int .i64 0, .int .i64 0, .int .i64 0, .int .i64 0, .int .i64 0] 90 (0, 0)) z1_10) : gb121 ≠ gb120)); clear BK119; clear BK120; clear HB; have BK119 := n0_; have BK120 := n1_; have HB := n2_; have BK121 := n3_; have GW121 := n4_; have GE121 := n5_; have NB119_121 := n6_; have NB121_119 := n7_; have NB120_121 := n8_; have NB121_120 := n9_; clear n0_ n1_ n2_ n3_ n4_ n5_ n6_ n7_ n8_ n9_; clear hb hbox hg; have hnb5 := NB119_120.out; have hnc5 := NB120_119.out; have hnb6 := NB119_121.out; have hnc6 := NB121_119.out; have hcz7_0 : w4.cell? ⟨gb119, 0, none⟩ = some (.int .i64 a0_0) := (blk_cell BK119.out 0).trans rfl; have hcz7_1 : w4.cell? ⟨gb119, 1, none⟩ = some (.int .i64 a0_1) := (blk_cell BK119.out 1).trans rfl; have hcz7_2 : w4.cell? ⟨gb119, 2, none⟩ = some (.int .i64 a0_2) := (blk_cell BK119.out 2).trans rfl; have hcz7_3 : w4.cell? ⟨gb119, 3, none⟩ = some (.int .i64 a0_3) := (blk_cell BK119.out 3).trans rfl; have hcz7_4 : w4.cell? ⟨gb119, 4, none⟩ = some (.int .i64 a0_4) := (blk_cell BK119.out 4).trans rfl; have hcz7_5 : w4.cell? ⟨gb119, 5, none⟩ = some (.int .i64 a0_5) := (blk_cell BK119.out 5).trans rfl; have hfz7_0 := blk_frozen BK119.out 0; have hfz7_1 := blk_frozen BK119.out 1; have hfz7_2 := blk_frozen BK119.out 2; have hfz7_3 := blk_frozen BK119.out 3; have hfz7_4 := blk_frozen BK119.out 4; have hfz7_5 := blk_frozen BK119.out 5; have hnb8 := NB121_120.out; have hnc8 := NB120_121.out; have hcz9_0 : w4.cell? ⟨gb121, 0, none⟩ = some (.int .i64 0) := (blk_cell BK121.out 0).trans rfl; have hcz9_1 : w4.cell? ⟨gb121, 1, none⟩ = some (.int .i64 0) := (blk_cell BK121.out 1).trans rfl; have hcz9_2 : w4.cell? ⟨gb121, 2, none⟩ = some (.int .i64 0) := (blk_cell BK121.out 2).trans rfl; have hcz9_3 : w4.cell? ⟨gb121, 3, none⟩ = some (.int .i64 0) := (blk_cell BK121.out 3).trans rfl; have hcz9_4 : w4.cell? ⟨gb121, 4, none⟩ = some (.int .i64 0) := (blk_cell BK121.out 4).trans rfl; have hcz9_5 : w4.cell? ⟨gb121, 5, none⟩ = some (.int .i64 0) := (blk_cell BK121.out 5).trans rfl; have hfz9_0 := blk_frozen BK121.out 0; have hfz9_1 := blk_frozen BK121.out 1; have hfz9_2 := blk_frozen BK121.out 2; have hfz9_3 := blk_frozen BK121.out 3; have hfz9_4 := blk_frozen BK121.out 4; have hfz9_5 := blk_frozen BK121.out 5; have hcz10_0 : w4.cell? ⟨gb120, 0, none⟩ = some (.int .i64 0) := (blk_cell BK120.out 0).trans rfl; have hcz10_1 : w4.cell? ⟨gb120, 1, none⟩ = some (.int .i64 0) := (blk_cell BK120.out 1).trans rfl; have hcz10_2 : w4.cell? ⟨gb120, 2, none⟩ = some (.int .i64 0) := (blk_cell BK120.out 2).trans rfl; have hcz10_3 : w4.cell? ⟨gb120, 3, none⟩ = some (.int .i64 0) := (blk_cell BK120.out 3).trans rfl; have hcz10_4 : w4.cell? ⟨gb120, 4, none⟩ = some (.int .i64 0) := (blk_cell BK120.out 4).trans rfl; have hcz10_5 : w4.cell? ⟨gb120, 5, none⟩ = some (.int .i64 0) := (blk_cell BK120.out 5).trans rfl; have hfz10_0 := blk_frozen BK120.out 0; have hfz10_1 := blk_frozen BK120.out 1; have hfz10_2 := blk_frozen BK120.out 2; have hfz10_3 := blk_frozen BK120.out 3; have hfz10_4 := blk_frozen BK120.out 4; have hfz10_5 := blk_frozen BK120.out 5))
 refine bodyPost_ret (results_cell_row rfl _ _ gb120 90 #[.int .i64 a0_0, .int .i64 a0_1, .int .i64 a0_2, .int .i64 a0_3, .int .i64 a0_4, .int .i64 a0_5] (0, 0) _ rfl (by (with_reducible repeat (first | refine blk_drewN ?_ _ | refine blk_drew ?_ | refine blk_alloc ?_ _)); refine blk_put (cs := #[.int .i64 a0_0, .int .i64 a0_1, .int .i64 a0_2, .int .i64 a0_3, .int .i64 a0_4, .int .i64 0]) ?_ 5 _ rfl; (with_reducible repeat (first | refine blk_drewN ?_ _ | refine blk_drew ?_ | refine blk_alloc ?_ _)); refine blk_put (cs := #[.int .i64 a0_0, .int .i64 a0_1, .int .i64 a0_2, .int .i64 a0_3, .int .i64 0, .int .i64 0]) ?_ 4 _ rfl; (with_reducible repeat (first | refine blk_drewN ?_ _ | refine blk_drew ?_ | refine blk_alloc ?_ _)); refine blk_put (cs := #[.int .i64 a0_0, .int .i64 a0_1, .int .i64 a0_2, .int .i64 0, .int .i64 0, .int .i64 0]) ?_ 3 _ rfl; (with_reducible repeat (first | refine blk_drewN ?_ _ | refine blk_drew ?_ | refine blk_alloc ?_ _)); refine blk_put (cs := #[.int .i64 a0_0, .int .i64 a0_1, .int .i64 0, .int .i64 0, .int .i64 0, .int .i64 0]) ?_ 2 _ rfl; (with_reducible repeat (first | refine blk_drewN ?_ _ | refine blk_drew ?_ | refine blk_alloc ?_ _)); refine blk_put (cs := #[.int .i64 a0_0, .int .i64 0, .int .i64 0, .int .i64 0, .int .i64 0, .int .i64 0]) ?_ 1 _ rfl; (with_reducible repeat (first | refine blk_drewN ?_ _ | refine blk_drew ?_ | refine blk_alloc ?_ _)); refine blk_put (cs := #[.int .i64 0, .int .i64 0, .int .i64 0, .int .i64 0, .int .i64 0, .int .i64 0]) ?_ 0 _ rfl; (with_reducible repeat (first | refine blk_drewN ?_ _ | refine blk_drew ?_ | refine blk_alloc ?_ _)); refine blk_far ?_ NB120_121.out _; (with_reducible repeat (first | refine blk_drewN ?_ _ | refine blk_drew ?_ | refine blk_alloc ?_ _)); refine blk_far ?_ NB120_121.out _; (with_reducible repeat (first | refine blk_drewN ?_ _ | refine blk_drew ?_ | refine blk_alloc ?_ _)); refine blk_far ?_ NB120_121.out _; (with_reducible repeat (first | refine blk_drewN ?_ _ | refine blk_drew ?_ | refine blk_alloc ?_ _)); refine blk_far ?_ NB120_121.out _; (with_reducible repeat (first | refine blk_drewN ?_ _ | refine blk_drew ?_ | refine blk_alloc ?_ _)); refine blk_far ?_ NB120_121.out _; (with_reducible repeat (first | refine blk_drewN ?_ _ | refine blk_drew ?_ | refine blk_alloc ?_ _)); refine blk_far ?_ NB120_121.out _; (with_reducible repeat (first | refine blk_drewN ?_ _ | refine blk_drew ?_ | refine blk_alloc ?_ _)); exact BK120.out) Try.underlying90 rfl (by kernel_rfl)) rfl ?_
 exact ⟨by first | rfl | (simp [errW_none, errW_some] <;> rfl) | (simp [*, errW_none, errW_some] <;> rfl), by repeat (first | (with_reducible first | exact HB.out | apply below_alloc | apply pw_below_drewN | apply below_drew1 | refine below_set ?_ GE119.out | refine below_set ?_ GE120.out | refine below_set ?_ GE121.out) | exact HB.out)⟩

/-! ### laws_toPoint: function 145 -/
def laws_toPoint.f (a0_0 : Int) (a0_1 : Int) : Option (Int × Int) := some (a0_0, a0_1)
set_option maxHeartbeats 8000000 in
set_option maxRecDepth 100000 in
theorem laws_toPoint.calls (a0_0 : Int) (a0_1 : Int) (r1 : Int) (r2 : Int) (w : World) (h : laws_toPoint.f a0_0 a0_1 = some (r1, r2)) :
  Calls Try.prog 145 #[.agg #[.int .i64 a0_0, .int .i64 a0_1]] w fun e w' => e = .returned (.agg #[.int .i64 r1, .int .i64 r2]) ∧ Below w.heap.size w w' := by
 have hu157 := Try.underlying157
 have hu32 := Try.underlying32
 have HB := Aside0.mk (Below.refl w.heap.size w)
 have H : (some (a0_0, a0_1)) = some (r1, r2) := h
 clear h
 simp only [Option.some.injEq, Prod.mk.injEq] at H
 obtain ⟨rfl, rfl⟩ := H
 go_enter Try.func145, Try.ntmps145
 go_wp2_with (first | ((with_reducible refine gate_dst (N := 1) rfl ?_); refine box_event ?hg (N := 1) ?hd (cs := #[.int .i64 a0_0, .int .i64 a0_1]) (t := 157) ?hr ?_; (case hd => rfl); (case hg => rfl); (case hr => first | (go_simp; done) | (go_simp; rfl)); intro gb122 hg w2 hbox hb; have n0_ := Aside0.mk (below_step z1_0 hb); have n1_ := Aside0.mk (hbox); have n2_ := Aside0.mk ((by rw [hg]; exact (below_size z1_0) : w.heap.size ≤ gb122)); have n3_ := Aside0.mk ((by rw [hg]; exact (below_size z1_0) : w.heap.size ≤ gb122)); clear HB; have HB := n0_; have BK122 := n1_; have GW122 := n2_; have GE122 := n3_; clear n0_ n1_ n2_ n3_; clear hb hbox hg) | ((with_reducible refine gate_dst (N := 2) rfl ?_); refine box_event ?hg (N := 2) ?hd (cs := #[.int .i64 0, .int .i64 0]) (t := 32) ?hr ?_; (case hd => rfl); (case hg => rfl); (case hr => first | (go_simp; done) | (go_simp; rfl)); intro gb123 hg w3 hbox hb; have n0_ := Aside0.mk (blk_below (g := gb122) (o := .cells #[.int .i64 a0_0, .int .i64 a0_1] 157 (0, 0)) z1_5 hb); have n1_ := Aside0.mk (below_step z1_9 hb); have n2_ := Aside0.mk (hbox); have n3_ := Aside0.mk ((by rw [hg]; exact (below_size z1_9) : w.heap.size ≤ gb123)); have n4_ := Aside0.mk ((by rw [hg]; exact (below_size z1_9) : w.heap.size ≤ gb123)); have n5_ := Aside0.mk ((by rw [hg]; exact Nat.ne_of_lt (blk_lt (g := gb122) (o := .cells #[.int .i64 a0_0, .int .i64 a0_1] 157 (0, 0)) z1_5) : gb122 ≠ gb123)); have n6_ := Aside0.mk ((by rw [hg]; exact Nat.ne_of_gt (blk_lt (g := gb122) (o := .cells #[.int .i64 a0_0, .int .i64 a0_1] 157 (0, 0)) z1_5) : gb123 ≠ gb122)); clear BK122; clear HB; have BK122 := n0_; have HB := n1_; have BK123 := n2_; have GW123 := n3_; have GE123 := n4_; have NB122_123 := n5_; have NB123_122 := n6_; clear n0_ n1_ n2_ n3_ n4_ n5_ n6_; clear hb hbox hg) | ((with_reducible refine gate_dst (N := 3) rfl ?_); refine box_event ?hg (N := 3) ?hd (cs := #[.int .i64 0, .int .i64 0]) (t := 32) ?hr ?_; (case hd => rfl); (case hg => rfl); (case hr => first | (go_simp; done) | (go_simp; rfl)); intro gb124 hg w4 hbox hb; have n0_ := Aside0.mk (blk_below (g := gb122) (o := .cells #[.int .i64 a0_0, .int .i64 a0_1] 157 (0, 0)) z1_5 hb); have n1_ := Aside0.mk (blk_below (g := gb123) (o := .cells #[.int .i64 0, .int .i64 0] 32 (0, 0)) z1_11 hb); have n2_ := Aside0.mk (below_step z1_7 hb); have n3_ := Aside0.mk (hbox); have n4_ := Aside0.mk ((by rw [hg]; exact (below_size z1_7) : w.heap.size ≤ gb124)); have n5_ := Aside0.mk ((by rw [hg]; exact (below_size z1_7) : w.heap.size ≤ gb124)); have n6_ := Aside0.mk ((by rw [hg]; exact Nat.ne_of_lt (blk_lt (g := gb122) (o := .cells #[.int .i64 a0_0, .int .i64 a0_1] 157 (0, 0)) z1_5) : gb122 ≠ gb124)); have n7_ := Aside0.mk ((by rw [hg]; exact Nat.ne_of_gt (blk_lt (g := gb122) (o := .cells #[.int .i64 a0_0, .int .i64 a0_1] 157 (0, 0)) z1_5) : gb124 ≠ gb122)); have n8_ := Aside0.mk ((by rw [hg]; exact Nat.ne_of_lt (blk_lt (g := gb123) (o := .cells #[.int .i64 0, .int .i64 0] 32 (0, 0)) z1_11) : gb123 ≠ gb124)); have n9_ := Aside0.mk ((by rw [hg]; exact Nat.ne_of_gt (blk_lt (g := gb123) (o := .cells #[.int .i64 0, .int .i64 0] 32 (0, 0)) z1_11) : gb124 ≠ gb123)); clear BK122; clear BK123; clear HB; have BK122 := n0_; have BK123 := n1_; have HB := n2_; have BK124 := n3_; have GW124 := n4_; have GE124 := n5_; have NB122_124 := n6_; have NB124_122 := n7_; have NB123_124 := n8_; have NB124_123 := n9_; clear n0_ n1_ n2_ n3_ n4_ n5_ n6_ n7_ n8_ n9_; clear hb hbox hg; have hnb5 := NB122_123.out; have hnc5 := NB123_122.out; have hnb6 := NB122_124.out; have hnc6 := NB124_122.out; have hcz7_0 : w4.cell? ⟨gb122, 0, none⟩ = some (.int .i64 a0_0) := (blk_cell BK122.out 0).trans rfl; have hcz7_1 : w4.cell? ⟨gb122, 1, none⟩ = some (.int .i64 a0_1) := (blk_cell BK122.out 1).trans rfl; have hfz7_0 := blk_frozen BK122.out 0; have hfz7_1 := blk_frozen BK122.out 1; have hnb8 := NB124_123.out; have hnc8 := NB123_124.out; have hcz9_0 : w4.cell? ⟨gb124, 0, none⟩ = some (.int .i64 0) := (blk_cell BK124.out 0).trans rfl; have hcz9_1 : w4.cell? ⟨gb124, 1, none⟩ = some (.int .i64 0) := (blk_cell BK124.out 1).trans rfl; have hfz9_0 := blk_frozen BK124.out 0; have hfz9_1 := blk_frozen BK124.out 1; have hcz10_0 : w4.cell? ⟨gb123, 0, none⟩ = some (.int .i64 0) := (blk_cell BK123.out 0).trans rfl; have hcz10_1 : w4.cell? ⟨gb123, 1, none⟩ = some (.int .i64 0) := (blk_cell BK123.out 1).trans rfl; have hfz10_0 := blk_frozen BK123.out 0; have hfz10_1 := blk_frozen BK123.out 1))
 refine bodyPost_ret (results_cell_row rfl _ _ gb123 32 #[.int .i64 a0_0, .int .i64 a0_1] (0, 0) _ rfl (by (with_reducible repeat (first | refine blk_drewN ?_ _ | refine blk_drew ?_ | refine blk_alloc ?_ _)); refine blk_put (cs := #[.int .i64 a0_0, .int .i64 0]) ?_ 1 _ rfl; (with_reducible repeat (first | refine blk_drewN ?_ _ | refine blk_drew ?_ | refine blk_alloc ?_ _)); refine blk_put (cs := #[.int .i64 0, .int .i64 0]) ?_ 0 _ rfl; (with_reducible repeat (first | refine blk_drewN ?_ _ | refine blk_drew ?_ | refine blk_alloc ?_ _)); refine blk_far ?_ NB123_124.out _; (with_reducible repeat (first | refine blk_drewN ?_ _ | refine blk_drew ?_ | refine blk_alloc ?_ _)); refine blk_far ?_ NB123_124.out _; (with_reducible repeat (first | refine blk_drewN ?_ _ | refine blk_drew ?_ | refine blk_alloc ?_ _)); exact BK123.out) Try.underlying32 rfl (by kernel_rfl)) rfl ?_
 exact ⟨by first | rfl | (simp [errW_none, errW_some] <;> rfl) | (simp [*, errW_none, errW_some] <;> rfl), by repeat (first | (with_reducible first | exact HB.out | apply below_alloc | apply pw_below_drewN | apply below_drew1 | refine below_set ?_ GE122.out | refine below_set ?_ GE123.out | refine below_set ?_ GE124.out) | exact HB.out)⟩

end Go.Proofs.Ytgdlbilpfmjeaaa.MFnExactNodeAt
