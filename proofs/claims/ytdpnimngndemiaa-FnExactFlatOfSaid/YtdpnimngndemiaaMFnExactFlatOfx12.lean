/- Functions of the program as Lean functions, and the proof that a call comes to just these: machine text of this session's own program (myprint.py). -/
import Derived.Test.YtdpnimngndemiaaMFnExactFlatOfx0
import Derived.Test.YtdpnimngndemiaaMFnExactFlatOfx2
import Derived.Test.YtdpnimngndemiaaMFnExactFlatOfx5
import Derived.Test.YtdpnimngndemiaaMFnExactFlatOfx6
import Derived.Test.YtdpnimngndemiaaMFnExactFlatOfx9
import Derived.Test.YtdpnimngndemiaaMFnExactFlatOfx10
import Derived.Test.YtdpnimngndemiaaMFnExactFlatOfx11
namespace Go.Proofs.Ytdpnimngndemiaa.MFnExactFlatOf
open Go.RowKit Go.Proofs.YtdpnimngndemiaaW.PrintWords Go.Proofs.YtdpnimngndemiaaW.PrintLast Go.Proofs.YtdpnimngndemiaaW.PrintMore
attribute [local go_sem] max2_int min2_int max_two min_two max_three min_three max_four min_four   -- for this text's walks alone
set_option linter.unusedVariables false
set_option linter.unusedSimpArgs false

theorem z12_0 {P : Prop} (h : P := by repeat (first | (with_reducible first | exact HB.out | apply below_alloc | apply pw_below_drewN | apply below_drew1 | refine below_set ?_ GE385.out | refine below_set ?_ GE402.out) | exact HB.out)) : P := h
theorem z12_1 {P : Prop} (h : P := by repeat (first | (with_reducible first | exact HB.out | apply below_alloc | apply pw_below_drewN | apply below_drew1 | refine below_set ?_ GE385.out) | exact HB.out)) : P := h
theorem z12_2 {P : Prop} (h : P := by (try simp only [List.map_toArray, List.map_cons, List.map_nil]); first | done | rfl | (simp only [List.length_drop, List.length_take]; rfl)) : P := h
theorem z12_3 {P : Prop} (h : P := by repeat (first | exact (Kd.C_below HR0_0.out HB.out) | (with_reducible refine Kd.C_alloc ?_ _) | (with_reducible refine Kd.C_drewN ?_ _) | (with_reducible refine Kd.C_drew ?_))) : P := h
theorem z12_4 {P : Prop} (h : P := by repeat (first | exact (Kd.C_below HR0_1.out HB.out) | (with_reducible refine Kd.C_alloc ?_ _) | (with_reducible refine Kd.C_drewN ?_ _) | (with_reducible refine Kd.C_drew ?_))) : P := h
theorem z12_5 {P : Prop} (h : P := by repeat (first | (with_reducible first | exact HB.out | apply below_alloc | apply pw_below_drewN | apply below_drew1) | exact HB.out)) : P := h
theorem z12_6 {P : Prop} (h : P := by (try simp only [List.map_toArray, List.map_cons, List.map_nil]); first | done | (rw [show t419.length = t403.length from (Kd.S_reads' HO_6.out).1.symm] <;> rfl) | rfl | (simp only [List.length_drop, List.length_take]; rfl)) : P := h
theorem z12_7 {P : Prop} (h : P := by repeat (first | (with_reducible first | exact HB.out | apply below_alloc | apply pw_below_drewN | apply below_drew1 | refine below_set ?_ GE385.out | refine below_set ?_ GE402.out) | exact HB.out)) : P := h
theorem z12_8 {P : Prop} (h : P := by repeat (first | exact (Kd.R_reads' HO398.out).2.2 | (with_reducible refine Kd.C_alloc ?_ _) | (with_reducible refine Kd.C_drewN ?_ _) | (with_reducible refine Kd.C_drew ?_))) : P := h
theorem z12_9 {P : Prop} (h : P := by repeat (first | exact (Kd.S_reads' HO405.out).2.2 | (with_reducible refine Kd.C_alloc ?_ _) | (with_reducible refine Kd.C_drewN ?_ _) | (with_reducible refine Kd.C_drew ?_))) : P := h
theorem z12_10 {P : Prop} (h : P := by repeat (first | exact (Kd.S_reads' HO395.out).2.2 | (with_reducible refine Kd.C_alloc ?_ _) | (with_reducible refine Kd.C_drewN ?_ _) | (with_reducible refine Kd.C_drew ?_))) : P := h
theorem z12_11 {P : Prop} (h : P := by repeat (first | exact (Kd.S_reads' HO_6.out).2.2 | (with_reducible refine Kd.C_alloc ?_ _) | (with_reducible refine Kd.C_drewN ?_ _) | (with_reducible refine Kd.C_drew ?_))) : P := h
/-! ### laws_FnExactFlatOf: function 3 -/
def laws_FnExactFlatOf.j0 : Nat → List (List (S46)) → List (List (S46)) → Bool → List Int → List (S69) → Option (Bool)
 | 0, _, _, _, _, _ => none
 | k + 1, x4, x6, x42, x386000, x386001 => if x42 = true then (some false) else ((laws_markPointSS.f k x6 1).bind fun bt418 => ((laws_heldPointSS.f k bt418.2 1).bind fun t420 => (if t420 < 0 then (some false) else (if t420 = bt418.1 then ((laws_toPath.f k x386000 x386001).bind fun bt421 => ((impl_FlatOf.f k bt421.1 bt421.2).bind fun t427 => ((laws_eqPointSS.f k t427 x4).bind fun t430 => (if t430 = true then ((laws_heldPointSS.f k bt418.2 1).bind fun t431 => (if t431 < 0 then (some false) else (if t431 = bt418.1 then (some true) else (some false)))) else (some false))))) else (some false)))))
def laws_FnExactFlatOf.f (k : Nat) (l0_0 : List Int) (l0_1 : List (S69)) : Option (Bool) := (laws_szPath.f l0_0 l0_1 1048576).bind fun t386 => (if t386 < 0 then (some true) else ((laws_toPath.f k l0_0 l0_1).bind fun bt387 => ((spec_FlatOf.f k bt387.1 bt387.2).bind fun t393 => ((laws_toPath.f k l0_0 l0_1).bind fun bt396 => ((impl_FlatOf.f k bt396.1 bt396.2).bind fun t403 => ((laws_eqPointSS.f k t403 t393).bind fun t406 => (if t406 = true then ((laws_toPath.f k l0_0 l0_1).bind fun bt407 => ((laws_eqPath.f k bt396.1 bt396.2 bt407.1 bt407.2).bind fun t413 => (if t413 = true then ((laws_markPath.f k bt396.1 bt396.2 1).bind fun bt414 => (if bt414.1 < 0 then (laws_FnExactFlatOf.j0 k t393 t403 true l0_0 l0_1) else ((laws_eqPointSS.f k t403 t393).bind fun t417 => (laws_FnExactFlatOf.j0 k t393 t403 (!t417) l0_0 l0_1)))) else (some false)))) else (some false))))))))
theorem laws_FnExactFlatOf.mono_l : ∀ k, (∀ y0 y1 y2 y3 y4, LeO (laws_FnExactFlatOf.j0 k y0 y1 y2 y3 y4) (laws_FnExactFlatOf.j0 (k + 1) y0 y1 y2 y3 y4))
 | 0 => fun _ _ _ _ _ r h => by simp [laws_FnExactFlatOf.j0] at h
 | k + 1 => by
  have ih0 := laws_FnExactFlatOf.mono_l k
  ·intro y0 y1 y2 y3 y4
   unfold laws_FnExactFlatOf.j0
   repeat' first
   | (with_reducible exact ih0 _ _ _ _ _)
   | (with_reducible exact impl_FlatOf.mono _ _ _)
   | (with_reducible exact laws_eqPath.mono _ _ _ _ _)
   | (with_reducible exact laws_eqPointSS.mono _ _ _)
   | (with_reducible exact laws_heldPointSS.mono _ _ _)
   | (with_reducible exact laws_markPath.mono _ _ _ _)
   | (with_reducible exact laws_markPointSS.mono _ _ _)
   | (with_reducible exact laws_toPath.mono _ _ _)
   | (with_reducible exact spec_FlatOf.mono _ _ _)
   | (with_reducible exact LeO.refl _)
   | (with_reducible exact LeO.none _)
   | (with_reducible refine LeO.ite ?_ ?_)
   | (with_reducible refine LeO.bind ?_ (fun _ => ?_))
theorem laws_FnExactFlatOf.mono : ∀ a0 a1 k, LeO (laws_FnExactFlatOf.f k a0 a1) (laws_FnExactFlatOf.f (k + 1) a0 a1) := by
 intro a0 a1 k
 have ih0 := laws_FnExactFlatOf.mono_l k
 unfold laws_FnExactFlatOf.f
 repeat' first
   | (with_reducible exact ih0 _ _ _ _ _)
   | (with_reducible exact impl_FlatOf.mono _ _ _)
   | (with_reducible exact laws_eqPath.mono _ _ _ _ _)
   | (with_reducible exact laws_eqPointSS.mono _ _ _)
   | (with_reducible exact laws_heldPointSS.mono _ _ _)
   | (with_reducible exact laws_markPath.mono _ _ _ _)
   | (with_reducible exact laws_markPointSS.mono _ _ _)
   | (with_reducible exact laws_toPath.mono _ _ _)
   | (with_reducible exact spec_FlatOf.mono _ _ _)
   | (with_reducible exact LeO.refl _)
   | (with_reducible exact LeO.none _)
   | (with_reducible refine LeO.ite ?_ ?_)
   | (with_reducible refine LeO.bind ?_ (fun _ => ?_))
set_option maxHeartbeats 8000000 in
set_option maxRecDepth 100000 in
theorem laws_FnExactFlatOf.calls (k : Nat) (A0_0 : Option Addr) (c0_0 : Nat) (l0_0 : List Int) (A0_1 : Option Addr) (c0_1 : Nat) (l0_1 : List (S69)) (r : Bool) (w : World) (hr0_0 : Kd.C (Kd.int .i64) w A0_0 l0_0.length l0_0) (hc0_0 : l0_0.length ≤ c0_0) (hr0_1 : Kd.C k69 w A0_1 l0_1.length l0_1) (hc0_1 : l0_1.length ≤ c0_1) (hT : r = true) (h : laws_FnExactFlatOf.f k l0_0 l0_1 = some r) :
  Calls Try.prog 3 #[.agg #[.slice A0_0 l0_0.length c0_0, .slice A0_1 l0_1.length c0_1]] w fun e w' => e = .returned (.bool r) ∧ Below w.heap.size w w' := by
 have hu25 := Try.underlying25
 have hu31 := Try.underlying31
 have HR0_0 := mk0 hr0_0
 have HC0_0 := mk0 hc0_0
 clear hr0_0 hc0_0
 have HR0_1 := mk0 hr0_1
 have HC0_1 := mk0 hc0_1
 clear hr0_1 hc0_1
 have HB := mk0 (Below.refl w.heap.size w)
 have H : ((laws_szPath.f l0_0 l0_1 1048576).bind fun t386 => (if t386 < 0 then (some true) else ((laws_toPath.f k l0_0 l0_1).bind fun bt387 => ((spec_FlatOf.f k bt387.1 bt387.2).bind fun t393 => ((laws_toPath.f k l0_0 l0_1).bind fun bt396 => ((impl_FlatOf.f k bt396.1 bt396.2).bind fun t403 => ((laws_eqPointSS.f k t403 t393).bind fun t406 => (if t406 = true then ((laws_toPath.f k l0_0 l0_1).bind fun bt407 => ((laws_eqPath.f k bt396.1 bt396.2 bt407.1 bt407.2).bind fun t413 => (if t413 = true then ((laws_markPath.f k bt396.1 bt396.2 1).bind fun bt414 => (if bt414.1 < 0 then (laws_FnExactFlatOf.j0 k t393 t403 true l0_0 l0_1) else ((laws_eqPointSS.f k t403 t393).bind fun t417 => (laws_FnExactFlatOf.j0 k t393 t403 (!t417) l0_0 l0_1)))) else (some false)))) else (some false))))))))) = some r := h
 clear h
 replace H := Option.bind_eq_some_iff.mp H
 obtain ⟨t386, A20, H⟩ := H
 try dsimp only at H
 have A2 := mk0 A20
 clear A20
 by_cases c3 : t386 < 0
 ·rw [if_pos c3] at H
  have c3b0 := decide_eq_true c3
  clear c3
  obtain rfl := Option.some.inj H
  simp only [Option.some.injEq, Prod.mk.injEq] at H
  obtain ⟨rfl⟩ := H
  go_enter Try.func3, Try.ntmps3
  go_wp2_with (first | ((with_reducible refine gate_dst (N := 1) rfl ?_); refine boxz (cs := #[.slice A0_0 l0_0.length c0_0, .slice A0_1 l0_1.length c0_1]) (t := 25) rfl ?_; intro gb385 hg w4 hbox hb; have n0_ := mk0 (below_step z12_5 hb); have n1_ := mk0 (hbox); have GW385 := mk0 (ge_go (a := w.heap.size) hg (below_size z12_5)); have GE385 := GW385; clear HB; have HB := n0_; have BK385 := n1_; clear n0_ n1_ ; clear hb hbox hg; obtain ⟨_, _, _, _⟩ := be_2 BK385.out) | ((with_reducible refine gate_callee (f := 5) rfl ?_); refine goesL_ (some 13) rfl rfl Try.func5 (by kernel_rfl) rfl #[.agg #[.slice A0_0 l0_0.length c0_0, .slice A0_1 l0_1.length c0_1], .int .i64 1048576] rfl z12_2 ?_; (with_reducible refine (laws_szPath.calls _ _ l0_0 _ _ l0_1 1048576 t386 _ ?side1 ?side2 ?side3 ?side4 A2.out).mono ?_); (case side1 => exact z12_3); (case side2 => exact HC0_0.out); (case side3 => exact z12_4); (case side4 => exact HC0_1.out); rintro e w6 ⟨rfl, hb⟩; refine ⟨_, rfl, ?_⟩; have n0_ := mk0 (blk_belowB BK385 (pkb BK385) hb); have n1_ := mk0 (below_step z12_1 hb); clear BK385 HB; have BK385 := n0_; have HB := n1_; clear n0_ n1_; (try clear hb)))
  go_ret
  exact ⟨(by first | rfl | (simp [errW_none, errW_some] <;> rfl) | (simp [*, errW_none, errW_some] <;> rfl)), z12_1⟩
 rw [if_neg c3] at H
 have c3b0 := decide_eq_false c3
 clear c3
 replace H := Option.bind_eq_some_iff.mp H
 obtain ⟨⟨t387, t390⟩, A70, H⟩ := H
 try dsimp only at H
 have A7 := mk0 A70
 clear A70
 replace H := Option.bind_eq_some_iff.mp H
 obtain ⟨t393, A80, H⟩ := H
 try dsimp only at H
 have A8 := mk0 A80
 clear A80
 replace H := Option.bind_eq_some_iff.mp H
 obtain ⟨⟨t396, t399⟩, A90, H⟩ := H
 try dsimp only at H
 have A9 := mk0 A90
 clear A90
 replace H := Option.bind_eq_some_iff.mp H
 obtain ⟨t403, A100, H⟩ := H
 try dsimp only at H
 have A10 := mk0 A100
 clear A100
 replace H := Option.bind_eq_some_iff.mp H
 obtain ⟨t406, A110, H⟩ := H
 try dsimp only at H
 have A11 := mk0 A110
 clear A110
 by_cases c12 : t406 = true
 rotate_left
 ·replace c12 := Bool.eq_false_iff.mpr c12
  subst c12
  rw [if_neg (show ¬ (false = true) by decide)] at H
  obtain rfl := Option.some.inj H
  exact absurd hT Bool.false_ne_true
 subst c12
 rw [if_pos rfl] at H
 replace H := Option.bind_eq_some_iff.mp H
 obtain ⟨⟨t407, t410⟩, A130, H⟩ := H
 try dsimp only at H
 have A13 := mk0 A130
 clear A130
 replace H := Option.bind_eq_some_iff.mp H
 obtain ⟨t413, A140, H⟩ := H
 try dsimp only at H
 have A14 := mk0 A140
 clear A140
 by_cases c15 : t413 = true
 rotate_left
 ·replace c15 := Bool.eq_false_iff.mpr c15
  subst c15
  rw [if_neg (show ¬ (false = true) by decide)] at H
  obtain rfl := Option.some.inj H
  exact absurd hT Bool.false_ne_true
 subst c15
 rw [if_pos rfl] at H
 replace H := Option.bind_eq_some_iff.mp H
 obtain ⟨⟨t414, t415, t416⟩, A160, H⟩ := H
 try dsimp only at H
 have A16 := mk0 A160
 clear A160
 have HC17 := mk0 H
 clear H
 go_enter Try.func3, Try.ntmps3
 try go_wp2_with (first | ((with_reducible refine gate_dst (N := 1) rfl ?_); refine boxz (cs := #[.slice A0_0 l0_0.length c0_0, .slice A0_1 l0_1.length c0_1]) (t := 25) rfl ?_; intro gb385 hg w18 hbox hb; have n0_ := mk0 (below_step z12_5 hb); have n1_ := mk0 (hbox); have GW385 := mk0 (ge_go (a := w.heap.size) hg (below_size z12_5)); have GE385 := GW385; clear HB; have HB := n0_; have BK385 := n1_; clear n0_ n1_ ; clear hb hbox hg; obtain ⟨_, _, _, _⟩ := be_2 BK385.out) | ((with_reducible refine gate_callee (f := 5) rfl ?_); refine goesL_ (some 13) rfl rfl Try.func5 (by kernel_rfl) rfl #[.agg #[.slice A0_0 l0_0.length c0_0, .slice A0_1 l0_1.length c0_1], .int .i64 1048576] rfl z12_2 ?_; (with_reducible refine (laws_szPath.calls _ _ l0_0 _ _ l0_1 1048576 t386 _ ?side1 ?side2 ?side3 ?side4 A2.out).mono ?_); (case side1 => exact z12_3); (case side2 => exact HC0_0.out); (case side3 => exact z12_4); (case side4 => exact HC0_1.out); rintro e w20 ⟨rfl, hb⟩; refine ⟨_, rfl, ?_⟩; have n0_ := mk0 (blk_belowB BK385 (pkb BK385) hb); have n1_ := mk0 (below_step z12_1 hb); clear BK385 HB; have BK385 := n0_; have HB := n1_; clear n0_ n1_; (try clear hb); (try clear hk); obtain ⟨_, _, _, _⟩ := be_2 BK385.out) | ((with_reducible refine gate_callee (f := 7) rfl ?_); refine goesL_ (some 17) rfl rfl Try.func7 (by kernel_rfl) rfl #[.agg #[.slice A0_0 l0_0.length c0_0, .slice A0_1 l0_1.length c0_1]] rfl z12_2 ?_; (with_reducible refine (laws_toPath.calls k _ _ l0_0 _ _ l0_1 t387 t390 _ ?side1 ?side2 ?side3 ?side4 A7.out).mono ?_); (case side1 => exact z12_3); (case side2 => exact HC0_0.out); (case side3 => exact z12_4); (case side4 => exact HC0_1.out); rintro e w22 ⟨v388, v391, rfl, ho0, ho1, hb⟩; refine ⟨_, rfl, ?_⟩; have n0_ := mk0 (Kd.R_lower ho0 (below_size z12_1)); have n1_ := mk0 (Kd.R_lower ho1 (below_size z12_1)); have n2_ := mk0 (blk_belowB BK385 (pkb BK385) hb); have n3_ := mk0 (below_step z12_1 hb); clear BK385 HB; have HO389 := n0_; have HO392 := n1_; have BK385 := n2_; have HB := n3_; clear n0_ n1_ n2_ n3_; (try clear hb); (try clear hk); (try clear ho0); (try clear ho1); obtain ⟨Ao23, co23, eo23⟩ := Kd.R_slice HO389.out; subst eo23; obtain ⟨Ao24, co24, eo24⟩ := Kd.R_slice HO392.out; subst eo24) | ((with_reducible refine gate_callee (f := 6) rfl ?_); refine goesL_ (some 18) rfl rfl Try.func6 (by kernel_rfl) rfl #[.agg #[.slice Ao23 t387.length co23, .slice Ao24 t390.length co24]] rfl z12_2 ?_; (with_reducible refine (spec_FlatOf.calls k _ _ t387 _ _ t390 t393 _ ?side1 ?side2 ?side3 ?side4 A8.out).mono ?_); (case side1 => repeat (first | exact (Kd.R_reads' HO389.out).2.2 | (with_reducible refine Kd.C_alloc ?_ _) | (with_reducible refine Kd.C_drewN ?_ _) | (with_reducible refine Kd.C_drew ?_))); (case side2 => exact (Kd.R_reads' HO389.out).2.1); (case side3 => repeat (first | exact (Kd.R_reads' HO392.out).2.2 | (with_reducible refine Kd.C_alloc ?_ _) | (with_reducible refine Kd.C_drewN ?_ _) | (with_reducible refine Kd.C_drew ?_))); (case side4 => exact (Kd.R_reads' HO392.out).2.1); rintro e w25 ⟨v394, rfl, ho0, hb⟩; refine ⟨_, rfl, ?_⟩; have n0_ := mk0 (Kd.R_below (pkR HO389) hb); have n1_ := mk0 (Kd.R_below (pkR HO392) hb); have n2_ := mk0 (Kd.S_lower (Kd.S_new' ho0 (Kd.R_lt (pkR HO392))) (below_size z12_1)); have n3_ := mk0 (blk_belowB BK385 (pkb BK385) hb); have n4_ := mk0 (below_step z12_1 hb); clear HO389 HO392 BK385 HB; have HO389 := n0_; have HO392 := n1_; have HO395 := n2_; have BK385 := n3_; have HB := n4_; clear n0_ n1_ n2_ n3_ n4_; (try clear hb); (try clear hk); (try clear ho0); obtain ⟨_, _, _, _⟩ := be_2 BK385.out) | ((with_reducible refine gate_callee (f := 7) rfl ?_); refine goesL_ (some 20) rfl rfl Try.func7 (by kernel_rfl) rfl #[.agg #[.slice A0_0 l0_0.length c0_0, .slice A0_1 l0_1.length c0_1]] rfl z12_2 ?_; (with_reducible refine (laws_toPath.calls k _ _ l0_0 _ _ l0_1 t396 t399 _ ?side1 ?side2 ?side3 ?side4 A9.out).mono ?_); (case side1 => exact z12_3); (case side2 => exact HC0_0.out); (case side3 => exact z12_4); (case side4 => exact HC0_1.out); rintro e w27 ⟨v397, v400, rfl, ho0, ho1, hb⟩; refine ⟨_, rfl, ?_⟩; have n0_ := mk0 (Kd.R_elder' (pkR HO389) (Kd.R_base ho0) hb); have n1_ := mk0 (Kd.R_elder' (pkR HO392) (Kd.R_base ho1) hb); have n2_ := mk0 (Kd.S_elder' (pkS HO395) (Kd.R_base ho1) hb); have n3_ := mk0 (Kd.R_lower (Kd.R_new' ho0 (Kd.R_lt (pkR HO389))) (below_size z12_1)); have n4_ := mk0 (Kd.R_lower (Kd.R_new' ho1 (Kd.R_lt (pkR HO392))) (below_size z12_1)); have n5_ := mk0 (blk_belowB BK385 (pkb BK385) hb); have n6_ := mk0 (below_step z12_1 hb); clear HO389 HO392 HO395 BK385 HB; have HO389 := n0_; have HO392 := n1_; have HO395 := n2_; have HO398 := n3_; have HO401 := n4_; have BK385 := n5_; have HB := n6_; clear n0_ n1_ n2_ n3_ n4_ n5_ n6_; (try clear hb); (try clear hk); (try clear ho0); (try clear ho1)) | ((with_reducible refine gate_dst (N := 5) rfl ?_); refine boxz (cs := #[.slice none 0 0, .slice none 0 0]) (t := 31) rfl ?_; intro gb402 hg w28 hbox hb; have n0_ := mk0 (Kd.R_below (pkR HO389) hb); have n1_ := mk0 (Kd.R_below (pkR HO392) hb); have n2_ := mk0 (Kd.S_below (pkS HO395) hb); have n3_ := mk0 (Kd.R_below (pkR HO398) hb); have n4_ := mk0 (Kd.R_below (pkR HO401) hb); have n5_ := mk0 (blk_belowB BK385 (pkb BK385) hb); have n6_ := mk0 (below_step z12_1 hb); have n7_ := mk0 (hbox); have GW402 := mk0 (ge_go (a := w.heap.size) hg (below_size z12_1)); have GE402 := GW402; have NB385_402 := mk0 (nb_lt hg (blk_ltB BK385 (pkb BK385))); have NB402_385 := mk0 (nb_gt hg (blk_ltB BK385 (pkb BK385))); clear HO389 HO392 HO395 HO398 HO401 BK385 HB; have HO389 := n0_; have HO392 := n1_; have HO395 := n2_; have HO398 := n3_; have HO401 := n4_; have BK385 := n5_; have HB := n6_; have BK402 := n7_; clear n0_ n1_ n2_ n3_ n4_ n5_ n6_ n7_ ; clear hb hbox hg; obtain ⟨Ao29, co29, eo29⟩ := Kd.R_slice HO398.out; subst eo29; have hnb30 := NB402_385.out; have hnc30 := NB385_402.out; obtain ⟨_, _, _, _⟩ := be_2 BK402.out; obtain ⟨Ao32, co32, eo32⟩ := Kd.R_slice HO401.out; subst eo32) | ((with_reducible refine gate_store (t := 31) (p := 5) rfl ?_); refine store_event (t := 31) (p := 5) (v := ?vo_w33) (w1 := ((w28.setCell ⟨gb402, 0, none⟩ (.slice Ao29 t396.length co29)).setCell ⟨gb402, 1, none⟩ (.slice Ao32 t399.length co32))) ?hg ?ho ?hn ?hr ?_; (case ho => rfl); (case hg => rfl); (case hn => rfl); (case hr => first | (go_simp; done) | (go_simp; rfl) | (obtain ⟨Aq_, cq_, eq_⟩ := Kd.R_slice HO389.out; subst eq_; first | (go_simp; done) | (go_simp; rfl)) | (obtain ⟨Aq_, cq_, eq_⟩ := Kd.R_slice HO392.out; subst eq_; first | (go_simp; done) | (go_simp; rfl)) | (obtain ⟨Aq_, cq_, eq_⟩ := Kd.R_slice HO395.out; subst eq_; first | (go_simp; done) | (go_simp; rfl)) | (obtain ⟨Aq_, cq_, eq_⟩ := Kd.R_slice HO398.out; subst eq_; first | (go_simp; done) | (go_simp; rfl)) | (obtain ⟨Aq_, cq_, eq_⟩ := Kd.R_slice HO401.out; subst eq_; first | (go_simp; done) | (go_simp; rfl)) | (obtain ⟨Aq0_, cq0_, eq0_⟩ := Kd.R_slice HO389.out; subst eq0_; obtain ⟨Aq1_, cq1_, eq1_⟩ := Kd.R_slice HO392.out; subst eq1_; obtain ⟨Aq2_, cq2_, eq2_⟩ := Kd.R_slice HO395.out; subst eq2_; obtain ⟨Aq3_, cq3_, eq3_⟩ := Kd.R_slice HO398.out; subst eq3_; obtain ⟨Aq4_, cq4_, eq4_⟩ := Kd.R_slice HO401.out; subst eq4_; first | (go_simp; done) | (go_simp; rfl))); intro w33 hw; have n0_ : Aside0 (Kd.R (Kd.int .i64) 3 w33 w.heap.size (fun k_ => some k_ ≠ (.slice Ao29 t396.length co29 : Value).ownBlock) (.slice Ao23 t387.length co23) t387) := ⟨(by rw [hw]; exact (by (with_reducible repeat (first | apply Kd.R_alloc | apply Kd.R_drewN | apply Kd.R_drew)); exact Kd.R_mono (Kd.R_far (p := ⟨gb402, 1, none⟩) (Kd.R_far (p := ⟨gb402, 0, none⟩) (Kd.R_types HO389.out BK402.out (by decide)) (fun _ hk => hk.2) (.slice Ao29 t396.length co29)) (fun _ hk => hk.2) (.slice Ao32 t399.length co32)) (fun _ hk => hk.1.2)))⟩; have n1_ : Aside0 (Kd.R k46 46 w33 w.heap.size (fun k_ => some k_ ≠ (.slice Ao32 t399.length co32 : Value).ownBlock) (.slice Ao24 t390.length co24) t390) := ⟨(by rw [hw]; exact (by (with_reducible repeat (first | apply Kd.R_alloc | apply Kd.R_drewN | apply Kd.R_drew)); exact Kd.R_mono (Kd.R_far (p := ⟨gb402, 1, none⟩) (Kd.R_far (p := ⟨gb402, 0, none⟩) (Kd.R_types HO392.out BK402.out (by decide)) (fun _ hk => hk.2) (.slice Ao29 t396.length co29)) (fun _ hk => hk.2) (.slice Ao32 t399.length co32)) (fun _ hk => hk.1.2)))⟩; have n2_ : Aside0 (Kd.S (Kd.slice 46 k46) 29 w33 w.heap.size (fun k_ => some k_ ≠ (.slice Ao24 t390.length co24 : Value).ownBlock ∧ some k_ ≠ (.slice Ao32 t399.length co32 : Value).ownBlock) v394 t393) := ⟨(by rw [hw]; exact (by (with_reducible repeat (first | apply Kd.S_alloc | apply Kd.S_drewN | apply Kd.S_drew)); exact Kd.S_mono (Kd.S_far (p := ⟨gb402, 1, none⟩) (Kd.S_far (p := ⟨gb402, 0, none⟩) (Kd.S_types HO395.out BK402.out (by decide)) (fun _ hk => hk.2) (.slice Ao29 t396.length co29)) (fun _ hk => hk.2) (.slice Ao32 t399.length co32)) (fun _ hk => ⟨hk.1.1.2, hk.1.2⟩)))⟩; have n3_ : Aside0 (Kd.R (Kd.int .i64) 3 w33 w.heap.size (fun k_ => some k_ ≠ (.slice Ao23 t387.length co23 : Value).ownBlock) (.slice Ao29 t396.length co29) t396) := ⟨(by rw [hw]; exact (by (with_reducible repeat (first | apply Kd.R_alloc | apply Kd.R_drewN | apply Kd.R_drew)); exact Kd.R_mono (Kd.R_far (p := ⟨gb402, 1, none⟩) (Kd.R_far (p := ⟨gb402, 0, none⟩) (Kd.R_types HO398.out BK402.out (by decide)) (fun _ hk => hk.2) (.slice Ao29 t396.length co29)) (fun _ hk => hk.2) (.slice Ao32 t399.length co32)) (fun _ hk => hk.1.2)))⟩; have n4_ : Aside0 (Kd.R k46 46 w33 w.heap.size (fun k_ => some k_ ≠ (.slice Ao24 t390.length co24 : Value).ownBlock) (.slice Ao32 t399.length co32) t399) := ⟨(by rw [hw]; exact (by (with_reducible repeat (first | apply Kd.R_alloc | apply Kd.R_drewN | apply Kd.R_drew)); exact Kd.R_mono (Kd.R_far (p := ⟨gb402, 1, none⟩) (Kd.R_far (p := ⟨gb402, 0, none⟩) (Kd.R_types HO401.out BK402.out (by decide)) (fun _ hk => hk.2) (.slice Ao29 t396.length co29)) (fun _ hk => hk.2) (.slice Ao32 t399.length co32)) (fun _ hk => hk.1.2)))⟩; have n5_ : Aside0 (w33.heap[gb385]? = some (.cells #[.slice A0_0 l0_0.length c0_0, .slice A0_1 l0_1.length c0_1] 25 (0, 0))) := ⟨(by rw [hw]; exact (by (with_reducible repeat (first | refine blk_drewN ?_ _ | refine blk_drew ?_ | refine blk_alloc ?_ _)); refine blk_far ?_ NB385_402.out _; (with_reducible repeat (first | refine blk_drewN ?_ _ | refine blk_drew ?_ | refine blk_alloc ?_ _)); refine blk_far ?_ NB385_402.out _; (with_reducible repeat (first | refine blk_drewN ?_ _ | refine blk_drew ?_ | refine blk_alloc ?_ _)); exact BK385.out))⟩; have n6_ : Aside0 (w33.heap[gb402]? = some (.cells #[.slice Ao29 t396.length co29, .slice Ao32 t399.length co32] 31 (0, 0))) := ⟨(by rw [hw]; exact (by apply blk_fin; (focus ((with_reducible repeat (first | apply blk_putQ | refine blk_drewN ?_ _ | refine blk_drew ?_ | refine blk_alloc ?_ _)); exact BK402.out)); first | (simp only [List.setIfInBounds_toArray, List.set_cons_zero, List.set_cons_succ]; done) | rfl))⟩; have n7_ : Aside0 (Below w.heap.size w w33) := ⟨(by rw [hw]; exact z12_0)⟩; clear hw HO389 HO392 HO395 HO398 HO401 BK385 BK402 HB; have HO389 := n0_; have HO392 := n1_; have HO395 := n2_; have HO398 := n3_; have HO401 := n4_; have BK385 := n5_; have BK402 := n6_; have HB := n7_; clear n0_ n1_ n2_ n3_ n4_ n5_ n6_ n7_; obtain ⟨_, _, _, _⟩ := be_2 BK402.out) | ((with_reducible refine gate_callee (f := 8) rfl ?_); refine goesL_ (some 22) rfl rfl Try.func8 (by kernel_rfl) rfl #[.agg #[.slice Ao29 t396.length co29, .slice Ao32 t399.length co32]] rfl z12_2 ?_; (with_reducible refine (impl_FlatOf.calls k _ _ t396 (fun k_ => some k_ = (.slice Ao32 t399.length co32 : Value).ownBlock) _ _ t399 t403 _ ?side1 ?side2 ?side3 A10.out).mono ?_); (case side1 => exact z12_8); (case side2 => exact (Kd.R_reads' HO398.out).2.1); (case side3 => exact Kd.R_V (Kd.R_tight rfl (Kd.R_types (Kd.R_types (Kd.R_apart' (Kd.R_apart' (Kd.R_apart' (HO401.out) (Kd.R_typed HO389.out) (by decide)) (Kd.S_typed HO395.out) (by decide)) (Kd.R_typed HO398.out) (by decide)) BK385.out (by decide)) BK402.out (by decide)))); rintro e w35 ⟨v404, rfl, ho0, hb⟩; refine ⟨_, rfl, ?_⟩; obtain ⟨n1x_, hn1x_⟩ := szx_ ho0; have n0_ := mk0 (Kd.R_below (pkR HO389) hb); have n1_ := mk0 (Kd.R_below (pkR HO392) hb); have n2_ := mk0 (oldx_ hn1x_ (pkS HO395) hb); have n3_ := mk0 (Kd.R_below (pkR HO398) hb); have n4_ := mk0 (Kd.R_below (pkR HO401) hb); have n5_ := mk0 (Kd.S_lower (Kd.S_new' (newx_ hn1x_ (Kd.S_new' (Kd.S_mono (ok' := fun k_ => True) ho0 (fun _ hk_ => trivial)) (Kd.R_lt (pkR HO392)))) (Kd.R_lt (pkR HO401))) (below_size z12_0)); have n6_ := mk0 (blk_belowB BK385 (pkb BK385) hb); have n7_ := mk0 (blk_belowB BK402 (pkb BK402) hb); have n8_ := mk0 (below_step z12_0 hb); clear HO389 HO392 hn1x_ HO395 HO398 HO401 BK385 BK402 HB; have HO389 := n0_; have HO392 := n1_; have HO395 := n2_; have HO398 := n3_; have HO401 := n4_; have HO405 := n5_; have BK385 := n6_; have BK402 := n7_; have HB := n8_; clear n0_ n1_ n2_ n3_ n4_ n5_ n6_ n7_ n8_; (try clear hb); (try clear hk); (try clear ho0); obtain ⟨Ao36, co36, eo36⟩ := Kd.S_slice HO405.out; subst eo36; obtain ⟨Ao37, co37, eo37⟩ := Kd.S_slice HO395.out; subst eo37) | ((with_reducible refine gate_callee (f := 9) rfl ?_); refine goesL_ (some 25) rfl rfl Try.func9 (by kernel_rfl) rfl #[.slice Ao36 t403.length co36, .slice Ao37 t393.length co37] rfl z12_2 ?_; (with_reducible refine (laws_eqPointSS.calls k _ _ t403 _ _ t393 true _ ?side1 ?side2 ?side3 ?side4 A11.out).mono ?_); (case side1 => exact z12_9); (case side2 => exact (Kd.S_reads' HO405.out).2.1); (case side3 => exact z12_10); (case side4 => exact (Kd.S_reads' HO395.out).2.1); rintro e w38 ⟨rfl, hb⟩; refine ⟨_, rfl, ?_⟩; have n0_ := mk0 (Kd.R_below (pkR HO389) hb); have n1_ := mk0 (Kd.R_below (pkR HO392) hb); have n2_ := mk0 (Kd.S_below (pkS HO395) hb); have n3_ := mk0 (Kd.R_below (pkR HO398) hb); have n4_ := mk0 (Kd.R_below (pkR HO401) hb); have n5_ := mk0 (Kd.S_below (pkS HO405) hb); have n6_ := mk0 (blk_belowB BK385 (pkb BK385) hb); have n7_ := mk0 (blk_belowB BK402 (pkb BK402) hb); have n8_ := mk0 (below_step z12_0 hb); clear HO389 HO392 HO395 HO398 HO401 HO405 BK385 BK402 HB; have HO389 := n0_; have HO392 := n1_; have HO395 := n2_; have HO398 := n3_; have HO401 := n4_; have HO405 := n5_; have BK385 := n6_; have BK402 := n7_; have HB := n8_; clear n0_ n1_ n2_ n3_ n4_ n5_ n6_ n7_ n8_; (try clear hb); (try clear hk)))
 have n0_ := mk0 (Kd.R_drew HO389.out)
 have n1_ := mk0 (Kd.R_drew HO392.out)
 have n2_ := mk0 (Kd.S_drew HO395.out)
 have n3_ := mk0 (Kd.R_drew HO398.out)
 have n4_ := mk0 (Kd.R_drew HO401.out)
 have n5_ := mk0 (Kd.S_drew HO405.out)
 have n6_ := mk0 (blk_drew BK385.out)
 have n7_ := mk0 (blk_drew BK402.out)
 have n8_ := mk0 (below_drew1 HB.out)
 clear HO389 HO392 HO395 HO398 HO401 HO405 BK385 BK402 HB; have HO389 := n0_; have HO392 := n1_; have HO395 := n2_; have HO398 := n3_; have HO401 := n4_; have HO405 := n5_; have BK385 := n6_; have BK402 := n7_; have HB := n8_; clear n0_ n1_ n2_ n3_ n4_ n5_ n6_ n7_ n8_
 refine start_ (n := 5) (S := fun w' => w'.cell? ⟨gb402, 0, none⟩ = some (.slice Ao29 t396.length co29) ∧ w'.cell? ⟨gb402, 1, none⟩ = some (.slice Ao32 t399.length co32) ∧ w'.cell? ⟨gb385, 0, none⟩ = some (.slice A0_0 l0_0.length c0_0) ∧ w'.cell? ⟨gb385, 1, none⟩ = some (.slice A0_1 l0_1.length c0_1)) (ds := []) #[false, false, false, false, false] (by kernel_rfl) rfl rfl ⟨(blk_cell BK402.out 0).trans rfl, (blk_cell BK402.out 1).trans rfl, (blk_cell BK385.out 0).trans rfl, (blk_cell BK385.out 1).trans rfl⟩ (fun hHeld => ?_)
 generalize w38.drew = w39 at HO389 HO392 HO395 HO398 HO401 HO405 BK385 BK402 HB hHeld ⊢
 refine take_ (i := 0) (N := some 27) (v := ?_) (a' := ?_) (bA 5 1) rfl rfl (by kernel_rfl) (fun _ _ _ h => h) (Or.inl ⟨by rfl, ?_⟩) hHeld ?_ ?_
 rotate_left
 ·rintro w' ⟨s0, s1, s2, s3⟩
  go_simp; with_reducible rfl
 rotate_left
 ·simp only [Act.put, List.setIfInBounds_toArray, List.set_cons_zero, List.set_cons_succ, i64_w, i32_w]
  rfl
 refine take_ (i := 1) (N := some 28) (v := ?_) (a' := ?_) (bA 5 3) rfl rfl (by kernel_rfl) (fun _ _ _ h => h) (Or.inl ⟨by rfl, ?_⟩) hHeld ?_ ?_
 rotate_left
 ·rintro w' ⟨s0, s1, s2, s3⟩
  go_simp; with_reducible rfl
 rotate_left
 ·simp only [Act.put, List.setIfInBounds_toArray, List.set_cons_zero, List.set_cons_succ, i64_w, i32_w]
  rfl
 refine one_ (i := 2) (N := some 29) (bA 5 7) rfl rfl (by kernel_rfl) (by decide) (fun K hK => ?_)
 refine goes_ Try.func7 (by kernel_rfl) rfl #[.agg #[.slice A0_0 l0_0.length c0_0, .slice A0_1 l0_1.length c0_1]] (by rfl) rfl rfl z12_2 ?_
 with_reducible refine (laws_toPath.calls k _ _ l0_0 _ _ l0_1 t407 t410 _ ?side1 ?side2 ?side3 ?side4 A13.out).mono ?_
 (case side1 => exact z12_3)
 (case side2 => exact HC0_0.out)
 (case side3 => exact z12_4)
 (case side4 => exact HC0_1.out)
 rintro e w40 ⟨v408, v411, rfl, ho0, ho1, hb⟩
 refine ⟨_, rfl, ?_⟩
 have n0_ := mk0 (Kd.R_elder' (pkR HO389) (Kd.R_base ho0) hb)
 have n1_ := mk0 (Kd.R_elder' (pkR HO392) (Kd.R_base ho1) hb)
 have n2_ := mk0 (Kd.S_elder' (pkS HO395) (Kd.R_base ho1) hb)
 have n3_ := mk0 (Kd.R_elder' (pkR HO398) (Kd.R_base ho0) hb)
 have n4_ := mk0 (Kd.R_elder' (pkR HO401) (Kd.R_base ho1) hb)
 have n5_ := mk0 (Kd.S_elder' (pkS HO405) (Kd.R_base ho1) hb)
 have n6_ := mk0 (Kd.R_lower (Kd.R_new' (Kd.R_new' ho0 (Kd.R_lt (pkR HO389))) (Kd.R_lt (pkR HO398))) (below_size z12_0))
 have n7_ := mk0 (Kd.R_lower (Kd.R_new' (Kd.R_new' ho1 (Kd.R_lt (pkR HO392))) (Kd.R_lt (pkR HO401))) (below_size z12_0))
 have n8_ := mk0 (blk_belowB BK385 (pkb BK385) hb)
 have n9_ := mk0 (blk_belowB BK402 (pkb BK402) hb)
 have n10_ := mk0 (below_step z12_0 hb)
 clear HO389 HO392 HO395 HO398 HO401 HO405 BK385 BK402 HB; have HO389 := n0_; have HO392 := n1_; have HO395 := n2_; have HO398 := n3_; have HO401 := n4_; have HO405 := n5_; have HO409 := n6_; have HO412 := n7_; have BK385 := n8_; have BK402 := n9_; have HB := n10_; clear n0_ n1_ n2_ n3_ n4_ n5_ n6_ n7_ n8_ n9_ n10_; (try clear hb); (try clear hb2); (try clear hk); (try clear hi); (try clear ho0); (try clear ho1)
 obtain ⟨Ao41, co41, eo41⟩ := Kd.R_slice HO409.out
 (first | subst eo41 | (injection eo41 with f1_ f2_ f3_; have f4_ := f1_.symm; have f5_ := f3_.symm; clear f1_ f2_ f3_; subst f4_; subst f5_))
 obtain ⟨Ao42, co42, eo42⟩ := Kd.R_slice HO412.out
 (first | subst eo42 | (injection eo42 with f1_ f2_ f3_; have f4_ := f1_.symm; have f5_ := f3_.symm; clear f1_ f2_ f3_; subst f4_; subst f5_))
 refine hK.out _ _ ⟨(blk_cell BK402.out 0).trans rfl, (blk_cell BK402.out 1).trans rfl, (blk_cell BK385.out 0).trans rfl, (blk_cell BK385.out 1).trans rfl⟩ (fun hHeld => ?_)
 clear hK K
 refine norm_ (a' := ?_) ?_ ?_
 rotate_left
 ·show Act.put _ (some 29) _ = _
  simp only [Act.put, List.setIfInBounds_toArray, List.set_cons_zero, List.set_cons_succ, i64_w, i32_w]
  rfl
 refine one_ (i := 3) (N := some 30) (bA 5 15) rfl rfl (by kernel_rfl) (by decide) (fun K hK => ?_)
 refine goes_ Try.func10 (by kernel_rfl) rfl #[.agg #[.slice Ao29 t396.length co29, .slice Ao32 t399.length co32], .agg #[.slice Ao41 t407.length co41, .slice Ao42 t410.length co42]] (by rfl) rfl rfl z12_2 ?_
 with_reducible refine (laws_eqPath.calls k _ _ t396 _ _ t399 _ _ t407 _ _ t410 true _ ?side1 ?side2 ?side3 ?side4 ?side5 ?side6 ?side7 ?side8 A14.out).mono ?_
 (case side1 => exact z12_8)
 (case side2 => exact (Kd.R_reads' HO398.out).2.1)
 (case side3 => repeat (first | exact (Kd.R_reads' HO401.out).2.2 | (with_reducible refine Kd.C_alloc ?_ _) | (with_reducible refine Kd.C_drewN ?_ _) | (with_reducible refine Kd.C_drew ?_)))
 (case side4 => exact (Kd.R_reads' HO401.out).2.1)
 (case side5 => repeat (first | exact (Kd.R_reads' HO409.out).2.2 | (with_reducible refine Kd.C_alloc ?_ _) | (with_reducible refine Kd.C_drewN ?_ _) | (with_reducible refine Kd.C_drew ?_)))
 (case side6 => exact (Kd.R_reads' HO409.out).2.1)
 (case side7 => repeat (first | exact (Kd.R_reads' HO412.out).2.2 | (with_reducible refine Kd.C_alloc ?_ _) | (with_reducible refine Kd.C_drewN ?_ _) | (with_reducible refine Kd.C_drew ?_)))
 (case side8 => exact (Kd.R_reads' HO412.out).2.1)
 rintro e w43 ⟨rfl, hb⟩
 refine ⟨_, rfl, ?_⟩
 have n0_ := mk0 (Kd.R_below (pkR HO389) hb)
 have n1_ := mk0 (Kd.R_below (pkR HO392) hb)
 have n2_ := mk0 (Kd.S_below (pkS HO395) hb)
 have n3_ := mk0 (Kd.R_below (pkR HO398) hb)
 have n4_ := mk0 (Kd.R_below (pkR HO401) hb)
 have n5_ := mk0 (Kd.S_below (pkS HO405) hb)
 have n6_ := mk0 (Kd.R_below (pkR HO409) hb)
 have n7_ := mk0 (Kd.R_below (pkR HO412) hb)
 have n8_ := mk0 (blk_belowB BK385 (pkb BK385) hb)
 have n9_ := mk0 (blk_belowB BK402 (pkb BK402) hb)
 have n10_ := mk0 (below_step z12_0 hb)
 clear HO389 HO392 HO395 HO398 HO401 HO405 HO409 HO412 BK385 BK402 HB; have HO389 := n0_; have HO392 := n1_; have HO395 := n2_; have HO398 := n3_; have HO401 := n4_; have HO405 := n5_; have HO409 := n6_; have HO412 := n7_; have BK385 := n8_; have BK402 := n9_; have HB := n10_; clear n0_ n1_ n2_ n3_ n4_ n5_ n6_ n7_ n8_ n9_ n10_; (try clear hb); (try clear hb2); (try clear hk); (try clear hi)
 refine hK.out _ _ ⟨(blk_cell BK402.out 0).trans rfl, (blk_cell BK402.out 1).trans rfl, (blk_cell BK385.out 0).trans rfl, (blk_cell BK385.out 1).trans rfl⟩ (fun hHeld => ?_)
 clear hK K
 refine norm_ (a' := ?_) ?_ ?_
 rotate_left
 ·show Act.put _ (some 30) _ = _
  simp only [Act.put, List.setIfInBounds_toArray, List.set_cons_zero, List.set_cons_succ, i64_w, i32_w]
  rfl
 refine pure_ (i := 4) (N := some 31) (v := ?_) (a' := ?_) (bA 5 31) rfl rfl (by kernel_rfl) (fun _ _ _ h => h) (Or.inl ⟨by rfl, ?_⟩) ?_ ?_; rotate_left
 ·intro w'
  go_simp; with_reducible rfl
 rotate_left
 ·simp only [Act.put, List.setIfInBounds_toArray, List.set_cons_zero, List.set_cons_succ, i64_w, i32_w]
  rfl
 refine done_ (by kernel_rfl) ?_
 obtain ⟨_, _, _, _⟩ := be_2 BK402.out
 go_upto_region 14 with (first | ((with_reducible refine gate_callee (f := 11) rfl ?_); refine goesL_ (some 34) rfl rfl Try.func11 (by kernel_rfl) rfl #[.agg #[.slice Ao29 t396.length co29, .slice Ao32 t399.length co32], .int .i64 1] rfl z12_2 ?_; (with_reducible refine (laws_markPath.calls k (fun k_ => some k_ = (.slice Ao29 t396.length co29 : Value).ownBlock) (.slice Ao29 t396.length co29) t396 (fun k_ => some k_ = (.slice Ao32 t399.length co32 : Value).ownBlock) (.slice Ao32 t399.length co32) t399 1 t414 t415 t416 w _ ?side1 ?side2 ?side3 A16.out).mono ?_); (case side1 => exact z12_7); (case side2 => exact Kd.R_tight rfl HO398.out); (case side3 => exact Kd.R_tight rfl HO401.out); rintro e w45 ⟨rfl, hy0, hy1, hb, hkp⟩; refine ⟨_, rfl, ?_⟩; have n0_ := mk0 (blk_kept (pkb BK385) hkp (fun hs_ => Or.elim hs_ (fun e_ => (fun e_ => (Kd.R_ne HO398.out BK385.out (by decide)) e_) e_) (fun e_ => (fun e_ => (Kd.R_ne HO401.out BK385.out (by decide)) e_) e_))); have n1_ := mk0 (Kd.R_mono (ok' := fun k_ => some k_ ≠ (.slice Ao29 t396.length co29 : Value).ownBlock ∧ some k_ ≠ (.slice Ao41 t407.length co41 : Value).ownBlock) (Kd.R_keptB ((Kd.R_apart' HO389.out (Kd.R_typed HO401.out) (by decide))) hkp (fun k_ hk_ hs_ => Or.elim hs_ (fun e_ => (hk_.1.1) e_) (fun e_ => (hk_.2) e_))) (fun k_ hk_ => ⟨hk_.1.1.1, hk_.1.1.2⟩)); have n2_ := mk0 (Kd.R_mono (ok' := fun k_ => some k_ ≠ (.slice Ao32 t399.length co32 : Value).ownBlock ∧ some k_ ≠ (.slice Ao42 t410.length co42 : Value).ownBlock) (Kd.R_keptB ((Kd.R_apart' HO392.out (Kd.R_typed HO398.out) (by decide))) hkp (fun k_ hk_ hs_ => Or.elim hs_ (fun e_ => (hk_.2) e_) (fun e_ => (hk_.1.1) e_))) (fun k_ hk_ => ⟨hk_.1.1.1, hk_.1.1.2⟩)); have n3_ := mk0 (Kd.S_mono (ok' := fun k_ => some k_ ≠ (.slice Ao24 t390.length co24 : Value).ownBlock ∧ some k_ ≠ (.slice Ao32 t399.length co32 : Value).ownBlock ∧ k_ < n1x_ ∧ some k_ ≠ (.slice Ao42 t410.length co42 : Value).ownBlock) (Kd.S_keptB ((Kd.S_apart' HO395.out (Kd.R_typed HO398.out) (by decide))) hkp (fun k_ hk_ hs_ => Or.elim hs_ (fun e_ => (hk_.2) e_) (fun e_ => (hk_.1.1.1.2) e_))) (fun k_ hk_ => ⟨hk_.1.1.1.1.1, hk_.1.1.1.1.2, hk_.1.1.1.2, hk_.1.1.2⟩)); have n4_ := mk0 (Kd.R_reok rfl hy0 (fun k_ e_ => HO398.out.1 k_ e_)); have n5_ := mk0 (Kd.R_reok rfl hy1 (fun k_ e_ => HO401.out.1 k_ e_)); have n6_ := mk0 (blk_kept (pkb BK402) hkp (fun hs_ => Or.elim hs_ (fun e_ => (fun e_ => (Kd.R_ne HO398.out BK402.out (by decide)) e_) e_) (fun e_ => (fun e_ => (Kd.R_ne HO401.out BK402.out (by decide)) e_) e_))); have n7_ := mk0 (Kd.S_mono (ok' := fun k_ => some k_ ≠ (.slice Ao24 t390.length co24 : Value).ownBlock ∧ n1x_ ≤ k_ ∧ some k_ ≠ (.slice Ao32 t399.length co32 : Value).ownBlock ∧ some k_ ≠ (.slice Ao42 t410.length co42 : Value).ownBlock) (Kd.S_keptB ((Kd.S_apart' HO405.out (Kd.R_typed HO398.out) (by decide))) hkp (fun k_ hk_ hs_ => Or.elim hs_ (fun e_ => (hk_.2) e_) (fun e_ => (hk_.1.1.2) e_))) (fun k_ hk_ => ⟨hk_.1.1.1.1.1.2, hk_.1.1.1.1.2, hk_.1.1.1.2, hk_.1.1.2⟩)); have n8_ := mk0 (Kd.R_mono (ok' := fun k_ => some k_ ≠ (.slice Ao23 t387.length co23 : Value).ownBlock ∧ some k_ ≠ (.slice Ao29 t396.length co29 : Value).ownBlock) (Kd.R_keptB ((Kd.R_apart' HO409.out (Kd.R_typed HO401.out) (by decide))) hkp (fun k_ hk_ hs_ => Or.elim hs_ (fun e_ => (hk_.1.2) e_) (fun e_ => (hk_.2) e_))) (fun k_ hk_ => ⟨hk_.1.1.1.2, hk_.1.1.2⟩)); have n9_ := mk0 (Kd.R_mono (ok' := fun k_ => some k_ ≠ (.slice Ao24 t390.length co24 : Value).ownBlock ∧ some k_ ≠ (.slice Ao32 t399.length co32 : Value).ownBlock) (Kd.R_keptB ((Kd.R_apart' HO412.out (Kd.R_typed HO398.out) (by decide))) hkp (fun k_ hk_ hs_ => Or.elim hs_ (fun e_ => (hk_.2) e_) (fun e_ => (hk_.1.2) e_))) (fun k_ hk_ => ⟨hk_.1.1.1.2, hk_.1.1.2⟩)); have n10_ := mk0 (hb); clear BK385 HO389 HO392 HO395 HO398 HO401 BK402 HO405 HO409 HO412 HB; have BK385 := n0_; have HO389 := n1_; have HO392 := n2_; have HO395 := n3_; have HO398 := n4_; have HO401 := n5_; have BK402 := n6_; have HO405 := n7_; have HO409 := n8_; have HO412 := n9_; have HB := n10_; clear n0_ n1_ n2_ n3_ n4_ n5_ n6_ n7_ n8_ n9_ n10_; (try clear hb); (try clear hkp); (try clear hy0); (try clear hy1)))
 (try simp only [Act.put, List.setIfInBounds_toArray, List.set_cons_zero, List.set_cons_succ])
 go_cut [42] (fun v42 wc => ∃ (kq : Nat) (x42_16 : Bool), v42 = .bool x42_16 ∧ Aside0 (laws_FnExactFlatOf.j0 kq t393 t403 x42_16 l0_0 l0_1 = some r) ∧ Aside0 (kq ≤ k) ∧ Aside0 (Kd.S (Kd.slice 46 k46) 29 wc w.heap.size (fun k_ => k_ < n1x_ ∧ some k_ ≠ ((.slice Ao32 t399.length co32) : Value).ownBlock) (.slice Ao37 t393.length co37) t393) ∧ Aside0 (Kd.S (Kd.slice 46 k46) 29 wc w.heap.size (fun k_ => n1x_ ≤ k_ ∧ some k_ ≠ ((.slice Ao32 t399.length co32) : Value).ownBlock) (.slice Ao36 t403.length co36) t403) ∧ Aside0 (Kd.R (Kd.int .i64) 3 wc w.heap.size (fun _ => True) (.slice Ao29 t396.length co29) t415) ∧ Aside0 (Kd.R k46 46 wc w.heap.size (fun _ => True) (.slice Ao32 t399.length co32) t416) ∧ Aside0 (wc.heap[gb385]? = some (.cells #[(.slice A0_0 l0_0.length c0_0), (.slice A0_1 l0_1.length c0_1)] 25 (0, 0))) ∧ Aside0 (wc.heap[gb402]? = some (.cells #[(.slice Ao29 t396.length co29), (.slice Ao32 t399.length co32)] 31 (0, 0))) ∧ Aside0 (Below w.heap.size w wc))
 case first =>
  have H := HC17.out; clear HC17
  by_cases c46 : t414 < 0
  ·rw [if_pos c46] at H
   have c46b0 := decide_eq_true c46
   clear c46
   (first | rw [c46b0] | (simp only [i64_w, i32_w]; rw [c46b0]) | skip)
   exact absurd (show r = false from by cases k with | zero => exact absurd H (by simp [laws_FnExactFlatOf.j0]) | succ k_ => simp only [laws_FnExactFlatOf.j0, if_true] at H; exact (Option.some.inj H).symm) (by rw [hT]; simp)
  rw [if_neg c46] at H
  have c46b0 := decide_eq_false c46
  clear c46
  (first | rw [c46b0] | (simp only [i64_w, i32_w]; rw [c46b0]) | skip)
  replace H := Option.bind_eq_some_iff.mp H
  obtain ⟨t417, A470, H⟩ := H
  try dsimp only at H
  have A47 := mk0 A470
  clear A470
  have H' := mk0 H
  clear H
  go_wp2_with (first | (go_at_call 9; (with_reducible refine (laws_eqPointSS.calls k _ _ t403 _ _ t393 t417 _ ?side1 ?side2 ?side3 ?side4 A47.out).mono ?_); (case side1 => exact z12_9); (case side2 => exact (Kd.S_reads' HO405.out).2.1); (case side3 => exact z12_10); (case side4 => exact (Kd.S_reads' HO395.out).2.1); rintro e w48 ⟨rfl, hb⟩; have n0_ := mk0 (Kd.R_below (pkR HO389) hb); have n1_ := mk0 (Kd.R_below (pkR HO392) hb); have n2_ := mk0 (Kd.S_below (pkS HO395) hb); have n3_ := mk0 (Kd.R_below (pkR HO398) hb); have n4_ := mk0 (Kd.R_below (pkR HO401) hb); have n5_ := mk0 (Kd.S_below (pkS HO405) hb); have n6_ := mk0 (Kd.R_below (pkR HO409) hb); have n7_ := mk0 (Kd.R_below (pkR HO412) hb); have n8_ := mk0 (blk_belowB BK385 (pkb BK385) hb); have n9_ := mk0 (blk_belowB BK402 (pkb BK402) hb); have n10_ := mk0 (below_step z12_0 hb); clear HO389 HO392 HO395 HO398 HO401 HO405 HO409 HO412 BK385 BK402 HB; have HO389 := n0_; have HO392 := n1_; have HO395 := n2_; have HO398 := n3_; have HO401 := n4_; have HO405 := n5_; have HO409 := n6_; have HO412 := n7_; have BK385 := n8_; have BK402 := n9_; have HB := n10_; clear n0_ n1_ n2_ n3_ n4_ n5_ n6_ n7_ n8_ n9_ n10_; (try clear hb)))
  go_meet
  case rel => exact ⟨_, (!t417), rs0, H', ⟨(by first | omega | exact Nat.le_refl _)⟩, ⟨(by (with_reducible repeat (first | apply Kd.S_alloc | apply Kd.S_drewN | apply Kd.S_drew)); exact Kd.S_mono HO395.out (fun _ hk => ⟨hk.2.2.1, hk.2.1⟩))⟩, ⟨(by (with_reducible repeat (first | apply Kd.S_alloc | apply Kd.S_drewN | apply Kd.S_drew)); exact Kd.S_mono HO405.out (fun _ hk => ⟨hk.2.1, hk.2.2.1⟩))⟩, ⟨(by (with_reducible repeat (first | apply Kd.R_alloc | apply Kd.R_drewN | apply Kd.R_drew)); exact Kd.R_mono HO398.out (fun _ hk => trivial))⟩, ⟨(by (with_reducible repeat (first | apply Kd.R_alloc | apply Kd.R_drewN | apply Kd.R_drew)); exact Kd.R_mono HO401.out (fun _ hk => trivial))⟩, ⟨pkb BK385⟩, ⟨pkb BK402⟩, ⟨z12_0⟩⟩
 case rest =>
  clear HC17; try clear c1
  try clear p2
  try clear c3
  try clear c3b0
  try clear c4
  try clear c5
  try clear c6
  try clear c7
  try clear c8
  try clear c9
  try clear c10
  try clear c11
  try clear c12
  try clear c15
  try clear c30
  try clear c46
  try clear c46b0
  try clear hcz19_0
  try clear hcz19_1
  try clear hcz21_0
  try clear hcz21_1
  try clear hcz26_0
  try clear hcz26_1
  try clear hcz31_0
  try clear hcz31_1
  try clear hcz34_0
  try clear hcz34_1
  try clear hcz44_0
  try clear hcz44_1
  try clear hcz5_0
  try clear hcz5_1
  try clear hfz19_0
  try clear hfz19_1
  try clear hfz21_0
  try clear hfz21_1
  try clear hfz26_0
  try clear hfz26_1
  try clear hfz31_0
  try clear hfz31_1
  try clear hfz34_0
  try clear hfz34_1
  try clear hfz44_0
  try clear hfz44_1
  try clear hfz5_0
  try clear hfz5_1
  obtain ⟨kq, x42_16, rfl, HA, HJ16, HO_4, HO_6, HO_403000, HO_403001, BK385, BK402, HB⟩ := hcut
  have hl403000_16 := (Kd.R_reads' HO_403000.out).1
  rw [hl403000_16] at HO_403000
  (try simp only [hl403000_16])
  (try simp only [hl403000_16] at BK385)
  (try simp only [hl403000_16] at BK402)
  (try simp only [hl403000_16] at HO_4)
  (try simp only [hl403000_16] at HO_6)
  (try simp only [hl403000_16] at HO_403001)
  have hl403001_16 := (Kd.R_reads' HO_403001.out).1
  rw [hl403001_16] at HO_403001
  (try simp only [hl403001_16])
  (try simp only [hl403001_16] at BK385)
  (try simp only [hl403001_16] at BK402)
  (try simp only [hl403001_16] at HO_4)
  (try simp only [hl403001_16] at HO_6)
  (try simp only [hl403001_16] at HO_403000)
  cases kq with
  | zero => exact absurd HA.out (by simp [laws_FnExactFlatOf.j0])
  | succ kj16 =>
   have H := HA.out; clear HA
   simp only [laws_FnExactFlatOf.j0] at H
   by_cases c49 : x42_16 = true
   ·subst c49
    rw [if_pos rfl] at H
    obtain rfl := Option.some.inj H
    exact absurd hT Bool.false_ne_true
   replace c49 := Bool.eq_false_iff.mpr c49
   subst c49
   rw [if_neg (show ¬ (false = true) by decide)] at H
   replace H := Option.bind_eq_some_iff.mp H
   obtain ⟨⟨t418, t419⟩, A500, H⟩ := H
   try dsimp only at H
   have A50 := mk0 A500
   clear A500
   replace H := Option.bind_eq_some_iff.mp H
   obtain ⟨t420, A510, H⟩ := H
   try dsimp only at H
   have A51 := mk0 A510
   clear A510
   by_cases c52 : t420 < 0
   ·rw [if_pos c52] at H
    have c52b0 := decide_eq_true c52
    clear c52
    obtain rfl := Option.some.inj H
    exact absurd hT Bool.false_ne_true
   rw [if_neg c52] at H
   have c52b0 := decide_eq_false c52
   clear c52
   by_cases c53 : t420 = t418
   rotate_left
   ·rw [if_neg c53] at H
    have c53b0 : (t420 == t418) = false := beq_eq_false_iff_ne.mpr c53
    have c53b1 : (t420 != t418) = true := bne_iff_ne.mpr c53
    obtain rfl := Option.some.inj H
    exact absurd hT Bool.false_ne_true
   rw [if_pos c53] at H
   have c53b0 : (t420 == t418) = true := beq_iff_eq.mpr c53
   have c53b1 : (t420 != t418) = false := bne_eq_false_iff_eq.mpr c53
   clear c53
   replace H := Option.bind_eq_some_iff.mp H
   obtain ⟨⟨t421, t424⟩, A540, H⟩ := H
   try dsimp only at H
   have A54 := mk0 A540
   clear A540
   replace H := Option.bind_eq_some_iff.mp H
   obtain ⟨t427, A550, H⟩ := H
   try dsimp only at H
   have A55 := mk0 A550
   clear A550
   replace H := Option.bind_eq_some_iff.mp H
   obtain ⟨t430, A560, H⟩ := H
   try dsimp only at H
   have A56 := mk0 A560
   clear A560
   by_cases c57 : t430 = true
   rotate_left
   ·replace c57 := Bool.eq_false_iff.mpr c57
    subst c57
    rw [if_neg (show ¬ (false = true) by decide)] at H
    obtain rfl := Option.some.inj H
    exact absurd hT Bool.false_ne_true
   subst c57
   rw [if_pos rfl] at H
   replace H := Option.bind_eq_some_iff.mp H
   obtain ⟨t431, A580, H⟩ := H
   try dsimp only at H
   have A58 := mk0 A580
   clear A580
   by_cases c59 : t431 < 0
   ·rw [if_pos c59] at H
    have c59b0 := decide_eq_true c59
    clear c59
    obtain rfl := Option.some.inj H
    exact absurd hT Bool.false_ne_true
   rw [if_neg c59] at H
   have c59b0 := decide_eq_false c59
   clear c59
   by_cases c60 : t431 = t418
   rotate_left
   ·rw [if_neg c60] at H
    have c60b0 : (t431 == t418) = false := beq_eq_false_iff_ne.mpr c60
    have c60b1 : (t431 != t418) = true := bne_iff_ne.mpr c60
    obtain rfl := Option.some.inj H
    exact absurd hT Bool.false_ne_true
   rw [if_pos c60] at H
   have c60b0 : (t431 == t418) = true := beq_iff_eq.mpr c60
   have c60b1 : (t431 != t418) = false := bne_eq_false_iff_eq.mpr c60
   clear c60
   obtain rfl := Option.some.inj H
   simp only [Option.some.injEq, Prod.mk.injEq] at H
   obtain ⟨rfl⟩ := H
   go_wp2_with (first | ((with_reducible refine gate_callee (f := 12) rfl ?_); refine goesL_ (some 45) rfl rfl Try.func12 (by kernel_rfl) rfl #[.slice Ao36 t403.length co36, .int .i64 1] rfl z12_2 ?_; (with_reducible refine (laws_markPointSS.calls kj16 ?P0_ (.slice Ao36 t403.length co36) t403 1 t418 t419 w _ ?side1 ?side2 A50.out).mono ?_); (case side1 => exact z12_7); (case side2 => exact tyn_S (HO_6.out) rfl (fun k_ hk_ => hk_.1)); rintro e w61 ⟨rfl, hy0, hb, hkp⟩; refine ⟨_, rfl, ?_⟩; have n0_ := mk0 (Kd.S_mono (ok' := fun k_ => k_ < n1x_) (Kd.S_kept (HO_4.out) hkp (fun k_ hk_ hs_ => Nat.not_le.2 hk_.1 hs_.2)) (fun k_ hk_ => hk_.1)); have n1_ := mk0 (Kd.S_mono (ok' := fun _ => True) hy0 (fun _ _ => trivial)); have n2_ := mk0 (ty_R (HO_403000.out) rfl (by decide) (by decide) (ktl_ hkp)); have n3_ := mk0 (ty_blk (pkb BK385) (by decide) (by decide) (ktl_ hkp)); have n4_ := mk0 (ty_blk (pkb BK402) (by decide) (by decide) (ktl_ hkp)); have n5_ := mk0 (hb); clear HO_4 HO_6 HO_403000 BK385 BK402 HB HO_403001; have HO_4 := n0_; have HO_6 := n1_; have HO_403000 := n2_; have BK385 := n3_; have BK402 := n4_; have HB := n5_; clear n0_ n1_ n2_ n3_ n4_ n5_; (try clear hb); (try clear hkp); (try clear hy0)) | ((with_reducible refine gate_callee (f := 13) rfl ?_); refine goesL_ (some 48) rfl rfl Try.func13 (by kernel_rfl) rfl #[.slice Ao36 t419.length co36, .int .i64 1] rfl z12_6 ?_; (with_reducible refine (laws_heldPointSS.calls kj16 _ _ t419 1 t420 _ ?side1 ?side2 A51.out).mono ?_); (case side1 => exact z12_11); (case side2 => rw [show t419.length = t403.length from (Kd.S_reads' HO_6.out).1.symm]; exact (Kd.S_reads' HO_6.out).2.1); rintro e w' ⟨rfl, ⟨nd, rfl⟩⟩; refine ⟨_, rfl, ?_⟩; have hnb62 := NB385_402.out; have hnc62 := NB402_385.out; obtain ⟨_, _, _, _⟩ := be_2 BK385.out) | ((with_reducible refine gate_callee (f := 7) rfl ?_); refine goesL_ (some 55) rfl rfl Try.func7 (by kernel_rfl) rfl #[.agg #[.slice A0_0 l0_0.length c0_0, .slice A0_1 l0_1.length c0_1]] rfl z12_2 ?_; (with_reducible refine (laws_toPath.calls kj16 _ _ l0_0 _ _ l0_1 t421 t424 _ ?side1 ?side2 ?side3 ?side4 A54.out).mono ?_); (case side1 => repeat (first | exact (Kd.C_below HR0_0.out z12_0) | (with_reducible refine Kd.C_alloc ?_ _) | (with_reducible refine Kd.C_drewN ?_ _) | (with_reducible refine Kd.C_drew ?_))); (case side2 => exact HC0_0.out); (case side3 => repeat (first | exact (Kd.C_below HR0_1.out z12_0) | (with_reducible refine Kd.C_alloc ?_ _) | (with_reducible refine Kd.C_drewN ?_ _) | (with_reducible refine Kd.C_drew ?_))); (case side4 => exact HC0_1.out); rintro e w64 ⟨v422, v425, rfl, ho0, ho1, hb⟩; refine ⟨_, rfl, ?_⟩; have n0_ := mk0 (Kd.S_elder' (pkS HO_4) (Kd.R_base ho1) hb); have n1_ := mk0 (Kd.S_elder' (pkS HO_6) (Kd.R_base ho1) hb); have n2_ := mk0 (Kd.R_elder' (pkR HO_403000) (Kd.R_base ho0) hb); have n3_ := mk0 (Kd.R_lower (Kd.R_new' ho0 (Kd.R_lt (pkR HO_403000))) (below_size z12_0)); have n4_ := mk0 (Kd.R_lower ho1 (below_size z12_0)); have n5_ := mk0 (blk_belowB BK385 (pkb BK385) hb); have n6_ := mk0 (blk_belowB BK402 (pkb BK402) hb); have n7_ := mk0 (below_step z12_0 hb); clear HO_4 HO_6 HO_403000 BK385 BK402 HB; have HO_4 := n0_; have HO_6 := n1_; have HO_403000 := n2_; have HO423 := n3_; have HO426 := n4_; have BK385 := n5_; have BK402 := n6_; have HB := n7_; clear n0_ n1_ n2_ n3_ n4_ n5_ n6_ n7_; (try clear hb); (try clear ho0); (try clear ho1); obtain ⟨Ao65, co65, eo65⟩ := Kd.R_slice HO423.out; subst eo65; obtain ⟨Ao66, co66, eo66⟩ := Kd.R_slice HO426.out; subst eo66) | ((with_reducible refine gate_callee (f := 8) rfl ?_); refine goesL_ (some 56) rfl rfl Try.func8 (by kernel_rfl) rfl #[.agg #[.slice Ao65 t421.length co65, .slice Ao66 t424.length co66]] rfl z12_2 ?_; (with_reducible refine (impl_FlatOf.calls kj16 _ _ t421 (fun k_ => some k_ = (.slice Ao66 t424.length co66 : Value).ownBlock) _ _ t424 t427 _ ?side1 ?side2 ?side3 A55.out).mono ?_); (case side1 => repeat (first | exact (Kd.R_reads' HO423.out).2.2 | (with_reducible refine Kd.C_alloc ?_ _) | (with_reducible refine Kd.C_drewN ?_ _) | (with_reducible refine Kd.C_drew ?_))); (case side2 => exact (Kd.R_reads' HO423.out).2.1); (case side3 => exact Kd.R_V (Kd.R_tight rfl (Kd.R_types (Kd.R_types (Kd.R_apart' (Kd.R_apart' (Kd.R_apart' (Kd.R_apart' (HO426.out) (Kd.S_typed HO_4.out) (by decide)) (Kd.S_typed HO_6.out) (by decide)) (Kd.R_typed HO_403000.out) (by decide)) (Kd.R_typed HO423.out) (by decide)) BK385.out (by decide)) BK402.out (by decide)))); rintro e w67 ⟨v428, rfl, ho0, hb⟩; refine ⟨_, rfl, ?_⟩; have n0_ := mk0 (Kd.S_elder' (pkS HO_4) (Kd.S_base ho0) hb); have n1_ := mk0 (Kd.S_elder' (pkS HO_6) (Kd.S_base ho0) hb); have n2_ := mk0 (Kd.R_below (pkR HO_403000) hb); have n3_ := mk0 (Kd.R_below (pkR HO423) hb); have n4_ := mk0 (Kd.R_below (pkR HO426) hb); have n5_ := mk0 (Kd.S_lower (Kd.S_new' (Kd.S_new' (Kd.S_new' (Kd.S_mono (ok' := fun k_ => True) ho0 (fun _ hk_ => trivial)) (Kd.S_lt (pkS HO_4))) (Kd.S_lt (pkS HO_6))) (Kd.R_lt (pkR HO426))) (below_size z12_0)); have n6_ := mk0 (blk_belowB BK385 (pkb BK385) hb); have n7_ := mk0 (blk_belowB BK402 (pkb BK402) hb); have n8_ := mk0 (below_step z12_0 hb); clear HO_4 HO_6 HO_403000 HO423 HO426 BK385 BK402 HB; have HO_4 := n0_; have HO_6 := n1_; have HO_403000 := n2_; have HO423 := n3_; have HO426 := n4_; have HO429 := n5_; have BK385 := n6_; have BK402 := n7_; have HB := n8_; clear n0_ n1_ n2_ n3_ n4_ n5_ n6_ n7_ n8_; (try clear hb); (try clear ho0); obtain ⟨Ao68, co68, eo68⟩ := Kd.S_slice HO429.out; subst eo68) | ((with_reducible refine gate_callee (f := 9) rfl ?_); refine goesL_ (some 59) rfl rfl Try.func9 (by kernel_rfl) rfl #[.slice Ao68 t427.length co68, .slice Ao37 t393.length co37] rfl z12_2 ?_; (with_reducible refine (laws_eqPointSS.calls kj16 _ _ t427 _ _ t393 true _ ?side1 ?side2 ?side3 ?side4 A56.out).mono ?_); (case side1 => repeat (first | exact (Kd.S_reads' HO429.out).2.2 | (with_reducible refine Kd.C_alloc ?_ _) | (with_reducible refine Kd.C_drewN ?_ _) | (with_reducible refine Kd.C_drew ?_))); (case side2 => exact (Kd.S_reads' HO429.out).2.1); (case side3 => repeat (first | exact (Kd.S_reads' HO_4.out).2.2 | (with_reducible refine Kd.C_alloc ?_ _) | (with_reducible refine Kd.C_drewN ?_ _) | (with_reducible refine Kd.C_drew ?_))); (case side4 => exact (Kd.S_reads' HO_4.out).2.1); rintro e w69 ⟨rfl, hb⟩; refine ⟨_, rfl, ?_⟩; have n0_ := mk0 (Kd.S_below (pkS HO_4) hb); have n1_ := mk0 (Kd.S_below (pkS HO_6) hb); have n2_ := mk0 (Kd.R_below (pkR HO_403000) hb); have n3_ := mk0 (Kd.R_below (pkR HO423) hb); have n4_ := mk0 (Kd.R_below (pkR HO426) hb); have n5_ := mk0 (Kd.S_below (pkS HO429) hb); have n6_ := mk0 (blk_belowB BK385 (pkb BK385) hb); have n7_ := mk0 (blk_belowB BK402 (pkb BK402) hb); have n8_ := mk0 (below_step z12_0 hb); clear HO_4 HO_6 HO_403000 HO423 HO426 HO429 BK385 BK402 HB; have HO_4 := n0_; have HO_6 := n1_; have HO_403000 := n2_; have HO423 := n3_; have HO426 := n4_; have HO429 := n5_; have BK385 := n6_; have BK402 := n7_; have HB := n8_; clear n0_ n1_ n2_ n3_ n4_ n5_ n6_ n7_ n8_; (try clear hb)) | ((with_reducible refine gate_callee (f := 13) rfl ?_); refine goesL_ (some 63) rfl rfl Try.func13 (by kernel_rfl) rfl #[.slice Ao36 t419.length co36, .int .i64 1] rfl z12_6 ?_; (with_reducible refine (laws_heldPointSS.calls kj16 _ _ t419 1 t431 _ ?side1 ?side2 A58.out).mono ?_); (case side1 => exact z12_11); (case side2 => rw [show t419.length = t403.length from (Kd.S_reads' HO_6.out).1.symm]; exact (Kd.S_reads' HO_6.out).2.1); rintro e w' ⟨rfl, ⟨nd, rfl⟩⟩; refine ⟨_, rfl, ?_⟩))
   go_ret
   exact ⟨(by first | rfl | (simp [errW_none, errW_some] <;> rfl) | (simp [*, errW_none, errW_some] <;> rfl)), z12_0⟩

end Go.Proofs.Ytdpnimngndemiaa.MFnExactFlatOf
