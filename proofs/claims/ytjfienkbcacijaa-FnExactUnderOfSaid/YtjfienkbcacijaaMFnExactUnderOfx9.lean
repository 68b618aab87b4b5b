/- Functions of the program as Lean functions, and the proof that a call comes to just these: machine text of this session's own program (myprint.py). -/
import Derived.Test.YtjfienkbcacijaaMFnExactUnderOfx0
import Derived.Test.YtjfienkbcacijaaMFnExactUnderOfx1
import Derived.Test.YtjfienkbcacijaaMFnExactUnderOfx3
import Derived.Test.YtjfienkbcacijaaMFnExactUnderOfx5
import Derived.Test.YtjfienkbcacijaaMFnExactUnderOfx6
import Derived.Test.YtjfienkbcacijaaMFnExactUnderOfx7
import Derived.Test.YtjfienkbcacijaaMFnExactUnderOfx8
namespace Go.Proofs.Ytjfienkbcacijaa.MFnExactUnderOf
open Go.RowKit Go.Proofs.YtjfienkbcacijaaW.PrintWords Go.Proofs.YtjfienkbcacijaaW.PrintLast Go.Proofs.YtjfienkbcacijaaW.PrintMore
attribute [local go_sem] max2_int min2_int max_two min_two max_three min_three max_four min_four   -- for this text's walks alone
set_option linter.unusedVariables false
set_option linter.unusedSimpArgs false

theorem z9_0 {P : Prop} (h : P := by repeat (first | (with_reducible first | exact HB.out | apply below_alloc | apply pw_below_drewN | apply below_drew1 | refine below_set ?_ GE316.out) | exact HB.out)) : P := h
theorem z9_1 {P : Prop} (h : P := by (try simp only [List.map_toArray, List.map_cons, List.map_nil]); first | done | rfl | (simp only [List.length_drop, List.length_take]; rfl)) : P := h
theorem z9_2 {P : Prop} (h : P := by first | exact hs_.1 hk_ | exact hs_.1.1 hk_ | exact hs_.1.2 hk_ | exact hs_.1.1.1 hk_ | exact hs_.1.1.2 hk_ | exact hs_.1.2.1 hk_ | exact hs_.1.2.2 hk_ | exact hs_.1.1.1.1 hk_ | exact hs_.1.1.1.2 hk_ | exact hs_.1.1.2.1 hk_ | exact hs_.1.1.2.2 hk_ | exact hs_.1.2.1.1 hk_ | exact hs_.1.2.1.2 hk_ | exact hs_.1.2.2.1 hk_ | exact hs_.1.2.2.2 hk_ | exact hs_.1.1.1.1.1 hk_ | exact hs_.1.1.1.1.2 hk_ | exact hs_.1.1.1.2.1 hk_ | exact hs_.1.1.1.2.2 hk_ | exact hs_.1.1.2.1.1 hk_ | exact hs_.1.1.2.1.2 hk_ | exact hs_.1.1.2.2.1 hk_ | exact hs_.1.1.2.2.2 hk_ | exact hs_.1.2.1.1.1 hk_ | exact hs_.1.2.1.1.2 hk_ | exact hs_.1.2.1.2.1 hk_ | exact hs_.1.2.1.2.2 hk_ | exact hs_.1.2.2.1.1 hk_ | exact hs_.1.2.2.1.2 hk_ | exact hs_.1.2.2.2.1 hk_ | exact hs_.1.2.2.2.2 hk_ | exact hs_.1.1.1.1.1.1 hk_ | exact hs_.1.1.1.1.1.2 hk_ | exact hs_.1.1.1.1.2.1 hk_ | exact hs_.1.1.1.1.2.2 hk_ | exact hs_.1.1.1.2.1.1 hk_ | exact hs_.1.1.1.2.1.2 hk_ | exact hs_.1.1.1.2.2.1 hk_ | exact hs_.1.1.1.2.2.2 hk_ | exact hs_.1.1.2.1.1.1 hk_ | exact hs_.1.1.2.1.1.2 hk_ | exact hs_.1.1.2.1.2.1 hk_ | exact hs_.1.1.2.1.2.2 hk_ | exact hs_.1.1.2.2.1.1 hk_ | exact hs_.1.1.2.2.1.2 hk_ | exact hs_.1.1.2.2.2.1 hk_ | exact hs_.1.1.2.2.2.2 hk_ | exact hs_.1.2.1.1.1.1 hk_ | exact hs_.1.2.1.1.1.2 hk_ | exact hs_.1.2.1.1.2.1 hk_ | exact hs_.1.2.1.1.2.2 hk_ | exact hs_.1.2.1.2.1.1 hk_ | exact hs_.1.2.1.2.1.2 hk_ | exact hs_.1.2.1.2.2.1 hk_ | exact hs_.1.2.1.2.2.2 hk_ | exact hs_.1.2.2.1.1.1 hk_ | exact hs_.1.2.2.1.1.2 hk_ | exact hs_.1.2.2.1.2.1 hk_ | exact hs_.1.2.2.1.2.2 hk_ | exact hs_.1.2.2.2.1.1 hk_ | exact hs_.1.2.2.2.1.2 hk_ | exact hs_.1.2.2.2.2.1 hk_ | exact hs_.1.2.2.2.2.2 hk_) : P := h
theorem z9_3 {P : Prop} (h : P := by repeat (first | (with_reducible first | exact HB.out | apply below_alloc | apply pw_below_drewN | apply below_drew1 | refine below_set ?_ GE316.out | refine below_set ?_ GE327.out) | exact HB.out)) : P := h
theorem z9_4 {P : Prop} (h : P := by repeat (first | exact (Kd.C_below HR0_0.out HB.out) | (with_reducible refine Kd.C_alloc ?_ _) | (with_reducible refine Kd.C_drewN ?_ _) | (with_reducible refine Kd.C_drew ?_))) : P := h
theorem z9_5 {P : Prop} (h : P := by repeat (first | (with_reducible first | exact HB.out | apply below_alloc | apply pw_below_drewN | apply below_drew1) | exact HB.out)) : P := h
theorem z9_6 {P : Prop} (h : P := by (with_reducible repeat (first | apply Kd.S_alloc | apply Kd.S_drewN | apply Kd.S_drew)); exact (Kd.S_mono (Kd.S_far (p := ⟨gb327, 0, none⟩) (Kd.S_types HO326.out BK327.out (by decide)) (fun _ hk => hk.2) (.slice Ao29 t324.length co29)) (fun _ h_ => h_.1))) : P := h
theorem z9_7 {P : Prop} (h : P := by (with_reducible repeat (first | apply Kd.R_alloc | apply Kd.R_drewN | apply Kd.R_drew)); exact (Kd.R_mono (Kd.R_far (p := ⟨gb327, 0, none⟩) (Kd.R_types HO323.out BK327.out (by decide)) (fun _ hk => hk.2) (.slice Ao29 t324.length co29)) (fun _ h_ => h_.1))) : P := h
theorem z9_8 {P : Prop} (h : P := by (try simp only [List.map_toArray, List.map_cons, List.map_nil]); first | done | (rw [show t339.length = t328.length from (Kd.R_reads' HO_8.out).1.symm] <;> rfl) | rfl | (simp only [List.length_drop, List.length_take]; rfl)) : P := h
theorem z9_9 {P : Prop} (h : P := by repeat (first | exact (Kd.R_reads' HO330.out).2.2 | (with_reducible refine Kd.C_alloc ?_ _) | (with_reducible refine Kd.C_drewN ?_ _) | (with_reducible refine Kd.C_drew ?_))) : P := h
theorem z9_10 {P : Prop} (h : P := by repeat (first | exact (Kd.R_reads' HO323.out).2.2 | (with_reducible refine Kd.C_alloc ?_ _) | (with_reducible refine Kd.C_drewN ?_ _) | (with_reducible refine Kd.C_drew ?_))) : P := h
theorem z9_11 {P : Prop} (h : P := by repeat (first | exact (Kd.R_reads' HO_8.out).2.2 | (with_reducible refine Kd.C_alloc ?_ _) | (with_reducible refine Kd.C_drewN ?_ _) | (with_reducible refine Kd.C_drew ?_))) : P := h
/-! ### laws_FnExactUnderOf: function 7 -/
def laws_FnExactUnderOf.j0 : Nat → Int → List Int → List Int → Bool → List (S118) → Option (Bool)
 | 0, _, _, _, _, _ => none
 | k + 1, x1, x6, x8, x46, x317000 => if x46 = true then (some false) else ((laws_markIntS.f k x8 1).bind fun bt338 => ((laws_heldIntS.f k bt338.2 1).bind fun t340 => (if t340 < 0 then (some false) else (if t340 = bt338.1 then ((laws_toScene.f k x317000).bind fun t341 => ((impl_UnderOf.f k t341 x1).bind fun t344 => ((laws_eqIntS.f k t344 x6).bind fun t347 => (if t347 = true then ((laws_heldIntS.f k bt338.2 1).bind fun t348 => (if t348 < 0 then (some false) else (if t348 = bt338.1 then (some true) else (some false)))) else (some false))))) else (some false)))))
def laws_FnExactUnderOf.f (k : Nat) (l0_0 : List (S118)) (a1 : Int) : Option (Bool) := (laws_szScene.f k l0_0 1048576).bind fun t317 => (if t317 < 0 then (some true) else ((laws_toScene.f k l0_0).bind fun t318 => ((spec_UnderOf.f k t318 a1).bind fun t321 => ((laws_toScene.f k l0_0).bind fun t324 => ((impl_UnderOf.f k t324 a1).bind fun t328 => ((laws_eqIntS.f k t328 t321).bind fun t331 => (if t331 = true then ((laws_toScene.f k l0_0).bind fun t332 => ((laws_eqScene.f k t324 t332).bind fun t335 => (if t335 = true then ((laws_markScene.f k t324 1).bind fun t336 => (if t336 < 0 then (laws_FnExactUnderOf.j0 k a1 t321 t328 true l0_0) else ((laws_eqIntS.f k t328 t321).bind fun t337 => (laws_FnExactUnderOf.j0 k a1 t321 t328 (!t337) l0_0)))) else (some false)))) else (some false))))))))
theorem laws_FnExactUnderOf.mono_l : ∀ k, (∀ y0 y1 y2 y3 y4, LeO (laws_FnExactUnderOf.j0 k y0 y1 y2 y3 y4) (laws_FnExactUnderOf.j0 (k + 1) y0 y1 y2 y3 y4))
 | 0 => fun _ _ _ _ _ r h => by simp [laws_FnExactUnderOf.j0] at h
 | k + 1 => by
  have ih0 := laws_FnExactUnderOf.mono_l k
  ·intro y0 y1 y2 y3 y4
   unfold laws_FnExactUnderOf.j0
   repeat' first
   | (with_reducible exact ih0 _ _ _ _ _)
   | (with_reducible exact impl_UnderOf.mono _ _ _)
   | (with_reducible exact laws_eqIntS.mono _ _ _)
   | (with_reducible exact laws_eqScene.mono _ _ _)
   | (with_reducible exact laws_heldIntS.mono _ _ _)
   | (with_reducible exact laws_markIntS.mono _ _ _)
   | (with_reducible exact laws_markScene.mono _ _ _)
   | (with_reducible exact laws_szScene.mono _ _ _)
   | (with_reducible exact laws_toScene.mono _ _)
   | (with_reducible exact spec_UnderOf.mono _ _ _)
   | (with_reducible exact LeO.refl _)
   | (with_reducible exact LeO.none _)
   | (with_reducible refine LeO.ite ?_ ?_)
   | (with_reducible refine LeO.bind ?_ (fun _ => ?_))
theorem laws_FnExactUnderOf.mono : ∀ a0 a1 k, LeO (laws_FnExactUnderOf.f k a0 a1) (laws_FnExactUnderOf.f (k + 1) a0 a1) := by
 intro a0 a1 k
 have ih0 := laws_FnExactUnderOf.mono_l k
 unfold laws_FnExactUnderOf.f
 repeat' first
   | (with_reducible exact ih0 _ _ _ _ _)
   | (with_reducible exact impl_UnderOf.mono _ _ _)
   | (with_reducible exact laws_eqIntS.mono _ _ _)
   | (with_reducible exact laws_eqScene.mono _ _ _)
   | (with_reducible exact laws_heldIntS.mono _ _ _)
   | (with_reducible exact laws_markIntS.mono _ _ _)
   | (with_reducible exact laws_markScene.mono _ _ _)
   | (with_reducible exact laws_szScene.mono _ _ _)
   | (with_reducible exact laws_toScene.mono _ _)
   | (with_reducible exact spec_UnderOf.mono _ _ _)
   | (with_reducible exact LeO.refl _)
   | (with_reducible exact LeO.none _)
   | (with_reducible refine LeO.ite ?_ ?_)
   | (with_reducible refine LeO.bind ?_ (fun _ => ?_))
set_option maxHeartbeats 8000000 in
set_option maxRecDepth 100000 in
theorem laws_FnExactUnderOf.calls (k : Nat) (A0_0 : Option Addr) (c0_0 : Nat) (l0_0 : List (S118)) (a1 : Int) (r : Bool) (w : World) (hr0_0 : Kd.C k118 w A0_0 l0_0.length l0_0) (hc0_0 : l0_0.length ≤ c0_0) (hT : r = true) (h : laws_FnExactUnderOf.f k l0_0 a1 = some r) :
  Calls Try.prog 7 #[.agg #[.slice A0_0 l0_0.length c0_0], .int .i64 a1] w fun e w' => e = .returned (.bool r) ∧ Below w.heap.size w w' := by
 have hu48 := Try.underlying48
 have hu53 := Try.underlying53
 have HR0_0 := mk0 hr0_0
 have HC0_0 := mk0 hc0_0
 clear hr0_0 hc0_0
 have HB := mk0 (Below.refl w.heap.size w)
 have H : ((laws_szScene.f k l0_0 1048576).bind fun t317 => (if t317 < 0 then (some true) else ((laws_toScene.f k l0_0).bind fun t318 => ((spec_UnderOf.f k t318 a1).bind fun t321 => ((laws_toScene.f k l0_0).bind fun t324 => ((impl_UnderOf.f k t324 a1).bind fun t328 => ((laws_eqIntS.f k t328 t321).bind fun t331 => (if t331 = true then ((laws_toScene.f k l0_0).bind fun t332 => ((laws_eqScene.f k t324 t332).bind fun t335 => (if t335 = true then ((laws_markScene.f k t324 1).bind fun t336 => (if t336 < 0 then (laws_FnExactUnderOf.j0 k a1 t321 t328 true l0_0) else ((laws_eqIntS.f k t328 t321).bind fun t337 => (laws_FnExactUnderOf.j0 k a1 t321 t328 (!t337) l0_0)))) else (some false)))) else (some false))))))))) = some r := h
 clear h
 replace H := Option.bind_eq_some_iff.mp H
 obtain ⟨t317, A30, H⟩ := H
 try dsimp only at H
 have A3 := mk0 A30
 clear A30
 by_cases c4 : t317 < 0
 ·rw [if_pos c4] at H
  have c4b0 := decide_eq_true c4
  clear c4
  obtain rfl := Option.some.inj H
  simp only [Option.some.injEq, Prod.mk.injEq] at H
  obtain ⟨rfl⟩ := H
  go_enter Try.func7, Try.ntmps7
  go_wp2_with (first | ((with_reducible refine gate_dst (N := 2) rfl ?_); refine boxz (cs := #[.slice A0_0 l0_0.length c0_0]) (t := 48) rfl ?_; intro gb316 hg w5 hbox hb; have n0_ := mk0 (below_step z9_5 hb); have n1_ := mk0 (hbox); have GW316 := mk0 (ge_go (a := w.heap.size) hg (below_size z9_5)); have GE316 := GW316; clear HB; have HB := n0_; have BK316 := n1_; clear n0_ n1_ ; clear hb hbox hg; obtain ⟨_, _⟩ := be_1 BK316.out) | ((with_reducible refine gate_callee (f := 29) rfl ?_); refine goesL_ (some 15) rfl rfl Try.func29 (by kernel_rfl) rfl #[.agg #[.slice A0_0 l0_0.length c0_0], .int .i64 1048576] rfl z9_1 ?_; (with_reducible refine (laws_szScene.calls k _ _ l0_0 1048576 t317 _ ?side1 ?side2 A3.out).mono ?_); (case side1 => exact z9_4); (case side2 => exact HC0_0.out); rintro e w7 ⟨rfl, hb⟩; refine ⟨_, rfl, ?_⟩; have n0_ := mk0 (blk_belowB BK316 (pkb BK316) hb); have n1_ := mk0 (below_step z9_0 hb); clear BK316 HB; have BK316 := n0_; have HB := n1_; clear n0_ n1_; (try clear hb)))
  go_ret
  exact ⟨(by first | rfl | (simp [errW_none, errW_some] <;> rfl) | (simp [*, errW_none, errW_some] <;> rfl)), z9_0⟩
 rw [if_neg c4] at H
 have c4b0 := decide_eq_false c4
 clear c4
 replace H := Option.bind_eq_some_iff.mp H
 obtain ⟨t318, A80, H⟩ := H
 try dsimp only at H
 have A8 := mk0 A80
 clear A80
 replace H := Option.bind_eq_some_iff.mp H
 obtain ⟨t321, A90, H⟩ := H
 try dsimp only at H
 have A9 := mk0 A90
 clear A90
 replace H := Option.bind_eq_some_iff.mp H
 obtain ⟨t324, A100, H⟩ := H
 try dsimp only at H
 have A10 := mk0 A100
 clear A100
 replace H := Option.bind_eq_some_iff.mp H
 obtain ⟨t328, A110, H⟩ := H
 try dsimp only at H
 have A11 := mk0 A110
 clear A110
 replace H := Option.bind_eq_some_iff.mp H
 obtain ⟨t331, A120, H⟩ := H
 try dsimp only at H
 have A12 := mk0 A120
 clear A120
 by_cases c13 : t331 = true
 rotate_left
 ·replace c13 := Bool.eq_false_iff.mpr c13
  subst c13
  rw [if_neg (show ¬ (false = true) by decide)] at H
  obtain rfl := Option.some.inj H
  exact absurd hT Bool.false_ne_true
 subst c13
 rw [if_pos rfl] at H
 replace H := Option.bind_eq_some_iff.mp H
 obtain ⟨t332, A140, H⟩ := H
 try dsimp only at H
 have A14 := mk0 A140
 clear A140
 replace H := Option.bind_eq_some_iff.mp H
 obtain ⟨t335, A150, H⟩ := H
 try dsimp only at H
 have A15 := mk0 A150
 clear A150
 by_cases c16 : t335 = true
 rotate_left
 ·replace c16 := Bool.eq_false_iff.mpr c16
  subst c16
  rw [if_neg (show ¬ (false = true) by decide)] at H
  obtain rfl := Option.some.inj H
  exact absurd hT Bool.false_ne_true
 subst c16
 rw [if_pos rfl] at H
 replace H := Option.bind_eq_some_iff.mp H
 obtain ⟨t336, A170, H⟩ := H
 try dsimp only at H
 have A17 := mk0 A170
 clear A170
 have HC18 := mk0 H
 clear H
 go_enter Try.func7, Try.ntmps7
 try go_wp2_with (first | ((with_reducible refine gate_dst (N := 2) rfl ?_); refine boxz (cs := #[.slice A0_0 l0_0.length c0_0]) (t := 48) rfl ?_; intro gb316 hg w19 hbox hb; have n0_ := mk0 (below_step z9_5 hb); have n1_ := mk0 (hbox); have GW316 := mk0 (ge_go (a := w.heap.size) hg (below_size z9_5)); have GE316 := GW316; clear HB; have HB := n0_; have BK316 := n1_; clear n0_ n1_ ; clear hb hbox hg; obtain ⟨_, _⟩ := be_1 BK316.out) | ((with_reducible refine gate_callee (f := 29) rfl ?_); refine goesL_ (some 15) rfl rfl Try.func29 (by kernel_rfl) rfl #[.agg #[.slice A0_0 l0_0.length c0_0], .int .i64 1048576] rfl z9_1 ?_; (with_reducible refine (laws_szScene.calls k _ _ l0_0 1048576 t317 _ ?side1 ?side2 A3.out).mono ?_); (case side1 => exact z9_4); (case side2 => exact HC0_0.out); rintro e w21 ⟨rfl, hb⟩; refine ⟨_, rfl, ?_⟩; have n0_ := mk0 (blk_belowB BK316 (pkb BK316) hb); have n1_ := mk0 (below_step z9_0 hb); clear BK316 HB; have BK316 := n0_; have HB := n1_; clear n0_ n1_; (try clear hb); (try clear hk); obtain ⟨_, _⟩ := be_1 BK316.out) | ((with_reducible refine gate_callee (f := 31) rfl ?_); refine goesL_ (some 19) rfl rfl Try.func31 (by kernel_rfl) rfl #[.agg #[.slice A0_0 l0_0.length c0_0]] rfl z9_1 ?_; (with_reducible refine (laws_toScene.calls k _ _ l0_0 t318 _ ?side1 ?side2 A8.out).mono ?_); (case side1 => exact z9_4); (case side2 => exact HC0_0.out); rintro e w23 ⟨v319, rfl, ho0, hb⟩; refine ⟨_, rfl, ?_⟩; have n0_ := mk0 (Kd.S_lower ho0 (below_size z9_0)); have n1_ := mk0 (blk_belowB BK316 (pkb BK316) hb); have n2_ := mk0 (below_step z9_0 hb); clear BK316 HB; have HO320 := n0_; have BK316 := n1_; have HB := n2_; clear n0_ n1_ n2_; (try clear hb); (try clear hk); (try clear ho0); obtain ⟨Ao24, co24, eo24⟩ := Kd.S_slice HO320.out; subst eo24) | ((with_reducible refine gate_callee (f := 36) rfl ?_); refine goesL_ (some 21) rfl rfl Try.func36 (by kernel_rfl) rfl #[.agg #[.slice Ao24 t318.length co24], .int .i64 a1] rfl z9_1 ?_; (with_reducible refine (spec_UnderOf.calls k _ _ t318 a1 t321 _ ?side1 ?side2 A9.out).mono ?_); (case side1 => repeat (first | exact (Kd.S_reads' HO320.out).2.2 | (with_reducible refine Kd.C_alloc ?_ _) | (with_reducible refine Kd.C_drewN ?_ _) | (with_reducible refine Kd.C_drew ?_))); (case side2 => exact (Kd.S_reads' HO320.out).2.1); rintro e w25 ⟨v322, rfl, ho0, hb⟩; refine ⟨_, rfl, ?_⟩; have n0_ := mk0 (Kd.S_elder' (pkS HO320) (Kd.R_base ho0) hb); have n1_ := mk0 (Kd.R_lower ho0 (below_size z9_0)); have n2_ := mk0 (blk_belowB BK316 (pkb BK316) hb); have n3_ := mk0 (below_step z9_0 hb); clear HO320 BK316 HB; have HO320 := n0_; have HO323 := n1_; have BK316 := n2_; have HB := n3_; clear n0_ n1_ n2_ n3_; (try clear hb); (try clear hk); (try clear ho0); obtain ⟨_, _⟩ := be_1 BK316.out) | ((with_reducible refine gate_callee (f := 31) rfl ?_); refine goesL_ (some 23) rfl rfl Try.func31 (by kernel_rfl) rfl #[.agg #[.slice A0_0 l0_0.length c0_0]] rfl z9_1 ?_; (with_reducible refine (laws_toScene.calls k _ _ l0_0 t324 _ ?side1 ?side2 A10.out).mono ?_); (case side1 => exact z9_4); (case side2 => exact HC0_0.out); rintro e w27 ⟨v325, rfl, ho0, hb⟩; refine ⟨_, rfl, ?_⟩; have n0_ := mk0 (Kd.S_elder' (pkS HO320) (Kd.S_base ho0) hb); have n1_ := mk0 (Kd.R_below (pkR HO323) hb); have n2_ := mk0 (Kd.S_lower (Kd.S_new' (Kd.S_new' ho0 (Kd.S_lt (pkS HO320))) (Kd.R_lt (pkR HO323))) (below_size z9_0)); have n3_ := mk0 (blk_belowB BK316 (pkb BK316) hb); have n4_ := mk0 (below_step z9_0 hb); clear HO320 HO323 BK316 HB; have HO320 := n0_; have HO323 := n1_; have HO326 := n2_; have BK316 := n3_; have HB := n4_; clear n0_ n1_ n2_ n3_ n4_; (try clear hb); (try clear hk); (try clear ho0)) | ((with_reducible refine gate_dst (N := 7) rfl ?_); refine boxz (cs := #[.slice none 0 0]) (t := 53) rfl ?_; intro gb327 hg w28 hbox hb; have n0_ := mk0 (Kd.S_below (pkS HO320) hb); have n1_ := mk0 (Kd.R_below (pkR HO323) hb); have n2_ := mk0 (Kd.S_below (pkS HO326) hb); have n3_ := mk0 (blk_belowB BK316 (pkb BK316) hb); have n4_ := mk0 (below_step z9_0 hb); have n5_ := mk0 (hbox); have GW327 := mk0 (ge_go (a := w.heap.size) hg (below_size z9_0)); have GE327 := GW327; have NB316_327 := mk0 (nb_lt hg (blk_ltB BK316 (pkb BK316))); have NB327_316 := mk0 (nb_gt hg (blk_ltB BK316 (pkb BK316))); clear HO320 HO323 HO326 BK316 HB; have HO320 := n0_; have HO323 := n1_; have HO326 := n2_; have BK316 := n3_; have HB := n4_; have BK327 := n5_; clear n0_ n1_ n2_ n3_ n4_ n5_ ; clear hb hbox hg; obtain ⟨Ao29, co29, eo29⟩ := Kd.S_slice HO326.out; subst eo29; have hnb30 := NB327_316.out; have hnc30 := NB316_327.out; obtain ⟨_, _⟩ := be_1 BK327.out) | ((with_reducible refine gate_callee (f := 37) rfl ?_); refine goesL_ (some 26) rfl rfl Try.func37 (by kernel_rfl) rfl #[.agg #[.slice Ao29 t324.length co29], .int .i64 a1] rfl z9_1 ?_; (with_reducible refine (impl_UnderOf.calls k _ _ t324 a1 t328 _ ?side1 ?side2 A11.out).mono ?_); (case side1 => refine (Kd.S_reads' (e := 69) (base := w.heap.size) (ok := fun k_ => ((True ∧ some k_ ≠ (.slice Ao24 t318.length co24 : Value).ownBlock) ∧ some k_ ≠ (v322 : Value).ownBlock)) (n := t324.length) (c := co29) ?_).2.2; exact z9_6); (case side2 => exact (Kd.S_reads' HO326.out).2.1); rintro e w32 ⟨v329, rfl, ho0, hb⟩; refine ⟨_, rfl, ?_⟩; have n0_ := mk0 (Kd.S_elder' (by (with_reducible repeat (first | apply Kd.S_alloc | apply Kd.S_drewN | apply Kd.S_drew)); exact (Kd.S_mono (Kd.S_far (p := ⟨gb327, 0, none⟩) (Kd.S_types HO320.out BK327.out (by decide)) (fun _ hk => hk.2) (.slice Ao29 t324.length co29)) (fun _ h_ => h_.1))) (Kd.R_base ho0) hb); have n1_ := mk0 (Kd.R_elder' z9_7 (Kd.R_base ho0) hb); have n2_ := mk0 (Kd.S_elder' z9_6 (Kd.R_base ho0) hb); have n3_ := mk0 (Kd.R_lower (Kd.R_new' ho0 (Kd.R_lt z9_7)) (below_size z9_3)); have n4_ := mk0 (blk_belowB BK316 (by (with_reducible repeat (first | refine blk_drewN ?_ _ | refine blk_drew ?_ | refine blk_alloc ?_ _)); refine blk_far ?_ NB316_327.out _; (with_reducible repeat (first | refine blk_drewN ?_ _ | refine blk_drew ?_ | refine blk_alloc ?_ _)); exact BK316.out) hb); have n5_ := mk0 (blk_below (g := gb327) (o := .cells #[.slice Ao29 t324.length co29] 53 (0, 0)) (by apply blk_fin; (focus ((with_reducible repeat (first | apply blk_putQ | refine blk_drewN ?_ _ | refine blk_drew ?_ | refine blk_alloc ?_ _)); exact BK327.out)); first | (simp only [List.setIfInBounds_toArray, List.set_cons_zero, List.set_cons_succ]; done) | rfl) hb); have n6_ := mk0 (below_step z9_3 hb); clear HO320 HO323 HO326 BK316 BK327 HB; have HO320 := n0_; have HO323 := n1_; have HO326 := n2_; have HO330 := n3_; have BK316 := n4_; have BK327 := n5_; have HB := n6_; clear n0_ n1_ n2_ n3_ n4_ n5_ n6_; (try clear hb); (try clear hk); (try clear ho0); obtain ⟨Ao33, co33, eo33⟩ := Kd.R_slice HO330.out; subst eo33; obtain ⟨Ao34, co34, eo34⟩ := Kd.R_slice HO323.out; subst eo34) | ((with_reducible refine gate_callee (f := 24) rfl ?_); refine goesL_ (some 29) rfl rfl Try.func24 (by kernel_rfl) rfl #[.slice Ao33 t328.length co33, .slice Ao34 t321.length co34] rfl z9_1 ?_; (with_reducible refine (laws_eqIntS.calls k _ _ t328 _ _ t321 true _ ?side1 ?side2 ?side3 ?side4 A12.out).mono ?_); (case side1 => exact z9_9); (case side2 => exact (Kd.R_reads' HO330.out).2.1); (case side3 => exact z9_10); (case side4 => exact (Kd.R_reads' HO323.out).2.1); rintro e w' ⟨rfl, ⟨nd, rfl⟩⟩; refine ⟨_, rfl, ?_⟩))
 (try (rw [drewN_self w32]; generalize hq_ : World.drewN w32 _ = w32; have n0_ : Aside0 (Kd.S k69 69 w32 w.heap.size (fun k_ => some k_ ≠ (.slice Ao34 t321.length co34 : Value).ownBlock ∧ some k_ ≠ (.slice Ao29 t324.length co29 : Value).ownBlock ∧ some k_ ≠ (.slice Ao33 t328.length co33 : Value).ownBlock) (.slice Ao24 t318.length co24) t318) := ⟨(by rw [← hq_]; exact (by (with_reducible repeat (first | apply Kd.S_alloc | apply Kd.S_drewN | apply Kd.S_drew)); exact Kd.S_mono HO320.out (fun _ hk => ⟨hk.1.1.2, ⟨hk.1.2, hk.2⟩⟩)))⟩; have n1_ : Aside0 (Kd.R (Kd.int .i64) 3 w32 w.heap.size (fun k_ => some k_ ≠ (.slice Ao33 t328.length co33 : Value).ownBlock) (.slice Ao34 t321.length co34) t321) := ⟨(by rw [← hq_]; exact (by (with_reducible repeat (first | apply Kd.R_alloc | apply Kd.R_drewN | apply Kd.R_drew)); exact Kd.R_mono HO323.out (fun _ hk => hk.2)))⟩; have n2_ : Aside0 (Kd.S k69 69 w32 w.heap.size (fun k_ => some k_ ≠ (.slice Ao24 t318.length co24 : Value).ownBlock ∧ some k_ ≠ (.slice Ao34 t321.length co34 : Value).ownBlock ∧ some k_ ≠ (.slice Ao33 t328.length co33 : Value).ownBlock) (.slice Ao29 t324.length co29) t324) := ⟨(by rw [← hq_]; exact (by (with_reducible repeat (first | apply Kd.S_alloc | apply Kd.S_drewN | apply Kd.S_drew)); exact Kd.S_mono HO326.out (fun _ hk => ⟨hk.1.1.2, ⟨hk.1.2, hk.2⟩⟩)))⟩; have n3_ : Aside0 (Kd.R (Kd.int .i64) 3 w32 w.heap.size (fun k_ => some k_ ≠ (.slice Ao34 t321.length co34 : Value).ownBlock) (.slice Ao33 t328.length co33) t328) := ⟨(by rw [← hq_]; exact (by (with_reducible repeat (first | apply Kd.R_alloc | apply Kd.R_drewN | apply Kd.R_drew)); exact Kd.R_mono HO330.out (fun _ hk => hk.2)))⟩; have n4_ : Aside0 (w32.heap[gb316]? = some (.cells #[.slice A0_0 l0_0.length c0_0] 48 (0, 0))) := ⟨(by rw [← hq_]; exact (pkb BK316))⟩; have n5_ : Aside0 (w32.heap[gb327]? = some (.cells #[.slice Ao29 t324.length co29] 53 (0, 0))) := ⟨(by rw [← hq_]; exact (pkb BK327))⟩; have n6_ : Aside0 (Below w.heap.size w w32) := ⟨(by rw [← hq_]; exact z9_3)⟩; clear HO320 HO323 HO326 HO330 BK316 BK327 HB hq_; have HO320 := n0_; have HO323 := n1_; have HO326 := n2_; have HO330 := n3_; have BK316 := n4_; have BK327 := n5_; have HB := n6_; clear n0_ n1_ n2_ n3_ n4_ n5_ n6_))
 have n0_ := mk0 (Kd.S_drew HO320.out)
 have n1_ := mk0 (Kd.R_drew HO323.out)
 have n2_ := mk0 (Kd.S_drew HO326.out)
 have n3_ := mk0 (Kd.R_drew HO330.out)
 have n4_ := mk0 (blk_drew BK316.out)
 have n5_ := mk0 (blk_drew BK327.out)
 have n6_ := mk0 (below_drew1 HB.out)
 clear HO320 HO323 HO326 HO330 BK316 BK327 HB; have HO320 := n0_; have HO323 := n1_; have HO326 := n2_; have HO330 := n3_; have BK316 := n4_; have BK327 := n5_; have HB := n6_; clear n0_ n1_ n2_ n3_ n4_ n5_ n6_
 refine start_ (n := 5) (S := fun w' => w'.cell? ⟨gb327, 0, none⟩ = some (.slice Ao29 t324.length co29) ∧ w'.cell? ⟨gb316, 0, none⟩ = some (.slice A0_0 l0_0.length c0_0)) (ds := []) #[false, false, false, false, false] (by kernel_rfl) rfl rfl ⟨(blk_cell BK327.out 0).trans rfl, (blk_cell BK316.out 0).trans rfl⟩ (fun hHeld => ?_)
 generalize w32.drew = w35 at HO320 HO323 HO326 HO330 BK316 BK327 HB hHeld ⊢
 refine take_ (i := 0) (N := some 31) (v := ?_) (a' := ?_) (bA 5 1) rfl rfl (by kernel_rfl) (fun _ _ _ h => h) (Or.inl ⟨by rfl, ?_⟩) hHeld ?_ ?_
 rotate_left
 ·rintro w' ⟨s0, s1⟩
  go_simp; with_reducible rfl
 rotate_left
 ·simp only [Act.put, List.setIfInBounds_toArray, List.set_cons_zero, List.set_cons_succ, i64_w, i32_w]
  rfl
 refine take_ (i := 1) (N := some 32) (v := ?_) (a' := ?_) (bA 5 3) rfl rfl (by kernel_rfl) (fun _ _ _ h => h) (Or.inl ⟨by rfl, ?_⟩) hHeld ?_ ?_
 rotate_left
 ·rintro w' ⟨s0, s1⟩
  go_simp; with_reducible rfl
 rotate_left
 ·simp only [Act.put, List.setIfInBounds_toArray, List.set_cons_zero, List.set_cons_succ, i64_w, i32_w]
  rfl
 refine one_ (i := 2) (N := some 33) (bA 5 7) rfl rfl (by kernel_rfl) (by decide) (fun K hK => ?_)
 refine goes_ Try.func31 (by kernel_rfl) rfl #[.agg #[.slice A0_0 l0_0.length c0_0]] (by rfl) rfl rfl z9_1 ?_
 with_reducible refine (laws_toScene.calls k _ _ l0_0 t332 _ ?side1 ?side2 A14.out).mono ?_
 (case side1 => exact z9_4)
 (case side2 => exact HC0_0.out)
 rintro e w36 ⟨v333, rfl, ho0, hb⟩
 refine ⟨_, rfl, ?_⟩
 have n0_ := mk0 (Kd.S_elder' (pkS HO320) (Kd.S_base ho0) hb)
 have n1_ := mk0 (Kd.R_below (pkR HO323) hb)
 have n2_ := mk0 (Kd.S_elder' (pkS HO326) (Kd.S_base ho0) hb)
 have n3_ := mk0 (Kd.R_below (pkR HO330) hb)
 have n4_ := mk0 (Kd.S_lower (Kd.S_new' (Kd.S_new' (Kd.S_new' (Kd.S_new' ho0 (Kd.S_lt (pkS HO320))) (Kd.R_lt (pkR HO323))) (Kd.S_lt (pkS HO326))) (Kd.R_lt (pkR HO330))) (below_size z9_3))
 have n5_ := mk0 (blk_belowB BK316 (pkb BK316) hb)
 have n6_ := mk0 (blk_belowB BK327 (pkb BK327) hb)
 have n7_ := mk0 (below_step z9_3 hb)
 clear HO320 HO323 HO326 HO330 BK316 BK327 HB; have HO320 := n0_; have HO323 := n1_; have HO326 := n2_; have HO330 := n3_; have HO334 := n4_; have BK316 := n5_; have BK327 := n6_; have HB := n7_; clear n0_ n1_ n2_ n3_ n4_ n5_ n6_ n7_; (try clear hb); (try clear hb2); (try clear hk); (try clear hi); (try clear ho0)
 obtain ⟨Ao37, co37, eo37⟩ := Kd.S_slice HO334.out
 (first | subst eo37 | (injection eo37 with f1_ f2_ f3_; have f4_ := f1_.symm; have f5_ := f3_.symm; clear f1_ f2_ f3_; subst f4_; subst f5_))
 refine hK.out _ _ ⟨(blk_cell BK327.out 0).trans rfl, (blk_cell BK316.out 0).trans rfl⟩ (fun hHeld => ?_)
 clear hK K
 refine norm_ (a' := ?_) ?_ ?_
 rotate_left
 ·show Act.put _ (some 33) _ = _
  simp only [Act.put, List.setIfInBounds_toArray, List.set_cons_zero, List.set_cons_succ, i64_w, i32_w]
  rfl
 refine one_ (i := 3) (N := some 34) (bA 5 15) rfl rfl (by kernel_rfl) (by decide) (fun K hK => ?_)
 refine goes_ Try.func33 (by kernel_rfl) rfl #[.agg #[.slice Ao29 t324.length co29], .agg #[.slice Ao37 t332.length co37]] (by rfl) rfl rfl z9_1 ?_
 with_reducible refine (laws_eqScene.calls k _ _ t324 _ _ t332 true _ ?side1 ?side2 ?side3 ?side4 (by first | rfl | assumption) A15.out).mono ?_
 (case side1 => repeat (first | exact (Kd.S_reads' HO326.out).2.2 | (with_reducible refine Kd.C_alloc ?_ _) | (with_reducible refine Kd.C_drewN ?_ _) | (with_reducible refine Kd.C_drew ?_)))
 (case side2 => exact (Kd.S_reads' HO326.out).2.1)
 (case side3 => repeat (first | exact (Kd.S_reads' HO334.out).2.2 | (with_reducible refine Kd.C_alloc ?_ _) | (with_reducible refine Kd.C_drewN ?_ _) | (with_reducible refine Kd.C_drew ?_)))
 (case side4 => exact (Kd.S_reads' HO334.out).2.1)
 rintro e w38 ⟨rfl, hb⟩
 refine ⟨_, rfl, ?_⟩
 have n0_ := mk0 (Kd.S_below (pkS HO320) hb)
 have n1_ := mk0 (Kd.R_below (pkR HO323) hb)
 have n2_ := mk0 (Kd.S_below (pkS HO326) hb)
 have n3_ := mk0 (Kd.R_below (pkR HO330) hb)
 have n4_ := mk0 (Kd.S_below (pkS HO334) hb)
 have n5_ := mk0 (blk_belowB BK316 (pkb BK316) hb)
 have n6_ := mk0 (blk_belowB BK327 (pkb BK327) hb)
 have n7_ := mk0 (below_step z9_3 hb)
 clear HO320 HO323 HO326 HO330 HO334 BK316 BK327 HB; have HO320 := n0_; have HO323 := n1_; have HO326 := n2_; have HO330 := n3_; have HO334 := n4_; have BK316 := n5_; have BK327 := n6_; have HB := n7_; clear n0_ n1_ n2_ n3_ n4_ n5_ n6_ n7_; (try clear hb); (try clear hb2); (try clear hk); (try clear hi)
 refine hK.out _ _ ⟨(blk_cell BK327.out 0).trans rfl, (blk_cell BK316.out 0).trans rfl⟩ (fun hHeld => ?_)
 clear hK K
 refine norm_ (a' := ?_) ?_ ?_
 rotate_left
 ·show Act.put _ (some 34) _ = _
  simp only [Act.put, List.setIfInBounds_toArray, List.set_cons_zero, List.set_cons_succ, i64_w, i32_w]
  rfl
 refine pure_ (i := 4) (N := some 35) (v := ?_) (a' := ?_) (bA 5 31) rfl rfl (by kernel_rfl) (fun _ _ _ h => h) (Or.inl ⟨by rfl, ?_⟩) ?_ ?_; rotate_left
 ·intro w'
  go_simp; with_reducible rfl
 rotate_left
 ·simp only [Act.put, List.setIfInBounds_toArray, List.set_cons_zero, List.set_cons_succ, i64_w, i32_w]
  rfl
 refine done_ (by kernel_rfl) ?_
 obtain ⟨_, _⟩ := be_1 BK327.out
 go_upto_region 14 with (first | ((with_reducible refine gate_callee (f := 34) rfl ?_); refine goesL_ (some 38) rfl rfl Try.func34 (by kernel_rfl) rfl #[.agg #[.slice Ao29 t324.length co29], .int .i64 1] rfl z9_1 ?_; (with_reducible refine (laws_markScene.calls k ?P0_ (.slice Ao29 t324.length co29) t324 1 t336 w _ ?side1 ?side2 A17.out).mono ?_); (case side1 => repeat (first | (with_reducible first | exact HB.out | apply below_alloc | apply pw_below_drewN | apply below_drew1 | refine below_set ?_ GE316.out | refine below_set ?_ GE327.out) | exact HB.out)); (case side2 => exact tyq_S (HO326.out)); rintro e w40 ⟨rfl, hb, hkp⟩; refine ⟨_, rfl, ?_⟩; have n0_ := mk0 (blk_kept (pkb BK316) hkp (fun hs_ => tyq_no (pkb BK316) (by decide) hs_.2)); have n1_ := mk0 (Kd.R_reok (ok := fun k_ => some k_ ≠ (.slice Ao33 t328.length co33 : Value).ownBlock) rfl (Kd.R_kept (Kd.R_tight rfl (HO323.out)) hkp (fun k_ hk_ hs_ => z9_2)) (fun k_ e_ => (by first | exact ((HO323.out).1 k_ e_) | exact ((HO323.out).1 k_ e_).1 | exact ((HO323.out).1 k_ e_).2 | exact ((HO323.out).1 k_ e_).1.1 | exact ((HO323.out).1 k_ e_).1.2 | exact ((HO323.out).1 k_ e_).2.1 | exact ((HO323.out).1 k_ e_).2.2 | exact ((HO323.out).1 k_ e_).1.1.1 | exact ((HO323.out).1 k_ e_).1.1.2 | exact ((HO323.out).1 k_ e_).1.2.1 | exact ((HO323.out).1 k_ e_).1.2.2 | exact ((HO323.out).1 k_ e_).2.1.1 | exact ((HO323.out).1 k_ e_).2.1.2 | exact ((HO323.out).1 k_ e_).2.2.1 | exact ((HO323.out).1 k_ e_).2.2.2 | exact ((HO323.out).1 k_ e_).1.1.1.1 | exact ((HO323.out).1 k_ e_).1.1.1.2 | exact ((HO323.out).1 k_ e_).1.1.2.1 | exact ((HO323.out).1 k_ e_).1.1.2.2 | exact ((HO323.out).1 k_ e_).1.2.1.1 | exact ((HO323.out).1 k_ e_).1.2.1.2 | exact ((HO323.out).1 k_ e_).1.2.2.1 | exact ((HO323.out).1 k_ e_).1.2.2.2 | exact ((HO323.out).1 k_ e_).2.1.1.1 | exact ((HO323.out).1 k_ e_).2.1.1.2 | exact ((HO323.out).1 k_ e_).2.1.2.1 | exact ((HO323.out).1 k_ e_).2.1.2.2 | exact ((HO323.out).1 k_ e_).2.2.1.1 | exact ((HO323.out).1 k_ e_).2.2.1.2 | exact ((HO323.out).1 k_ e_).2.2.2.1 | exact ((HO323.out).1 k_ e_).2.2.2.2 | exact ((HO323.out).1 k_ e_).1.1.1.1.1 | exact ((HO323.out).1 k_ e_).1.1.1.1.2 | exact ((HO323.out).1 k_ e_).1.1.1.2.1 | exact ((HO323.out).1 k_ e_).1.1.1.2.2 | exact ((HO323.out).1 k_ e_).1.1.2.1.1 | exact ((HO323.out).1 k_ e_).1.1.2.1.2 | exact ((HO323.out).1 k_ e_).1.1.2.2.1 | exact ((HO323.out).1 k_ e_).1.1.2.2.2 | exact ((HO323.out).1 k_ e_).1.2.1.1.1 | exact ((HO323.out).1 k_ e_).1.2.1.1.2 | exact ((HO323.out).1 k_ e_).1.2.1.2.1 | exact ((HO323.out).1 k_ e_).1.2.1.2.2 | exact ((HO323.out).1 k_ e_).1.2.2.1.1 | exact ((HO323.out).1 k_ e_).1.2.2.1.2 | exact ((HO323.out).1 k_ e_).1.2.2.2.1 | exact ((HO323.out).1 k_ e_).1.2.2.2.2 | exact ((HO323.out).1 k_ e_).2.1.1.1.1 | exact ((HO323.out).1 k_ e_).2.1.1.1.2 | exact ((HO323.out).1 k_ e_).2.1.1.2.1 | exact ((HO323.out).1 k_ e_).2.1.1.2.2 | exact ((HO323.out).1 k_ e_).2.1.2.1.1 | exact ((HO323.out).1 k_ e_).2.1.2.1.2 | exact ((HO323.out).1 k_ e_).2.1.2.2.1 | exact ((HO323.out).1 k_ e_).2.1.2.2.2 | exact ((HO323.out).1 k_ e_).2.2.1.1.1 | exact ((HO323.out).1 k_ e_).2.2.1.1.2 | exact ((HO323.out).1 k_ e_).2.2.1.2.1 | exact ((HO323.out).1 k_ e_).2.2.1.2.2 | exact ((HO323.out).1 k_ e_).2.2.2.1.1 | exact ((HO323.out).1 k_ e_).2.2.2.1.2 | exact ((HO323.out).1 k_ e_).2.2.2.2.1 | exact ((HO323.out).1 k_ e_).2.2.2.2.2))); have n2_ := mk0 (blk_kept (pkb BK327) hkp (fun hs_ => tyq_no (pkb BK327) (by decide) hs_.2)); have n3_ := mk0 (Kd.R_reok (ok := fun k_ => some k_ ≠ (.slice Ao34 t321.length co34 : Value).ownBlock) rfl (Kd.R_kept (Kd.R_tight rfl (HO330.out)) hkp (fun k_ hk_ hs_ => z9_2)) (fun k_ e_ => (by first | exact ((HO330.out).1 k_ e_) | exact ((HO330.out).1 k_ e_).1 | exact ((HO330.out).1 k_ e_).2 | exact ((HO330.out).1 k_ e_).1.1 | exact ((HO330.out).1 k_ e_).1.2 | exact ((HO330.out).1 k_ e_).2.1 | exact ((HO330.out).1 k_ e_).2.2 | exact ((HO330.out).1 k_ e_).1.1.1 | exact ((HO330.out).1 k_ e_).1.1.2 | exact ((HO330.out).1 k_ e_).1.2.1 | exact ((HO330.out).1 k_ e_).1.2.2 | exact ((HO330.out).1 k_ e_).2.1.1 | exact ((HO330.out).1 k_ e_).2.1.2 | exact ((HO330.out).1 k_ e_).2.2.1 | exact ((HO330.out).1 k_ e_).2.2.2 | exact ((HO330.out).1 k_ e_).1.1.1.1 | exact ((HO330.out).1 k_ e_).1.1.1.2 | exact ((HO330.out).1 k_ e_).1.1.2.1 | exact ((HO330.out).1 k_ e_).1.1.2.2 | exact ((HO330.out).1 k_ e_).1.2.1.1 | exact ((HO330.out).1 k_ e_).1.2.1.2 | exact ((HO330.out).1 k_ e_).1.2.2.1 | exact ((HO330.out).1 k_ e_).1.2.2.2 | exact ((HO330.out).1 k_ e_).2.1.1.1 | exact ((HO330.out).1 k_ e_).2.1.1.2 | exact ((HO330.out).1 k_ e_).2.1.2.1 | exact ((HO330.out).1 k_ e_).2.1.2.2 | exact ((HO330.out).1 k_ e_).2.2.1.1 | exact ((HO330.out).1 k_ e_).2.2.1.2 | exact ((HO330.out).1 k_ e_).2.2.2.1 | exact ((HO330.out).1 k_ e_).2.2.2.2 | exact ((HO330.out).1 k_ e_).1.1.1.1.1 | exact ((HO330.out).1 k_ e_).1.1.1.1.2 | exact ((HO330.out).1 k_ e_).1.1.1.2.1 | exact ((HO330.out).1 k_ e_).1.1.1.2.2 | exact ((HO330.out).1 k_ e_).1.1.2.1.1 | exact ((HO330.out).1 k_ e_).1.1.2.1.2 | exact ((HO330.out).1 k_ e_).1.1.2.2.1 | exact ((HO330.out).1 k_ e_).1.1.2.2.2 | exact ((HO330.out).1 k_ e_).1.2.1.1.1 | exact ((HO330.out).1 k_ e_).1.2.1.1.2 | exact ((HO330.out).1 k_ e_).1.2.1.2.1 | exact ((HO330.out).1 k_ e_).1.2.1.2.2 | exact ((HO330.out).1 k_ e_).1.2.2.1.1 | exact ((HO330.out).1 k_ e_).1.2.2.1.2 | exact ((HO330.out).1 k_ e_).1.2.2.2.1 | exact ((HO330.out).1 k_ e_).1.2.2.2.2 | exact ((HO330.out).1 k_ e_).2.1.1.1.1 | exact ((HO330.out).1 k_ e_).2.1.1.1.2 | exact ((HO330.out).1 k_ e_).2.1.1.2.1 | exact ((HO330.out).1 k_ e_).2.1.1.2.2 | exact ((HO330.out).1 k_ e_).2.1.2.1.1 | exact ((HO330.out).1 k_ e_).2.1.2.1.2 | exact ((HO330.out).1 k_ e_).2.1.2.2.1 | exact ((HO330.out).1 k_ e_).2.1.2.2.2 | exact ((HO330.out).1 k_ e_).2.2.1.1.1 | exact ((HO330.out).1 k_ e_).2.2.1.1.2 | exact ((HO330.out).1 k_ e_).2.2.1.2.1 | exact ((HO330.out).1 k_ e_).2.2.1.2.2 | exact ((HO330.out).1 k_ e_).2.2.2.1.1 | exact ((HO330.out).1 k_ e_).2.2.2.1.2 | exact ((HO330.out).1 k_ e_).2.2.2.2.1 | exact ((HO330.out).1 k_ e_).2.2.2.2.2))); have n4_ := mk0 (hb); clear BK316 HO323 BK327 HO330 HB HO320 HO334 HO326; have BK316 := n0_; have HO323 := n1_; have BK327 := n2_; have HO330 := n3_; have HB := n4_; clear n0_ n1_ n2_ n3_ n4_; (try clear hb); (try clear hkp)))
 (try simp only [Act.put, List.setIfInBounds_toArray, List.set_cons_zero, List.set_cons_succ])
 go_cut [46] (fun v46 wc => ∃ (kq : Nat) (x46_17 : Bool), v46 = .bool x46_17 ∧ Aside0 (laws_FnExactUnderOf.j0 kq a1 t321 t328 x46_17 l0_0 = some r) ∧ Aside0 (kq ≤ k) ∧ Aside0 (Kd.R (Kd.int .i64) 3 wc w.heap.size (fun k_ => some k_ ≠ ((.slice Ao33 t328.length co33) : Value).ownBlock) (.slice Ao34 t321.length co34) t321) ∧ Aside0 (Kd.R (Kd.int .i64) 3 wc w.heap.size (fun k_ => some k_ ≠ ((.slice Ao34 t321.length co34) : Value).ownBlock) (.slice Ao33 t328.length co33) t328) ∧ Aside0 (wc.heap[gb316]? = some (.cells #[(.slice A0_0 l0_0.length c0_0)] 48 (0, 0))) ∧ Aside0 (Below w.heap.size w wc))
 case first =>
  have H := HC18.out; clear HC18
  by_cases c41 : t336 < 0
  ·rw [if_pos c41] at H
   have c41b0 := decide_eq_true c41
   clear c41
   (first | rw [c41b0] | (simp only [i64_w, i32_w]; rw [c41b0]) | skip)
   exact absurd (show r = false from by cases k with | zero => exact absurd H (by simp [laws_FnExactUnderOf.j0]) | succ k_ => simp only [laws_FnExactUnderOf.j0, if_true] at H; exact (Option.some.inj H).symm) (by rw [hT]; simp)
  rw [if_neg c41] at H
  have c41b0 := decide_eq_false c41
  clear c41
  (first | rw [c41b0] | (simp only [i64_w, i32_w]; rw [c41b0]) | skip)
  replace H := Option.bind_eq_some_iff.mp H
  obtain ⟨t337, A420, H⟩ := H
  try dsimp only at H
  have A42 := mk0 A420
  clear A420
  have H' := mk0 H
  clear H
  go_wp2_with (first | (go_at_call 24; (with_reducible refine (laws_eqIntS.calls k _ _ t328 _ _ t321 t337 _ ?side1 ?side2 ?side3 ?side4 A42.out).mono ?_); (case side1 => exact z9_9); (case side2 => exact (Kd.R_reads' HO330.out).2.1); (case side3 => exact z9_10); (case side4 => exact (Kd.R_reads' HO323.out).2.1); rintro e w' ⟨rfl, ⟨nd, rfl⟩⟩))
  go_meet
  case rel => exact ⟨_, (!t337), rs0, H', ⟨(by first | omega | exact Nat.le_refl _)⟩, ⟨pkR HO323⟩, ⟨pkR HO330⟩, ⟨pkb BK316⟩, ⟨z9_3⟩⟩
 case rest =>
  clear HC18; try clear c1
  try clear c2
  try clear p2
  try clear c3
  try clear c4
  try clear c4b0
  try clear c7
  try clear c13
  try clear c16
  try clear c24
  try clear c29
  try clear c30
  try clear c31
  try clear c33
  try clear c34
  try clear c36
  try clear c37
  try clear c41
  try clear c41b0
  try clear hcz20_0
  try clear hcz22_0
  try clear hcz26_0
  try clear hcz31_0
  try clear hcz39_0
  try clear hcz6_0
  try clear hfz20_0
  try clear hfz22_0
  try clear hfz26_0
  try clear hfz31_0
  try clear hfz39_0
  try clear hfz6_0
  obtain ⟨kq, x46_17, rfl, HA, HJ17, HO_6, HO_8, BK316, HB⟩ := hcut
  cases kq with
  | zero => exact absurd HA.out (by simp [laws_FnExactUnderOf.j0])
  | succ kj17 =>
   have H := HA.out; clear HA
   simp only [laws_FnExactUnderOf.j0] at H
   by_cases c43 : x46_17 = true
   ·subst c43
    rw [if_pos rfl] at H
    obtain rfl := Option.some.inj H
    exact absurd hT Bool.false_ne_true
   replace c43 := Bool.eq_false_iff.mpr c43
   subst c43
   rw [if_neg (show ¬ (false = true) by decide)] at H
   replace H := Option.bind_eq_some_iff.mp H
   obtain ⟨⟨t338, t339⟩, A440, H⟩ := H
   try dsimp only at H
   have A44 := mk0 A440
   clear A440
   replace H := Option.bind_eq_some_iff.mp H
   obtain ⟨t340, A450, H⟩ := H
   try dsimp only at H
   have A45 := mk0 A450
   clear A450
   by_cases c46 : t340 < 0
   ·rw [if_pos c46] at H
    have c46b0 := decide_eq_true c46
    clear c46
    obtain rfl := Option.some.inj H
    exact absurd hT Bool.false_ne_true
   rw [if_neg c46] at H
   have c46b0 := decide_eq_false c46
   clear c46
   by_cases c47 : t340 = t338
   rotate_left
   ·rw [if_neg c47] at H
    have c47b0 : (t340 == t338) = false := beq_eq_false_iff_ne.mpr c47
    have c47b1 : (t340 != t338) = true := bne_iff_ne.mpr c47
    obtain rfl := Option.some.inj H
    exact absurd hT Bool.false_ne_true
   rw [if_pos c47] at H
   have c47b0 : (t340 == t338) = true := beq_iff_eq.mpr c47
   have c47b1 : (t340 != t338) = false := bne_eq_false_iff_eq.mpr c47
   clear c47
   replace H := Option.bind_eq_some_iff.mp H
   obtain ⟨t341, A480, H⟩ := H
   try dsimp only at H
   have A48 := mk0 A480
   clear A480
   replace H := Option.bind_eq_some_iff.mp H
   obtain ⟨t344, A490, H⟩ := H
   try dsimp only at H
   have A49 := mk0 A490
   clear A490
   replace H := Option.bind_eq_some_iff.mp H
   obtain ⟨t347, A500, H⟩ := H
   try dsimp only at H
   have A50 := mk0 A500
   clear A500
   by_cases c51 : t347 = true
   rotate_left
   ·replace c51 := Bool.eq_false_iff.mpr c51
    subst c51
    rw [if_neg (show ¬ (false = true) by decide)] at H
    obtain rfl := Option.some.inj H
    exact absurd hT Bool.false_ne_true
   subst c51
   rw [if_pos rfl] at H
   replace H := Option.bind_eq_some_iff.mp H
   obtain ⟨t348, A520, H⟩ := H
   try dsimp only at H
   have A52 := mk0 A520
   clear A520
   by_cases c53 : t348 < 0
   ·rw [if_pos c53] at H
    have c53b0 := decide_eq_true c53
    clear c53
    obtain rfl := Option.some.inj H
    exact absurd hT Bool.false_ne_true
   rw [if_neg c53] at H
   have c53b0 := decide_eq_false c53
   clear c53
   by_cases c54 : t348 = t338
   rotate_left
   ·rw [if_neg c54] at H
    have c54b0 : (t348 == t338) = false := beq_eq_false_iff_ne.mpr c54
    have c54b1 : (t348 != t338) = true := bne_iff_ne.mpr c54
    obtain rfl := Option.some.inj H
    exact absurd hT Bool.false_ne_true
   rw [if_pos c54] at H
   have c54b0 : (t348 == t338) = true := beq_iff_eq.mpr c54
   have c54b1 : (t348 != t338) = false := bne_eq_false_iff_eq.mpr c54
   clear c54
   obtain rfl := Option.some.inj H
   simp only [Option.some.injEq, Prod.mk.injEq] at H
   obtain ⟨rfl⟩ := H
   go_wp2_with (first | ((with_reducible refine gate_callee (f := 26) rfl ?_); refine goesL_ (some 49) rfl rfl Try.func26 (by kernel_rfl) rfl #[.slice Ao33 t328.length co33, .int .i64 1] rfl z9_1 ?_; (with_reducible refine (laws_markIntS.calls kj17 (fun k_ => some k_ = (.slice Ao33 t328.length co33 : Value).ownBlock) (.slice Ao33 t328.length co33) t328 1 t338 t339 w _ ?side1 ?side2 A44.out).mono ?_); (case side1 => repeat (first | (with_reducible first | exact HB.out | apply below_alloc | apply pw_below_drewN | apply below_drew1 | refine below_set ?_ GE316.out) | exact HB.out)); (case side2 => exact Kd.R_tight rfl HO_8.out); rintro e w55 ⟨rfl, hy0, hb, hkp⟩; refine ⟨_, rfl, ?_⟩; have n0_ := mk0 (Kd.R_mono (ok' := fun k_ => some k_ ≠ (.slice Ao33 t328.length co33 : Value).ownBlock) (Kd.R_keptB (HO_6.out) hkp (fun k_ hk_ hs_ => (hk_) hs_)) (fun k_ hk_ => hk_.1)); have n1_ := mk0 (Kd.R_reok rfl hy0 (fun k_ e_ => HO_8.out.1 k_ e_)); have n2_ := mk0 (blk_kept (pkb BK316) hkp (fun hs_ => (fun e_ => (Kd.R_ne HO_8.out BK316.out (by decide)) e_) hs_)); have n3_ := mk0 (hb); clear HO_6 HO_8 BK316 HB; have HO_6 := n0_; have HO_8 := n1_; have BK316 := n2_; have HB := n3_; clear n0_ n1_ n2_ n3_; (try clear hb); (try clear hkp); (try clear hy0)) | ((with_reducible refine gate_callee (f := 35) rfl ?_); refine goesL_ (some 52) rfl rfl Try.func35 (by kernel_rfl) rfl #[.slice Ao33 t339.length co33, .int .i64 1] rfl z9_8 ?_; (with_reducible refine (laws_heldIntS.calls kj17 _ _ t339 1 t340 _ ?side1 ?side2 A45.out).mono ?_); (case side1 => exact z9_11); (case side2 => rw [show t339.length = t328.length from (Kd.R_reads' HO_8.out).1.symm]; exact (Kd.R_reads' HO_8.out).2.1); rintro e w' ⟨rfl, ⟨nd, rfl⟩⟩; refine ⟨_, rfl, ?_⟩; obtain ⟨_, _⟩ := be_1 BK316.out) | ((with_reducible refine gate_callee (f := 31) rfl ?_); refine goesL_ (some 59) rfl rfl Try.func31 (by kernel_rfl) rfl #[.agg #[.slice A0_0 l0_0.length c0_0]] rfl z9_1 ?_; (with_reducible refine (laws_toScene.calls kj17 _ _ l0_0 t341 _ ?side1 ?side2 A48.out).mono ?_); (case side1 => repeat (first | exact (Kd.C_below HR0_0.out z9_0) | (with_reducible refine Kd.C_alloc ?_ _) | (with_reducible refine Kd.C_drewN ?_ _) | (with_reducible refine Kd.C_drew ?_))); (case side2 => exact HC0_0.out); rintro e w57 ⟨v342, rfl, ho0, hb⟩; refine ⟨_, rfl, ?_⟩; have n0_ := mk0 (Kd.R_below (pkR HO_6) hb); have n1_ := mk0 (Kd.R_below (pkR HO_8) hb); have n2_ := mk0 (Kd.S_lower (Kd.S_new' (Kd.S_new' ho0 (Kd.R_lt (pkR HO_6))) (Kd.R_lt (pkR HO_8))) (below_size z9_0)); have n3_ := mk0 (blk_belowB BK316 (pkb BK316) hb); have n4_ := mk0 (below_step z9_0 hb); clear HO_6 HO_8 BK316 HB; have HO_6 := n0_; have HO_8 := n1_; have HO343 := n2_; have BK316 := n3_; have HB := n4_; clear n0_ n1_ n2_ n3_ n4_; (try clear hb); (try clear ho0); obtain ⟨Ao58, co58, eo58⟩ := Kd.S_slice HO343.out; subst eo58) | ((with_reducible refine gate_callee (f := 37) rfl ?_); refine goesL_ (some 61) rfl rfl Try.func37 (by kernel_rfl) rfl #[.agg #[.slice Ao58 t341.length co58], .int .i64 a1] rfl z9_1 ?_; (with_reducible refine (impl_UnderOf.calls kj17 _ _ t341 a1 t344 _ ?side1 ?side2 A49.out).mono ?_); (case side1 => repeat (first | exact (Kd.S_reads' HO343.out).2.2 | (with_reducible refine Kd.C_alloc ?_ _) | (with_reducible refine Kd.C_drewN ?_ _) | (with_reducible refine Kd.C_drew ?_))); (case side2 => exact (Kd.S_reads' HO343.out).2.1); rintro e w59 ⟨v345, rfl, ho0, hb⟩; refine ⟨_, rfl, ?_⟩; have n0_ := mk0 (Kd.R_elder' (pkR HO_6) (Kd.R_base ho0) hb); have n1_ := mk0 (Kd.R_elder' (pkR HO_8) (Kd.R_base ho0) hb); have n2_ := mk0 (Kd.S_elder' (pkS HO343) (Kd.R_base ho0) hb); have n3_ := mk0 (Kd.R_lower (Kd.R_new' (Kd.R_new' ho0 (Kd.R_lt (pkR HO_6))) (Kd.R_lt (pkR HO_8))) (below_size z9_0)); have n4_ := mk0 (blk_belowB BK316 (pkb BK316) hb); have n5_ := mk0 (below_step z9_0 hb); clear HO_6 HO_8 HO343 BK316 HB; have HO_6 := n0_; have HO_8 := n1_; have HO343 := n2_; have HO346 := n3_; have BK316 := n4_; have HB := n5_; clear n0_ n1_ n2_ n3_ n4_ n5_; (try clear hb); (try clear ho0); obtain ⟨Ao60, co60, eo60⟩ := Kd.R_slice HO346.out; subst eo60) | ((with_reducible refine gate_callee (f := 24) rfl ?_); refine goesL_ (some 64) rfl rfl Try.func24 (by kernel_rfl) rfl #[.slice Ao60 t344.length co60, .slice Ao34 t321.length co34] rfl z9_1 ?_; (with_reducible refine (laws_eqIntS.calls kj17 _ _ t344 _ _ t321 true _ ?side1 ?side2 ?side3 ?side4 A50.out).mono ?_); (case side1 => repeat (first | exact (Kd.R_reads' HO346.out).2.2 | (with_reducible refine Kd.C_alloc ?_ _) | (with_reducible refine Kd.C_drewN ?_ _) | (with_reducible refine Kd.C_drew ?_))); (case side2 => exact (Kd.R_reads' HO346.out).2.1); (case side3 => repeat (first | exact (Kd.R_reads' HO_6.out).2.2 | (with_reducible refine Kd.C_alloc ?_ _) | (with_reducible refine Kd.C_drewN ?_ _) | (with_reducible refine Kd.C_drew ?_))); (case side4 => exact (Kd.R_reads' HO_6.out).2.1); rintro e w' ⟨rfl, ⟨nd, rfl⟩⟩; refine ⟨_, rfl, ?_⟩) | ((with_reducible refine gate_callee (f := 35) rfl ?_); refine goesL_ (some 68) rfl rfl Try.func35 (by kernel_rfl) rfl #[.slice Ao33 t339.length co33, .int .i64 1] rfl z9_8 ?_; (with_reducible refine (laws_heldIntS.calls kj17 _ _ t339 1 t348 _ ?side1 ?side2 A52.out).mono ?_); (case side1 => exact z9_11); (case side2 => rw [show t339.length = t328.length from (Kd.R_reads' HO_8.out).1.symm]; exact (Kd.R_reads' HO_8.out).2.1); rintro e w' ⟨rfl, ⟨nd, rfl⟩⟩; refine ⟨_, rfl, ?_⟩))
   go_ret
   exact ⟨(by first | rfl | (simp [errW_none, errW_some] <;> rfl) | (simp [*, errW_none, errW_some] <;> rfl)), z9_0⟩

end Go.Proofs.Ytjfienkbcacijaa.MFnExactUnderOf
