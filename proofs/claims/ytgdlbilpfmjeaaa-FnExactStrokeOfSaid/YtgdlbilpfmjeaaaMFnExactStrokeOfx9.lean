/- Functions of the program as Lean functions, and the proof that a call comes to just these: machine text of this session's own program (myprint.py). -/
import Derived.Test.YtgdlbilpfmjeaaaMFnExactStrokeOfx0
import Derived.Test.YtgdlbilpfmjeaaaMFnExactStrokeOfx4
import Derived.Test.YtgdlbilpfmjeaaaMFnExactStrokeOfx6
import Derived.Test.YtgdlbilpfmjeaaaMFnExactStrokeOfx7
import Derived.Test.YtgdlbilpfmjeaaaMFnExactStrokeOfx8
namespace Go.Proofs.Ytgdlbilpfmjeaaa.MFnExactStrokeOf
open Go.RowKit Go.Proofs.YtgdlbilpfmjeaaaW.PrintWords Go.Proofs.YtgdlbilpfmjeaaaW.PrintLast Go.Proofs.YtgdlbilpfmjeaaaW.PrintMore
attribute [local go_sem] max2_int min2_int max_two min_two max_three min_three max_four min_four   -- for this text's walks alone
set_option linter.unusedVariables false
set_option linter.unusedSimpArgs false

/-! ### laws_FnExactStrokeOf: function 6 -/
def laws_FnExactStrokeOf.j0 : Nat → List (List (S157)) → Int → List (List (S32)) → List (List (S32)) → Bool → Option (Bool)
  | 0, _, _, _, _, _ => none
  | k + 1, x0, x1, x6, x8, x46 => if x46 = true then (some false) else ((laws_markPointSS.f k x8 1).bind fun bt299 => ((laws_heldPointSS.f k bt299.2 1).bind fun t301 => (if t301 < 0 then (some false) else (if t301 = bt299.1 then ((laws_toPointSS.f k x0).bind fun t302 => ((impl_StrokeOf.f k t302 x1).bind fun t305 => ((laws_eqPointSS.f k t305 x6).bind fun t308 => (if t308 = true then ((laws_heldPointSS.f k bt299.2 1).bind fun t309 => (if t309 < 0 then (some false) else (if t309 = bt299.1 then (some true) else (some false)))) else (some false))))) else (some false)))))
def laws_FnExactStrokeOf.f (k : Nat) (l0 : List (List (S157))) (a1 : Int) : Option (Bool) := (laws_szPointSS.f k l0 1048576).bind fun t278 => (if t278 < 0 then (some true) else ((laws_toPointSS.f k l0).bind fun t279 => ((spec_StrokeOf.f k t279 a1).bind fun t282 => ((laws_toPointSS.f k l0).bind fun t285 => ((impl_StrokeOf.f k t285 a1).bind fun t288 => ((laws_eqPointSS.f k t288 t282).bind fun t291 => (if t291 = true then ((laws_toPointSS.f k l0).bind fun t292 => ((laws_eqPointSS.f k t285 t292).bind fun t295 => (if t295 = true then ((laws_markPointSS.f k t285 1).bind fun bt296 => (if bt296.1 < 0 then (laws_FnExactStrokeOf.j0 k l0 a1 t282 t288 true) else ((laws_eqPointSS.f k t288 t282).bind fun t298 => (laws_FnExactStrokeOf.j0 k l0 a1 t282 t288 (!t298))))) else (some false)))) else (some false))))))))
theorem laws_FnExactStrokeOf.mono_l : ∀ k, (∀ y0 y1 y2 y3 y4, LeO (laws_FnExactStrokeOf.j0 k y0 y1 y2 y3 y4) (laws_FnExactStrokeOf.j0 (k + 1) y0 y1 y2 y3 y4))
  | 0 => fun _ _ _ _ _ r h => by simp [laws_FnExactStrokeOf.j0] at h
  | k + 1 => by
    have ih0 := laws_FnExactStrokeOf.mono_l k
    · intro y0 y1 y2 y3 y4
      unfold laws_FnExactStrokeOf.j0
      repeat' first
      | (with_reducible exact ih0 _ _ _ _ _)
      | (with_reducible exact impl_StrokeOf.mono _ _ _)
      | (with_reducible exact laws_eqPointSS.mono _ _ _)
      | (with_reducible exact laws_heldPointSS.mono _ _ _)
      | (with_reducible exact laws_markPointSS.mono _ _ _)
      | (with_reducible exact laws_szPointSS.mono _ _ _)
      | (with_reducible exact laws_toPointSS.mono _ _)
      | (with_reducible exact spec_StrokeOf.mono _ _ _)
      | (with_reducible exact LeO.refl _)
      | (with_reducible exact LeO.none _)
      | (with_reducible refine LeO.ite ?_ ?_)
      | (with_reducible refine LeO.bind ?_ (fun _ => ?_))
      | exact ih0 _ _ _ _ _
      | exact impl_StrokeOf.mono _ _ _
      | exact laws_eqPointSS.mono _ _ _
      | exact laws_heldPointSS.mono _ _ _
      | exact laws_markPointSS.mono _ _ _
      | exact laws_szPointSS.mono _ _ _
      | exact laws_toPointSS.mono _ _
      | exact spec_StrokeOf.mono _ _ _
      | exact LeO.none _
      | refine LeO.ite ?_ ?_
      | refine LeO.bind ?_ (fun _ => ?_)
theorem laws_FnExactStrokeOf.mono : ∀ a0 a1 k, LeO (laws_FnExactStrokeOf.f k a0 a1) (laws_FnExactStrokeOf.f (k + 1) a0 a1) := by
  intro a0 a1 k
  have ih0 := laws_FnExactStrokeOf.mono_l k
  unfold laws_FnExactStrokeOf.f
  repeat' first
      | (with_reducible exact ih0 _ _ _ _ _)
      | (with_reducible exact impl_StrokeOf.mono _ _ _)
      | (with_reducible exact laws_eqPointSS.mono _ _ _)
      | (with_reducible exact laws_heldPointSS.mono _ _ _)
      | (with_reducible exact laws_markPointSS.mono _ _ _)
      | (with_reducible exact laws_szPointSS.mono _ _ _)
      | (with_reducible exact laws_toPointSS.mono _ _)
      | (with_reducible exact spec_StrokeOf.mono _ _ _)
      | (with_reducible exact LeO.refl _)
      | (with_reducible exact LeO.none _)
      | (with_reducible refine LeO.ite ?_ ?_)
      | (with_reducible refine LeO.bind ?_ (fun _ => ?_))
      | exact ih0 _ _ _ _ _
      | exact impl_StrokeOf.mono _ _ _
      | exact laws_eqPointSS.mono _ _ _
      | exact laws_heldPointSS.mono _ _ _
      | exact laws_markPointSS.mono _ _ _
      | exact laws_szPointSS.mono _ _ _
      | exact laws_toPointSS.mono _ _
      | exact spec_StrokeOf.mono _ _ _
      | exact LeO.none _
      | refine LeO.ite ?_ ?_
      | refine LeO.bind ?_ (fun _ => ?_)
set_option maxHeartbeats 8000000 in
set_option maxRecDepth 100000 in
theorem laws_FnExactStrokeOf.calls (k : Nat) (A0 : Option Addr) (c0 : Nat) (l0 : List (List (S157))) (a1 : Int) (r : Bool) (w : World) (hr0 : Kd.C (Kd.slice 157 k157) w A0 l0.length l0) (hc0 : l0.length ≤ c0) (hT : r = true) (h : laws_FnExactStrokeOf.f k l0 a1 = some r) :
    Calls Try.prog 6 #[.slice A0 l0.length c0, .int .i64 a1] w fun e w' => e = .returned (.bool r) ∧ Below w.heap.size w w' := by
  have HR0 := Aside0.mk hr0
  have HC0 := Aside0.mk hc0
  clear hr0 hc0
  have HB := Aside0.mk (Below.refl w.heap.size w)
  have H : ((laws_szPointSS.f k l0 1048576).bind fun t278 => (if t278 < 0 then (some true) else ((laws_toPointSS.f k l0).bind fun t279 => ((spec_StrokeOf.f k t279 a1).bind fun t282 => ((laws_toPointSS.f k l0).bind fun t285 => ((impl_StrokeOf.f k t285 a1).bind fun t288 => ((laws_eqPointSS.f k t288 t282).bind fun t291 => (if t291 = true then ((laws_toPointSS.f k l0).bind fun t292 => ((laws_eqPointSS.f k t285 t292).bind fun t295 => (if t295 = true then ((laws_markPointSS.f k t285 1).bind fun bt296 => (if bt296.1 < 0 then (laws_FnExactStrokeOf.j0 k l0 a1 t282 t288 true) else ((laws_eqPointSS.f k t288 t282).bind fun t298 => (laws_FnExactStrokeOf.j0 k l0 a1 t282 t288 (!t298))))) else (some false)))) else (some false))))))))) = some r := h
  clear h
  replace H := Option.bind_eq_some_iff.mp H
  obtain ⟨t278, A30, H⟩ := H
  replace H : (if t278 < 0 then (some true) else ((laws_toPointSS.f k l0).bind fun t279 => ((spec_StrokeOf.f k t279 a1).bind fun t282 => ((laws_toPointSS.f k l0).bind fun t285 => ((impl_StrokeOf.f k t285 a1).bind fun t288 => ((laws_eqPointSS.f k t288 t282).bind fun t291 => (if t291 = true then ((laws_toPointSS.f k l0).bind fun t292 => ((laws_eqPointSS.f k t285 t292).bind fun t295 => (if t295 = true then ((laws_markPointSS.f k t285 1).bind fun bt296 => (if bt296.1 < 0 then (laws_FnExactStrokeOf.j0 k l0 a1 t282 t288 true) else ((laws_eqPointSS.f k t288 t282).bind fun t298 => (laws_FnExactStrokeOf.j0 k l0 a1 t282 t288 (!t298))))) else (some false)))) else (some false)))))))) = some r := H
  have A3 := Aside0.mk A30
  clear A30
  by_cases c4 : t278 < 0
  · rw [if_pos c4] at H
    have c4b0 : decide (t278 < 0) = true := decide_eq_true c4
    clear c4
    obtain rfl := Option.some.inj H
    simp only [Option.some.injEq, Prod.mk.injEq] at H
    obtain ⟨rfl⟩ := H
    go_enter Try.func6, Try.ntmps6
    go_wp2_with (first | ((with_reducible refine gate_callee (f := 41) rfl ?_); refine goesL_ (some 15) rfl rfl Try.func41 (by kernel_rfl) rfl #[.slice A0 l0.length c0, .int .i64 1048576] rfl (by (try simp only [List.map_toArray, List.map_cons, List.map_nil]); first | done | rfl | (simp only [List.length_drop, List.length_take]; rfl)) ?_; (with_reducible refine (laws_szPointSS.calls k _ _ l0 1048576 t278 _ ?side1 ?side2 A3.out).mono ?_); (case side1 => repeat (first | exact HR0.out | (with_reducible refine Kd.C_alloc ?_ _) | (with_reducible refine Kd.C_drewN ?_ _) | (with_reducible refine Kd.C_drew ?_))); (case side2 => exact HC0.out); rintro e w' ⟨rfl, ⟨nd, rfl⟩⟩; refine ⟨_, rfl, ?_⟩))
    go_ret
    exact ⟨by first | rfl | (simp [errW_none, errW_some] <;> rfl) | (simp [*, errW_none, errW_some] <;> rfl), by repeat (first | (with_reducible first | exact HB.out | apply below_alloc | apply pw_below_drewN | apply below_drew1) | exact HB.out)⟩
  · rw [if_neg c4] at H
    have c4b0 : decide (t278 < 0) = false := decide_eq_false c4
    clear c4
    replace H := Option.bind_eq_some_iff.mp H
    obtain ⟨t279, A50, H⟩ := H
    replace H : ((spec_StrokeOf.f k t279 a1).bind fun t282 => ((laws_toPointSS.f k l0).bind fun t285 => ((impl_StrokeOf.f k t285 a1).bind fun t288 => ((laws_eqPointSS.f k t288 t282).bind fun t291 => (if t291 = true then ((laws_toPointSS.f k l0).bind fun t292 => ((laws_eqPointSS.f k t285 t292).bind fun t295 => (if t295 = true then ((laws_markPointSS.f k t285 1).bind fun bt296 => (if bt296.1 < 0 then (laws_FnExactStrokeOf.j0 k l0 a1 t282 t288 true) else ((laws_eqPointSS.f k t288 t282).bind fun t298 => (laws_FnExactStrokeOf.j0 k l0 a1 t282 t288 (!t298))))) else (some false)))) else (some false)))))) = some r := H
    have A5 := Aside0.mk A50
    clear A50
    replace H := Option.bind_eq_some_iff.mp H
    obtain ⟨t282, A60, H⟩ := H
    replace H : ((laws_toPointSS.f k l0).bind fun t285 => ((impl_StrokeOf.f k t285 a1).bind fun t288 => ((laws_eqPointSS.f k t288 t282).bind fun t291 => (if t291 = true then ((laws_toPointSS.f k l0).bind fun t292 => ((laws_eqPointSS.f k t285 t292).bind fun t295 => (if t295 = true then ((laws_markPointSS.f k t285 1).bind fun bt296 => (if bt296.1 < 0 then (laws_FnExactStrokeOf.j0 k l0 a1 t282 t288 true) else ((laws_eqPointSS.f k t288 t282).bind fun t298 => (laws_FnExactStrokeOf.j0 k l0 a1 t282 t288 (!t298))))) else (some false)))) else (some false))))) = some r := H
    have A6 := Aside0.mk A60
    clear A60
    replace H := Option.bind_eq_some_iff.mp H
    obtain ⟨t285, A70, H⟩ := H
    replace H : ((impl_StrokeOf.f k t285 a1).bind fun t288 => ((laws_eqPointSS.f k t288 t282).bind fun t291 => (if t291 = true then ((laws_toPointSS.f k l0).bind fun t292 => ((laws_eqPointSS.f k t285 t292).bind fun t295 => (if t295 = true then ((laws_markPointSS.f k t285 1).bind fun bt296 => (if bt296.1 < 0 then (laws_FnExactStrokeOf.j0 k l0 a1 t282 t288 true) else ((laws_eqPointSS.f k t288 t282).bind fun t298 => (laws_FnExactStrokeOf.j0 k l0 a1 t282 t288 (!t298))))) else (some false)))) else (some false)))) = some r := H
    have A7 := Aside0.mk A70
    clear A70
    replace H := Option.bind_eq_some_iff.mp H
    obtain ⟨t288, A80, H⟩ := H
    replace H : ((laws_eqPointSS.f k t288 t282).bind fun t291 => (if t291 = true then ((laws_toPointSS.f k l0).bind fun t292 => ((laws_eqPointSS.f k t285 t292).bind fun t295 => (if t295 = true then ((laws_markPointSS.f k t285 1).bind fun bt296 => (if bt296.1 < 0 then (laws_FnExactStrokeOf.j0 k l0 a1 t282 t288 true) else ((laws_eqPointSS.f k t288 t282).bind fun t298 => (laws_FnExactStrokeOf.j0 k l0 a1 t282 t288 (!t298))))) else (some false)))) else (some false))) = some r := H
    have A8 := Aside0.mk A80
    clear A80
    replace H := Option.bind_eq_some_iff.mp H
    obtain ⟨t291, A90, H⟩ := H
    replace H : (if t291 = true then ((laws_toPointSS.f k l0).bind fun t292 => ((laws_eqPointSS.f k t285 t292).bind fun t295 => (if t295 = true then ((laws_markPointSS.f k t285 1).bind fun bt296 => (if bt296.1 < 0 then (laws_FnExactStrokeOf.j0 k l0 a1 t282 t288 true) else ((laws_eqPointSS.f k t288 t282).bind fun t298 => (laws_FnExactStrokeOf.j0 k l0 a1 t282 t288 (!t298))))) else (some false)))) else (some false)) = some r := H
    have A9 := Aside0.mk A90
    clear A90
    by_cases c10 : t291 = true
    · subst c10
      have H1 : ((laws_toPointSS.f k l0).bind fun t292 => ((laws_eqPointSS.f k t285 t292).bind fun t295 => (if t295 = true then ((laws_markPointSS.f k t285 1).bind fun bt296 => (if bt296.1 < 0 then (laws_FnExactStrokeOf.j0 k l0 a1 t282 t288 true) else ((laws_eqPointSS.f k t288 t282).bind fun t298 => (laws_FnExactStrokeOf.j0 k l0 a1 t282 t288 (!t298))))) else (some false)))) = some r := by rw [if_pos rfl] at H; exact H
      clear H
      have H := H1
      clear H1
      replace H := Option.bind_eq_some_iff.mp H
      obtain ⟨t292, A110, H⟩ := H
      replace H : ((laws_eqPointSS.f k t285 t292).bind fun t295 => (if t295 = true then ((laws_markPointSS.f k t285 1).bind fun bt296 => (if bt296.1 < 0 then (laws_FnExactStrokeOf.j0 k l0 a1 t282 t288 true) else ((laws_eqPointSS.f k t288 t282).bind fun t298 => (laws_FnExactStrokeOf.j0 k l0 a1 t282 t288 (!t298))))) else (some false))) = some r := H
      have A11 := Aside0.mk A110
      clear A110
      replace H := Option.bind_eq_some_iff.mp H
      obtain ⟨t295, A120, H⟩ := H
      replace H : (if t295 = true then ((laws_markPointSS.f k t285 1).bind fun bt296 => (if bt296.1 < 0 then (laws_FnExactStrokeOf.j0 k l0 a1 t282 t288 true) else ((laws_eqPointSS.f k t288 t282).bind fun t298 => (laws_FnExactStrokeOf.j0 k l0 a1 t282 t288 (!t298))))) else (some false)) = some r := H
      have A12 := Aside0.mk A120
      clear A120
      by_cases c13 : t295 = true
      · subst c13
        have H1 : ((laws_markPointSS.f k t285 1).bind fun bt296 => (if bt296.1 < 0 then (laws_FnExactStrokeOf.j0 k l0 a1 t282 t288 true) else ((laws_eqPointSS.f k t288 t282).bind fun t298 => (laws_FnExactStrokeOf.j0 k l0 a1 t282 t288 (!t298))))) = some r := by rw [if_pos rfl] at H; exact H
        clear H
        have H := H1
        clear H1
        replace H := Option.bind_eq_some_iff.mp H
        obtain ⟨⟨t296, t297⟩, A140, H⟩ := H
        replace H : (if t296 < 0 then (laws_FnExactStrokeOf.j0 k l0 a1 t282 t288 true) else ((laws_eqPointSS.f k t288 t282).bind fun t298 => (laws_FnExactStrokeOf.j0 k l0 a1 t282 t288 (!t298)))) = some r := H
        have A14 := Aside0.mk A140
        clear A140
        have HC15 := Aside0.mk H
        clear H
        go_enter Try.func6, Try.ntmps6
        go_upto_region 14 with (first | ((with_reducible refine gate_callee (f := 41) rfl ?_); refine goesL_ (some 15) rfl rfl Try.func41 (by kernel_rfl) rfl #[.slice A0 l0.length c0, .int .i64 1048576] rfl (by (try simp only [List.map_toArray, List.map_cons, List.map_nil]); first | done | rfl | (simp only [List.length_drop, List.length_take]; rfl)) ?_; (with_reducible refine (laws_szPointSS.calls k _ _ l0 1048576 t278 _ ?side1 ?side2 A3.out).mono ?_); (case side1 => repeat (first | exact HR0.out | (with_reducible refine Kd.C_alloc ?_ _) | (with_reducible refine Kd.C_drewN ?_ _) | (with_reducible refine Kd.C_drew ?_))); (case side2 => exact HC0.out); rintro e w' ⟨rfl, ⟨nd, rfl⟩⟩; refine ⟨_, rfl, ?_⟩) | ((with_reducible refine gate_callee (f := 42) rfl ?_); refine goesL_ (some 19) rfl rfl Try.func42 (by kernel_rfl) rfl #[.slice A0 l0.length c0] rfl (by (try simp only [List.map_toArray, List.map_cons, List.map_nil]); first | done | rfl | (simp only [List.length_drop, List.length_take]; rfl)) ?_; (with_reducible refine (laws_toPointSS.calls k _ _ l0 t279 _ ?side1 ?side2 A5.out).mono ?_); (case side1 => repeat (first | exact HR0.out | (with_reducible refine Kd.C_alloc ?_ _) | (with_reducible refine Kd.C_drewN ?_ _) | (with_reducible refine Kd.C_drew ?_))); (case side2 => exact HC0.out); rintro e w16 ⟨v280, rfl, ho0, hb⟩; refine ⟨_, rfl, ?_⟩; have n0_ := Aside0.mk (Kd.S_lower ho0 (below_size (by repeat (first | (with_reducible first | exact HB.out | apply below_alloc | apply pw_below_drewN | apply below_drew1) | exact HB.out)))); have n1_ := Aside0.mk (below_step (by repeat (first | (with_reducible first | exact HB.out | apply below_alloc | apply pw_below_drewN | apply below_drew1) | exact HB.out)) hb); clear HB; have HO281 := n0_; have HB := n1_; clear n0_ n1_; (try clear hb); (try clear hb2); (try clear hk); (try clear hi); (try clear ho0); obtain ⟨Ao17, co17, eo17⟩ := Kd.S_slice HO281.out; subst eo17) | ((with_reducible refine gate_callee (f := 21) rfl ?_); refine goesL_ (some 21) rfl rfl Try.func21 (by kernel_rfl) rfl #[.slice Ao17 t279.length co17, .int .i64 a1] rfl (by (try simp only [List.map_toArray, List.map_cons, List.map_nil]); first | done | rfl | (simp only [List.length_drop, List.length_take]; rfl)) ?_; (with_reducible refine (spec_StrokeOf.calls k _ _ t279 a1 t282 _ ?side1 ?side2 A6.out).mono ?_); (case side1 => repeat (first | exact (Kd.S_reads' HO281.out).2.2 | (with_reducible refine Kd.C_alloc ?_ _) | (with_reducible refine Kd.C_drewN ?_ _) | (with_reducible refine Kd.C_drew ?_))); (case side2 => exact (Kd.S_reads' HO281.out).2.1); rintro e w18 ⟨v283, rfl, ho0, hb⟩; refine ⟨_, rfl, ?_⟩; have n0_ := Aside0.mk (Kd.S_elder' (by (with_reducible repeat (first | apply Kd.S_alloc | apply Kd.S_drewN | apply Kd.S_drew)); exact HO281.out) (Kd.S_base ho0) hb); have n1_ := Aside0.mk (Kd.S_lower (Kd.S_new' ho0 (Kd.S_lt (by (with_reducible repeat (first | apply Kd.S_alloc | apply Kd.S_drewN | apply Kd.S_drew)); exact HO281.out))) (below_size (by repeat (first | (with_reducible first | exact HB.out | apply below_alloc | apply pw_below_drewN | apply below_drew1) | exact HB.out)))); have n2_ := Aside0.mk (below_step (by repeat (first | (with_reducible first | exact HB.out | apply below_alloc | apply pw_below_drewN | apply below_drew1) | exact HB.out)) hb); clear HO281; clear HB; have HO281 := n0_; have HO284 := n1_; have HB := n2_; clear n0_ n1_ n2_; (try clear hb); (try clear hb2); (try clear hk); (try clear hi); (try clear ho0)) | ((with_reducible refine gate_callee (f := 42) rfl ?_); refine goesL_ (some 23) rfl rfl Try.func42 (by kernel_rfl) rfl #[.slice A0 l0.length c0] rfl (by (try simp only [List.map_toArray, List.map_cons, List.map_nil]); first | done | rfl | (simp only [List.length_drop, List.length_take]; rfl)) ?_; (with_reducible refine (laws_toPointSS.calls k _ _ l0 t285 _ ?side1 ?side2 A7.out).mono ?_); (case side1 => repeat (first | exact (Kd.C_below HR0.out HB.out) | (with_reducible refine Kd.C_alloc ?_ _) | (with_reducible refine Kd.C_drewN ?_ _) | (with_reducible refine Kd.C_drew ?_))); (case side2 => exact HC0.out); rintro e w19 ⟨v286, rfl, ho0, hb⟩; refine ⟨_, rfl, ?_⟩; have n0_ := Aside0.mk (Kd.S_elder' (by (with_reducible repeat (first | apply Kd.S_alloc | apply Kd.S_drewN | apply Kd.S_drew)); exact HO281.out) (Kd.S_base ho0) hb); obtain ⟨n1x_, hn1_, n1_, n2_⟩ := sepw_ (below_size (by repeat (first | (with_reducible first | exact HB.out | apply below_alloc | apply pw_below_drewN | apply below_drew1) | exact HB.out))) (by (with_reducible repeat (first | apply Kd.S_alloc | apply Kd.S_drewN | apply Kd.S_drew)); exact HO284.out) ho0 hb; have n3_ := Aside0.mk (below_step (by repeat (first | (with_reducible first | exact HB.out | apply below_alloc | apply pw_below_drewN | apply below_drew1) | exact HB.out)) hb); clear HO281; clear HO284; clear HB; have HO281 := n0_; have HO284 := n1_; have HO287 := n2_; have HB := n3_; clear n0_ n1_ n2_ n3_; (try clear hb); (try clear hb2); (try clear hk); (try clear hi); (try clear ho0); obtain ⟨Ao20, co20, eo20⟩ := Kd.S_slice HO287.out; subst eo20) | ((with_reducible refine gate_callee (f := 18) rfl ?_); refine goesL_ (some 26) rfl rfl Try.func18 (by kernel_rfl) rfl #[.slice Ao20 t285.length co20, .int .i64 a1] rfl (by (try simp only [List.map_toArray, List.map_cons, List.map_nil]); first | done | rfl | (simp only [List.length_drop, List.length_take]; rfl)) ?_; (with_reducible refine (impl_StrokeOf.calls k _ _ t285 a1 t288 _ ?side1 ?side2 A8.out).mono ?_); (case side1 => repeat (first | exact (Kd.S_reads' HO287.out).2.2 | (with_reducible refine Kd.C_alloc ?_ _) | (with_reducible refine Kd.C_drewN ?_ _) | (with_reducible refine Kd.C_drew ?_))); (case side2 => exact (Kd.S_reads' HO287.out).2.1); rintro e w21 ⟨v289, rfl, ho0, hb⟩; refine ⟨_, rfl, ?_⟩; have n0_ := Aside0.mk (Kd.S_elder' (by (with_reducible repeat (first | apply Kd.S_alloc | apply Kd.S_drewN | apply Kd.S_drew)); exact HO281.out) (Kd.S_base ho0) hb); have n1_ := Aside0.mk (Kd.S_below (by (with_reducible repeat (first | apply Kd.S_alloc | apply Kd.S_drewN | apply Kd.S_drew)); exact HO284.out) hb); obtain ⟨n2x_, hn2_, n2_, n3_⟩ := sepx_ (below_size (by repeat (first | (with_reducible first | exact HB.out | apply below_alloc | apply pw_below_drewN | apply below_drew1) | exact HB.out))) (by exact hn1_) (by (with_reducible repeat (first | apply Kd.S_alloc | apply Kd.S_drewN | apply Kd.S_drew)); exact HO287.out) ho0 hb; have n4_ := Aside0.mk (below_step (by repeat (first | (with_reducible first | exact HB.out | apply below_alloc | apply pw_below_drewN | apply below_drew1) | exact HB.out)) hb); clear HO281; clear HO284; clear HO287; clear HB; have HO281 := n0_; have HO284 := n1_; have HO287 := n2_; have HO290 := n3_; have HB := n4_; clear n0_ n1_ n2_ n3_ n4_; (try clear hb); (try clear hb2); (try clear hk); (try clear hi); (try clear ho0); obtain ⟨Ao22, co22, eo22⟩ := Kd.S_slice HO290.out; subst eo22; obtain ⟨Ao23, co23, eo23⟩ := Kd.S_slice HO284.out; subst eo23) | ((with_reducible refine gate_callee (f := 43) rfl ?_); refine goesL_ (some 29) rfl rfl Try.func43 (by kernel_rfl) rfl #[.slice Ao22 t288.length co22, .slice Ao23 t282.length co23] rfl (by (try simp only [List.map_toArray, List.map_cons, List.map_nil]); first | done | rfl | (simp only [List.length_drop, List.length_take]; rfl)) ?_; (with_reducible refine (laws_eqPointSS.calls k _ _ t288 _ _ t282 true _ ?side1 ?side2 ?side3 ?side4 A9.out).mono ?_); (case side1 => repeat (first | exact (Kd.S_reads' HO290.out).2.2 | (with_reducible refine Kd.C_alloc ?_ _) | (with_reducible refine Kd.C_drewN ?_ _) | (with_reducible refine Kd.C_drew ?_))); (case side2 => exact (Kd.S_reads' HO290.out).2.1); (case side3 => repeat (first | exact (Kd.S_reads' HO284.out).2.2 | (with_reducible refine Kd.C_alloc ?_ _) | (with_reducible refine Kd.C_drewN ?_ _) | (with_reducible refine Kd.C_drew ?_))); (case side4 => exact (Kd.S_reads' HO284.out).2.1); rintro e w24 ⟨rfl, hb⟩; refine ⟨_, rfl, ?_⟩; have n0_ := Aside0.mk (Kd.S_below (by (with_reducible repeat (first | apply Kd.S_alloc | apply Kd.S_drewN | apply Kd.S_drew)); exact HO281.out) hb); have n1_ := Aside0.mk (Kd.S_below (by (with_reducible repeat (first | apply Kd.S_alloc | apply Kd.S_drewN | apply Kd.S_drew)); exact HO284.out) hb); have n2_ := Aside0.mk (Kd.S_below (by (with_reducible repeat (first | apply Kd.S_alloc | apply Kd.S_drewN | apply Kd.S_drew)); exact HO287.out) hb); have n3_ := Aside0.mk (Kd.S_below (by (with_reducible repeat (first | apply Kd.S_alloc | apply Kd.S_drewN | apply Kd.S_drew)); exact HO290.out) hb); have n4_ := Aside0.mk (below_step (by repeat (first | (with_reducible first | exact HB.out | apply below_alloc | apply pw_below_drewN | apply below_drew1) | exact HB.out)) hb); clear HO281; clear HO284; clear HO287; clear HO290; clear HB; have HO281 := n0_; have HO284 := n1_; have HO287 := n2_; have HO290 := n3_; have HB := n4_; clear n0_ n1_ n2_ n3_ n4_; (try clear hb); (try clear hb2); (try clear hk); (try clear hi)) | ((with_reducible refine gate_callee (f := 42) rfl ?_); refine goesL_ (some 33) rfl rfl Try.func42 (by kernel_rfl) rfl #[.slice A0 l0.length c0] rfl (by (try simp only [List.map_toArray, List.map_cons, List.map_nil]); first | done | rfl | (simp only [List.length_drop, List.length_take]; rfl)) ?_; (with_reducible refine (laws_toPointSS.calls k _ _ l0 t292 _ ?side1 ?side2 A11.out).mono ?_); (case side1 => repeat (first | exact (Kd.C_below HR0.out HB.out) | (with_reducible refine Kd.C_alloc ?_ _) | (with_reducible refine Kd.C_drewN ?_ _) | (with_reducible refine Kd.C_drew ?_))); (case side2 => exact HC0.out); rintro e w25 ⟨v293, rfl, ho0, hb⟩; refine ⟨_, rfl, ?_⟩; have n0_ := Aside0.mk (Kd.S_elder' (by (with_reducible repeat (first | apply Kd.S_alloc | apply Kd.S_drewN | apply Kd.S_drew)); exact HO281.out) (Kd.S_base ho0) hb); have n1_ := Aside0.mk (Kd.S_below (by (with_reducible repeat (first | apply Kd.S_alloc | apply Kd.S_drewN | apply Kd.S_drew)); exact HO284.out) hb); have n2_ := Aside0.mk (Kd.S_below (by (with_reducible repeat (first | apply Kd.S_alloc | apply Kd.S_drewN | apply Kd.S_drew)); exact HO287.out) hb); have n3_ := Aside0.mk (Kd.S_below (by (with_reducible repeat (first | apply Kd.S_alloc | apply Kd.S_drewN | apply Kd.S_drew)); exact HO290.out) hb); have n4_ := Aside0.mk (Kd.S_lower ho0 (below_size (by repeat (first | (with_reducible first | exact HB.out | apply below_alloc | apply pw_below_drewN | apply below_drew1) | exact HB.out)))); have n5_ := Aside0.mk (below_step (by repeat (first | (with_reducible first | exact HB.out | apply below_alloc | apply pw_below_drewN | apply below_drew1) | exact HB.out)) hb); clear HO281; clear HO284; clear HO287; clear HO290; clear HB; have HO281 := n0_; have HO284 := n1_; have HO287 := n2_; have HO290 := n3_; have HO294 := n4_; have HB := n5_; clear n0_ n1_ n2_ n3_ n4_ n5_; (try clear hb); (try clear hb2); (try clear hk); (try clear hi); (try clear ho0); obtain ⟨Ao26, co26, eo26⟩ := Kd.S_slice HO294.out; subst eo26) | ((with_reducible refine gate_callee (f := 43) rfl ?_); refine goesL_ (some 34) rfl rfl Try.func43 (by kernel_rfl) rfl #[.slice Ao20 t285.length co20, .slice Ao26 t292.length co26] rfl (by (try simp only [List.map_toArray, List.map_cons, List.map_nil]); first | done | rfl | (simp only [List.length_drop, List.length_take]; rfl)) ?_; (with_reducible refine (laws_eqPointSS.calls k _ _ t285 _ _ t292 true _ ?side1 ?side2 ?side3 ?side4 A12.out).mono ?_); (case side1 => repeat (first | exact (Kd.S_reads' HO287.out).2.2 | (with_reducible refine Kd.C_alloc ?_ _) | (with_reducible refine Kd.C_drewN ?_ _) | (with_reducible refine Kd.C_drew ?_))); (case side2 => exact (Kd.S_reads' HO287.out).2.1); (case side3 => repeat (first | exact (Kd.S_reads' HO294.out).2.2 | (with_reducible refine Kd.C_alloc ?_ _) | (with_reducible refine Kd.C_drewN ?_ _) | (with_reducible refine Kd.C_drew ?_))); (case side4 => exact (Kd.S_reads' HO294.out).2.1); rintro e w27 ⟨rfl, hb⟩; refine ⟨_, rfl, ?_⟩; have n0_ := Aside0.mk (Kd.S_below (by (with_reducible repeat (first | apply Kd.S_alloc | apply Kd.S_drewN | apply Kd.S_drew)); exact HO281.out) hb); have n1_ := Aside0.mk (Kd.S_below (by (with_reducible repeat (first | apply Kd.S_alloc | apply Kd.S_drewN | apply Kd.S_drew)); exact HO284.out) hb); have n2_ := Aside0.mk (Kd.S_below (by (with_reducible repeat (first | apply Kd.S_alloc | apply Kd.S_drewN | apply Kd.S_drew)); exact HO287.out) hb); have n3_ := Aside0.mk (Kd.S_below (by (with_reducible repeat (first | apply Kd.S_alloc | apply Kd.S_drewN | apply Kd.S_drew)); exact HO290.out) hb); have n4_ := Aside0.mk (Kd.S_below (by (with_reducible repeat (first | apply Kd.S_alloc | apply Kd.S_drewN | apply Kd.S_drew)); exact HO294.out) hb); have n5_ := Aside0.mk (below_step (by repeat (first | (with_reducible first | exact HB.out | apply below_alloc | apply pw_below_drewN | apply below_drew1) | exact HB.out)) hb); clear HO281; clear HO284; clear HO287; clear HO290; clear HO294; clear HB; have HO281 := n0_; have HO284 := n1_; have HO287 := n2_; have HO290 := n3_; have HO294 := n4_; have HB := n5_; clear n0_ n1_ n2_ n3_ n4_ n5_; (try clear hb); (try clear hb2); (try clear hk); (try clear hi)) | ((with_reducible refine gate_callee (f := 44) rfl ?_); refine goesL_ (some 38) rfl rfl Try.func44 (by kernel_rfl) rfl #[.slice Ao20 t285.length co20, .int .i64 1] rfl (by (try simp only [List.map_toArray, List.map_cons, List.map_nil]); first | done | rfl | (simp only [List.length_drop, List.length_take]; rfl)) ?_; (with_reducible refine (laws_markPointSS.calls k (fun k_ => n1x_ ≤ k_ ∧ k_ < n2x_) (.slice Ao20 t285.length co20) t285 1 t296 t297 w _ ?side1 ?side2 A14.out).mono ?_); (case side1 => repeat (first | (with_reducible first | exact HB.out | apply below_alloc | apply pw_below_drewN | apply below_drew1) | exact HB.out)); (case side2 => exact (by (with_reducible repeat (first | apply Kd.S_alloc | apply Kd.S_drewN | apply Kd.S_drew)); exact HO287.out)); rintro e w28 ⟨rfl, hy0, hb, hkp⟩; refine ⟨_, rfl, ?_⟩; have n1_ := Aside0.mk (Kd.S_kept (by (with_reducible repeat (first | apply Kd.S_alloc | apply Kd.S_drewN | apply Kd.S_drew)); exact HO284.out) hkp (fun k_ hk_ hs_ => Nat.not_lt.2 hs_.1 hk_)); have n2_ := Aside0.mk (Kd.S_kept (by (with_reducible repeat (first | apply Kd.S_alloc | apply Kd.S_drewN | apply Kd.S_drew)); exact HO290.out) hkp (fun k_ hk_ hs_ => Nat.not_lt.2 hk_ hs_.2)); have n4_ := Aside0.mk (hb); clear HO281 HO284 HO290 HO294 HB HO287; have HO284 := n1_; have HO290 := n2_; have HB := n4_; clear n1_ n2_ n4_; (try clear hb); (try clear hkp); (try clear hy0)))
        (try simp only [Act.put, List.setIfInBounds_toArray, List.set_cons_zero, List.set_cons_succ])
        go_cut [46] (fun v46 wc => ∃ (kq : Nat) (x46_14 : Bool), v46 = .bool x46_14 ∧ Aside0 (laws_FnExactStrokeOf.j0 kq l0 a1 t282 t288 x46_14 = some r) ∧ Aside0 (kq ≤ k) ∧ Aside0 (Kd.S (Kd.slice 32 k32) 24 wc w.heap.size (fun k_ => k_ < n1x_) (.slice Ao23 t282.length co23) t282) ∧ Aside0 (Kd.S (Kd.slice 32 k32) 24 wc w.heap.size (fun k_ => n2x_ ≤ k_) (.slice Ao22 t288.length co22) t288) ∧ Aside0 (Below w.heap.size w wc))
        case first =>
          have H := HC15.out
          clear HC15
          by_cases c29 : t296 < 0
          · rw [if_pos c29] at H
            have c29b0 : decide (t296 < 0) = true := decide_eq_true c29
            clear c29
            (first | rw [c29b0] | (simp only [i64_w, i32_w]; rw [c29b0]) | skip)
            exact absurd (show r = false from by cases k with | zero => exact absurd H (by simp [laws_FnExactStrokeOf.j0]) | succ k_ => simp only [laws_FnExactStrokeOf.j0, if_true] at H; exact (Option.some.inj H).symm) (by rw [hT]; simp)
          · rw [if_neg c29] at H
            have c29b0 : decide (t296 < 0) = false := decide_eq_false c29
            clear c29
            (first | rw [c29b0] | (simp only [i64_w, i32_w]; rw [c29b0]) | skip)
            replace H := Option.bind_eq_some_iff.mp H
            obtain ⟨t298, A300, H⟩ := H
            replace H : (laws_FnExactStrokeOf.j0 k l0 a1 t282 t288 (!t298)) = some r := H
            have A30 := Aside0.mk A300
            clear A300
            have H' := Aside0.mk H
            clear H
            go_wp2_with (first | (go_at_call 43; (with_reducible refine (laws_eqPointSS.calls k _ _ t288 _ _ t282 t298 _ ?side1 ?side2 ?side3 ?side4 A30.out).mono ?_); (case side1 => repeat (first | exact (Kd.S_reads' HO290.out).2.2 | (with_reducible refine Kd.C_alloc ?_ _) | (with_reducible refine Kd.C_drewN ?_ _) | (with_reducible refine Kd.C_drew ?_))); (case side2 => exact (Kd.S_reads' HO290.out).2.1); (case side3 => repeat (first | exact (Kd.S_reads' HO284.out).2.2 | (with_reducible refine Kd.C_alloc ?_ _) | (with_reducible refine Kd.C_drewN ?_ _) | (with_reducible refine Kd.C_drew ?_))); (case side4 => exact (Kd.S_reads' HO284.out).2.1); rintro e w31 ⟨rfl, hb⟩; have n1_ := Aside0.mk (Kd.S_below (by (with_reducible repeat (first | apply Kd.S_alloc | apply Kd.S_drewN | apply Kd.S_drew)); exact HO284.out) hb); have n2_ := Aside0.mk (Kd.S_below (by (with_reducible repeat (first | apply Kd.S_alloc | apply Kd.S_drewN | apply Kd.S_drew)); exact HO290.out) hb); have n3_ := Aside0.mk (below_step (by repeat (first | (with_reducible first | exact HB.out | apply below_alloc | apply pw_below_drewN | apply below_drew1) | exact HB.out)) hb); clear HO284 HO290 HB; have HO284 := n1_; have HO290 := n2_; have HB := n3_; clear n1_ n2_ n3_; (try clear hb); (try clear hb2); (try clear hk); (try clear hi)))
            go_meet
            case rel => exact ⟨_, (!t298), (by first | rfl | (simp; done) | (simp [*]; done)), H', ⟨by first | omega | exact Nat.le_refl _⟩, ⟨by (with_reducible repeat (first | apply Kd.S_alloc | apply Kd.S_drewN | apply Kd.S_drew)); exact HO284.out⟩, ⟨by (with_reducible repeat (first | apply Kd.S_alloc | apply Kd.S_drewN | apply Kd.S_drew)); exact HO290.out⟩, ⟨by repeat (first | (with_reducible first | exact HB.out | apply below_alloc | apply pw_below_drewN | apply below_drew1) | exact HB.out)⟩⟩
        case rest =>
          clear HC15
          try clear c1
          try clear c2
          try clear p2
          try clear c4
          try clear c4b0
          try clear c6
          try clear c10
          try clear c13
          try clear c18
          try clear c21
          try clear c29
          try clear c29b0
          obtain ⟨kq, x46_14, rfl, HA, HJ14, HO_6, HO_8, HB⟩ := hcut
          cases kq with
          | zero => exact absurd HA.out (by simp [laws_FnExactStrokeOf.j0])
          | succ kj14 =>
            have H := HA.out
            clear HA
            simp only [laws_FnExactStrokeOf.j0] at H
            by_cases c32 : x46_14 = true
            · subst c32
              have H1 : (some false) = some r := by rw [if_pos rfl] at H; exact H
              clear H
              have H := H1
              clear H1
              obtain rfl := Option.some.inj H
              exact absurd hT Bool.false_ne_true
            · replace c32 := Bool.eq_false_iff.mpr c32
              subst c32
              have H1 : ((laws_markPointSS.f kj14 t288 1).bind fun bt299 => ((laws_heldPointSS.f kj14 bt299.2 1).bind fun t301 => (if t301 < 0 then (some false) else (if t301 = bt299.1 then ((laws_toPointSS.f kj14 l0).bind fun t302 => ((impl_StrokeOf.f kj14 t302 a1).bind fun t305 => ((laws_eqPointSS.f kj14 t305 t282).bind fun t308 => (if t308 = true then ((laws_heldPointSS.f kj14 bt299.2 1).bind fun t309 => (if t309 < 0 then (some false) else (if t309 = bt299.1 then (some true) else (some false)))) else (some false))))) else (some false))))) = some r := by rw [if_neg (show ¬ (false = true) by decide)] at H; exact H
              clear H
              have H := H1
              clear H1
              replace H := Option.bind_eq_some_iff.mp H
              obtain ⟨⟨t299, t300⟩, A330, H⟩ := H
              replace H : ((laws_heldPointSS.f kj14 t300 1).bind fun t301 => (if t301 < 0 then (some false) else (if t301 = t299 then ((laws_toPointSS.f kj14 l0).bind fun t302 => ((impl_StrokeOf.f kj14 t302 a1).bind fun t305 => ((laws_eqPointSS.f kj14 t305 t282).bind fun t308 => (if t308 = true then ((laws_heldPointSS.f kj14 t300 1).bind fun t309 => (if t309 < 0 then (some false) else (if t309 = t299 then (some true) else (some false)))) else (some false))))) else (some false)))) = some r := H
              have A33 := Aside0.mk A330
              clear A330
              replace H := Option.bind_eq_some_iff.mp H
              obtain ⟨t301, A340, H⟩ := H
              replace H : (if t301 < 0 then (some false) else (if t301 = t299 then ((laws_toPointSS.f kj14 l0).bind fun t302 => ((impl_StrokeOf.f kj14 t302 a1).bind fun t305 => ((laws_eqPointSS.f kj14 t305 t282).bind fun t308 => (if t308 = true then ((laws_heldPointSS.f kj14 t300 1).bind fun t309 => (if t309 < 0 then (some false) else (if t309 = t299 then (some true) else (some false)))) else (some false))))) else (some false))) = some r := H
              have A34 := Aside0.mk A340
              clear A340
              by_cases c35 : t301 < 0
              · rw [if_pos c35] at H
                have c35b0 : decide (t301 < 0) = true := decide_eq_true c35
                clear c35
                obtain rfl := Option.some.inj H
                exact absurd hT Bool.false_ne_true
              · rw [if_neg c35] at H
                have c35b0 : decide (t301 < 0) = false := decide_eq_false c35
                clear c35
                by_cases c36 : t301 = t299
                · rw [if_pos c36] at H
                  have c36b0 : (t301 == t299) = true := beq_iff_eq.mpr c36
                  have c36b1 : (t301 != t299) = false := bne_eq_false_iff_eq.mpr c36
                  clear c36
                  replace H := Option.bind_eq_some_iff.mp H
                  obtain ⟨t302, A370, H⟩ := H
                  replace H : ((impl_StrokeOf.f kj14 t302 a1).bind fun t305 => ((laws_eqPointSS.f kj14 t305 t282).bind fun t308 => (if t308 = true then ((laws_heldPointSS.f kj14 t300 1).bind fun t309 => (if t309 < 0 then (some false) else (if t309 = t299 then (some true) else (some false)))) else (some false)))) = some r := H
                  have A37 := Aside0.mk A370
                  clear A370
                  replace H := Option.bind_eq_some_iff.mp H
                  obtain ⟨t305, A380, H⟩ := H
                  replace H : ((laws_eqPointSS.f kj14 t305 t282).bind fun t308 => (if t308 = true then ((laws_heldPointSS.f kj14 t300 1).bind fun t309 => (if t309 < 0 then (some false) else (if t309 = t299 then (some true) else (some false)))) else (some false))) = some r := H
                  have A38 := Aside0.mk A380
                  clear A380
                  replace H := Option.bind_eq_some_iff.mp H
                  obtain ⟨t308, A390, H⟩ := H
                  replace H : (if t308 = true then ((laws_heldPointSS.f kj14 t300 1).bind fun t309 => (if t309 < 0 then (some false) else (if t309 = t299 then (some true) else (some false)))) else (some false)) = some r := H
                  have A39 := Aside0.mk A390
                  clear A390
                  by_cases c40 : t308 = true
                  · subst c40
                    have H1 : ((laws_heldPointSS.f kj14 t300 1).bind fun t309 => (if t309 < 0 then (some false) else (if t309 = t299 then (some true) else (some false)))) = some r := by rw [if_pos rfl] at H; exact H
                    clear H
                    have H := H1
                    clear H1
                    replace H := Option.bind_eq_some_iff.mp H
                    obtain ⟨t309, A410, H⟩ := H
                    replace H : (if t309 < 0 then (some false) else (if t309 = t299 then (some true) else (some false))) = some r := H
                    have A41 := Aside0.mk A410
                    clear A410
                    by_cases c42 : t309 < 0
                    · rw [if_pos c42] at H
                      have c42b0 : decide (t309 < 0) = true := decide_eq_true c42
                      clear c42
                      obtain rfl := Option.some.inj H
                      exact absurd hT Bool.false_ne_true
                    · rw [if_neg c42] at H
                      have c42b0 : decide (t309 < 0) = false := decide_eq_false c42
                      clear c42
                      by_cases c43 : t309 = t299
                      · rw [if_pos c43] at H
                        have c43b0 : (t309 == t299) = true := beq_iff_eq.mpr c43
                        have c43b1 : (t309 != t299) = false := bne_eq_false_iff_eq.mpr c43
                        clear c43
                        obtain rfl := Option.some.inj H
                        simp only [Option.some.injEq, Prod.mk.injEq] at H
                        obtain ⟨rfl⟩ := H
                        go_wp2_with (first | ((with_reducible refine gate_callee (f := 44) rfl ?_); refine goesL_ (some 49) rfl rfl Try.func44 (by kernel_rfl) rfl #[.slice Ao22 t288.length co22, .int .i64 1] rfl (by (try simp only [List.map_toArray, List.map_cons, List.map_nil]); first | done | rfl | (simp only [List.length_drop, List.length_take]; rfl)) ?_; (with_reducible refine (laws_markPointSS.calls kj14 (fun k_ => n2x_ ≤ k_) (.slice Ao22 t288.length co22) t288 1 t299 t300 w _ ?side1 ?side2 A33.out).mono ?_); (case side1 => repeat (first | (with_reducible first | exact HB.out | apply below_alloc | apply pw_below_drewN | apply below_drew1) | exact HB.out)); (case side2 => exact (by (with_reducible repeat (first | apply Kd.S_alloc | apply Kd.S_drewN | apply Kd.S_drew)); exact HO_8.out)); rintro e w44 ⟨rfl, hy0, hb, hkp⟩; refine ⟨_, rfl, ?_⟩; have n0_ := Aside0.mk (Kd.S_kept (by (with_reducible repeat (first | apply Kd.S_alloc | apply Kd.S_drewN | apply Kd.S_drew)); exact HO_6.out) hkp (fun k_ hk_ hs_ => Nat.not_lt.2 (Nat.le_trans hn2_ hs_) hk_)); have n1_ := Aside0.mk (hb); have n8_ := Aside0.mk hy0; clear HO_6 HB HO_8; have HO_6 := n0_; have HB := n1_; have HO_8 := n8_; clear n0_ n1_ n8_; have hl8_ := (Kd.S_reads' HO_8.out).1; rw [hl8_] at HO_8; rw [hl8_]; clear hl8_; (try clear hb); (try clear hkp); (try clear hy0)) | ((with_reducible refine gate_callee (f := 45) rfl ?_); refine goesL_ (some 52) rfl rfl Try.func45 (by kernel_rfl) rfl #[.slice Ao22 t300.length co22, .int .i64 1] rfl (by (try simp only [List.map_toArray, List.map_cons, List.map_nil]); first | done | rfl | (simp only [List.length_drop, List.length_take]; rfl)) ?_; (with_reducible refine (laws_heldPointSS.calls kj14 _ _ t300 1 t301 _ ?side1 ?side2 A34.out).mono ?_); (case side1 => repeat (first | exact (Kd.S_reads' HO_8.out).2.2 | (with_reducible refine Kd.C_alloc ?_ _) | (with_reducible refine Kd.C_drewN ?_ _) | (with_reducible refine Kd.C_drew ?_))); (case side2 => exact (Kd.S_reads' HO_8.out).2.1); rintro e w' ⟨rfl, ⟨nd, rfl⟩⟩; refine ⟨_, rfl, ?_⟩) | ((with_reducible refine gate_callee (f := 42) rfl ?_); refine goesL_ (some 59) rfl rfl Try.func42 (by kernel_rfl) rfl #[.slice A0 l0.length c0] rfl (by (try simp only [List.map_toArray, List.map_cons, List.map_nil]); first | done | rfl | (simp only [List.length_drop, List.length_take]; rfl)) ?_; (with_reducible refine (laws_toPointSS.calls kj14 _ _ l0 t302 _ ?side1 ?side2 A37.out).mono ?_); (case side1 => repeat (first | exact (Kd.C_below HR0.out (by repeat (first | (with_reducible first | exact HB.out | apply below_alloc | apply pw_below_drewN | apply below_drew1) | exact HB.out))) | (with_reducible refine Kd.C_alloc ?_ _) | (with_reducible refine Kd.C_drewN ?_ _) | (with_reducible refine Kd.C_drew ?_))); (case side2 => exact HC0.out); rintro e w45 ⟨v303, rfl, ho0, hb⟩; refine ⟨_, rfl, ?_⟩; have n8_ := Aside0.mk (Kd.S_below (by (with_reducible repeat (first | apply Kd.S_alloc | apply Kd.S_drewN | apply Kd.S_drew)); exact HO_8.out) hb); have n0_ := Aside0.mk (Kd.S_elder' (by (with_reducible repeat (first | apply Kd.S_alloc | apply Kd.S_drewN | apply Kd.S_drew)); exact HO_6.out) (Kd.S_base ho0) hb); have n1_ := Aside0.mk (Kd.S_lower (Kd.S_new' ho0 (Kd.S_lt (by (with_reducible repeat (first | apply Kd.S_alloc | apply Kd.S_drewN | apply Kd.S_drew)); exact HO_6.out))) (below_size (by repeat (first | (with_reducible first | exact HB.out | apply below_alloc | apply pw_below_drewN | apply below_drew1) | exact HB.out)))); have n2_ := Aside0.mk (below_step (by repeat (first | (with_reducible first | exact HB.out | apply below_alloc | apply pw_below_drewN | apply below_drew1) | exact HB.out)) hb); clear HO_6; clear HB; have HO_6 := n0_; have HO304 := n1_; have HB := n2_; clear HO_8; have HO_8 := n8_; clear n8_; clear n0_ n1_ n2_; (try clear hb); (try clear hb2); (try clear hk); (try clear hi); (try clear ho0); obtain ⟨Ao46, co46, eo46⟩ := Kd.S_slice HO304.out; subst eo46) | ((with_reducible refine gate_callee (f := 18) rfl ?_); refine goesL_ (some 61) rfl rfl Try.func18 (by kernel_rfl) rfl #[.slice Ao46 t302.length co46, .int .i64 a1] rfl (by (try simp only [List.map_toArray, List.map_cons, List.map_nil]); first | done | rfl | (simp only [List.length_drop, List.length_take]; rfl)) ?_; (with_reducible refine (impl_StrokeOf.calls kj14 _ _ t302 a1 t305 _ ?side1 ?side2 A38.out).mono ?_); (case side1 => repeat (first | exact (Kd.S_reads' HO304.out).2.2 | (with_reducible refine Kd.C_alloc ?_ _) | (with_reducible refine Kd.C_drewN ?_ _) | (with_reducible refine Kd.C_drew ?_))); (case side2 => exact (Kd.S_reads' HO304.out).2.1); rintro e w47 ⟨v306, rfl, ho0, hb⟩; refine ⟨_, rfl, ?_⟩; have n8_ := Aside0.mk (Kd.S_below (by (with_reducible repeat (first | apply Kd.S_alloc | apply Kd.S_drewN | apply Kd.S_drew)); exact HO_8.out) hb); have n0_ := Aside0.mk (Kd.S_elder' (by (with_reducible repeat (first | apply Kd.S_alloc | apply Kd.S_drewN | apply Kd.S_drew)); exact HO_6.out) (Kd.S_base ho0) hb); have n1_ := Aside0.mk (Kd.S_elder' (by (with_reducible repeat (first | apply Kd.S_alloc | apply Kd.S_drewN | apply Kd.S_drew)); exact HO304.out) (Kd.S_base ho0) hb); have n2_ := Aside0.mk (Kd.S_lower (Kd.S_new' (Kd.S_new' ho0 (Kd.S_lt (by (with_reducible repeat (first | apply Kd.S_alloc | apply Kd.S_drewN | apply Kd.S_drew)); exact HO_6.out))) (Kd.S_lt (by (with_reducible repeat (first | apply Kd.S_alloc | apply Kd.S_drewN | apply Kd.S_drew)); exact HO304.out))) (below_size (by repeat (first | (with_reducible first | exact HB.out | apply below_alloc | apply pw_below_drewN | apply below_drew1) | exact HB.out)))); have n3_ := Aside0.mk (below_step (by repeat (first | (with_reducible first | exact HB.out | apply below_alloc | apply pw_below_drewN | apply below_drew1) | exact HB.out)) hb); clear HO_6; clear HO304; clear HB; have HO_6 := n0_; have HO304 := n1_; have HO307 := n2_; have HB := n3_; clear HO_8; have HO_8 := n8_; clear n8_; clear n0_ n1_ n2_ n3_; (try clear hb); (try clear hb2); (try clear hk); (try clear hi); (try clear ho0); obtain ⟨Ao48, co48, eo48⟩ := Kd.S_slice HO307.out; subst eo48) | ((with_reducible refine gate_callee (f := 43) rfl ?_); refine goesL_ (some 64) rfl rfl Try.func43 (by kernel_rfl) rfl #[.slice Ao48 t305.length co48, .slice Ao23 t282.length co23] rfl (by (try simp only [List.map_toArray, List.map_cons, List.map_nil]); first | done | rfl | (simp only [List.length_drop, List.length_take]; rfl)) ?_; (with_reducible refine (laws_eqPointSS.calls kj14 _ _ t305 _ _ t282 true _ ?side1 ?side2 ?side3 ?side4 A39.out).mono ?_); (case side1 => repeat (first | exact (Kd.S_reads' HO307.out).2.2 | (with_reducible refine Kd.C_alloc ?_ _) | (with_reducible refine Kd.C_drewN ?_ _) | (with_reducible refine Kd.C_drew ?_))); (case side2 => exact (Kd.S_reads' HO307.out).2.1); (case side3 => repeat (first | exact (Kd.S_reads' HO_6.out).2.2 | (with_reducible refine Kd.C_alloc ?_ _) | (with_reducible refine Kd.C_drewN ?_ _) | (with_reducible refine Kd.C_drew ?_))); (case side4 => exact (Kd.S_reads' HO_6.out).2.1); rintro e w49 ⟨rfl, hb⟩; refine ⟨_, rfl, ?_⟩; have n8_ := Aside0.mk (Kd.S_below (by (with_reducible repeat (first | apply Kd.S_alloc | apply Kd.S_drewN | apply Kd.S_drew)); exact HO_8.out) hb); have n0_ := Aside0.mk (Kd.S_below (by (with_reducible repeat (first | apply Kd.S_alloc | apply Kd.S_drewN | apply Kd.S_drew)); exact HO_6.out) hb); have n1_ := Aside0.mk (Kd.S_below (by (with_reducible repeat (first | apply Kd.S_alloc | apply Kd.S_drewN | apply Kd.S_drew)); exact HO304.out) hb); have n2_ := Aside0.mk (Kd.S_below (by (with_reducible repeat (first | apply Kd.S_alloc | apply Kd.S_drewN | apply Kd.S_drew)); exact HO307.out) hb); have n3_ := Aside0.mk (below_step (by repeat (first | (with_reducible first | exact HB.out | apply below_alloc | apply pw_below_drewN | apply below_drew1) | exact HB.out)) hb); clear HO_6; clear HO304; clear HO307; clear HB; have HO_6 := n0_; have HO304 := n1_; have HO307 := n2_; have HB := n3_; clear HO_8; have HO_8 := n8_; clear n8_; clear n0_ n1_ n2_ n3_; (try clear hb); (try clear hb2); (try clear hk); (try clear hi)) | ((with_reducible refine gate_callee (f := 45) rfl ?_); refine goesL_ (some 68) rfl rfl Try.func45 (by kernel_rfl) rfl #[.slice Ao22 t300.length co22, .int .i64 1] rfl (by (try simp only [List.map_toArray, List.map_cons, List.map_nil]); first | done | rfl | (simp only [List.length_drop, List.length_take]; rfl)) ?_; (with_reducible refine (laws_heldPointSS.calls kj14 _ _ t300 1 t309 _ ?side1 ?side2 A41.out).mono ?_); (case side1 => repeat (first | exact (Kd.S_reads' HO_8.out).2.2 | (with_reducible refine Kd.C_alloc ?_ _) | (with_reducible refine Kd.C_drewN ?_ _) | (with_reducible refine Kd.C_drew ?_))); (case side2 => exact (Kd.S_reads' HO_8.out).2.1); rintro e w' ⟨rfl, ⟨nd, rfl⟩⟩; refine ⟨_, rfl, ?_⟩))
                        go_ret
                        exact ⟨by first | rfl | (simp [errW_none, errW_some] <;> rfl) | (simp [*, errW_none, errW_some] <;> rfl), by repeat (first | (with_reducible first | exact HB.out | apply below_alloc | apply pw_below_drewN | apply below_drew1) | exact HB.out)⟩
                      · rw [if_neg c43] at H
                        have c43b0 : (t309 == t299) = false := beq_eq_false_iff_ne.mpr c43
                        have c43b1 : (t309 != t299) = true := bne_iff_ne.mpr c43
                        obtain rfl := Option.some.inj H
                        exact absurd hT Bool.false_ne_true
                  · replace c40 := Bool.eq_false_iff.mpr c40
                    subst c40
                    have H1 : (some false) = some r := by rw [if_neg (show ¬ (false = true) by decide)] at H; exact H
                    clear H
                    have H := H1
                    clear H1
                    obtain rfl := Option.some.inj H
                    exact absurd hT Bool.false_ne_true
                · rw [if_neg c36] at H
                  have c36b0 : (t301 == t299) = false := beq_eq_false_iff_ne.mpr c36
                  have c36b1 : (t301 != t299) = true := bne_iff_ne.mpr c36
                  obtain rfl := Option.some.inj H
                  exact absurd hT Bool.false_ne_true
      · replace c13 := Bool.eq_false_iff.mpr c13
        subst c13
        have H1 : (some false) = some r := by rw [if_neg (show ¬ (false = true) by decide)] at H; exact H
        clear H
        have H := H1
        clear H1
        obtain rfl := Option.some.inj H
        exact absurd hT Bool.false_ne_true
    · replace c10 := Bool.eq_false_iff.mpr c10
      subst c10
      have H1 : (some false) = some r := by rw [if_neg (show ¬ (false = true) by decide)] at H; exact H
      clear H
      have H := H1
      clear H1
      obtain rfl := Option.some.inj H
      exact absurd hT Bool.false_ne_true

end Go.Proofs.Ytgdlbilpfmjeaaa.MFnExactStrokeOf
