/- Functions of the program as Lean functions, and the proof that a call comes to just these: machine text of this session's own program (myprint.py). -/
import Derived.Test.YtghbenapnhcllaaMFnExactSceneOkx0
import Derived.Test.YtghbenapnhcllaaMFnExactSceneOkx4
import Derived.Test.YtghbenapnhcllaaMFnExactSceneOkx5
import Derived.Test.YtghbenapnhcllaaMFnExactSceneOkx7
import Derived.Test.YtghbenapnhcllaaMFnExactSceneOkx12
import Derived.Test.YtghbenapnhcllaaMFnExactSceneOkx17
namespace Go.Proofs.Ytghbenapnhcllaa.MFnExactSceneOk
open Go.RowKit Go.Proofs.YtghbenapnhcllaaW.PrintWords Go.Proofs.YtghbenapnhcllaaW.PrintLast Go.Proofs.YtghbenapnhcllaaW.PrintMore
attribute [local go_sem] max2_int min2_int max_two min_two max_three min_three max_four min_four   -- for this text's walks alone
set_option linter.unusedVariables false
set_option linter.unusedSimpArgs false

theorem z18_0 {P : Prop} (h : P := by repeat (first | (with_reducible first | exact HB.out | apply below_alloc | apply pw_below_drewN | apply below_drew1 | refine below_set ?_ GE409.out) | exact HB.out)) : P := h
theorem z18_1 {P : Prop} (h : P := by (with_reducible repeat (first | refine blk_drewN ?_ _ | refine blk_drew ?_ | refine blk_alloc ?_ _)); exact BK409.out) : P := h
theorem z18_2 {P : Prop} (h : P := by (try simp only [List.map_toArray, List.map_cons, List.map_nil]); first | done | rfl | (simp only [List.length_drop, List.length_take]; rfl)) : P := h
theorem z18_3 {P : Prop} (h : P := by repeat (first | (with_reducible first | exact HB.out | apply below_alloc | apply pw_below_drewN | apply below_drew1 | refine below_set ?_ GE409.out | refine below_set ?_ GE418.out) | exact HB.out)) : P := h
theorem z18_4 {P : Prop} (h : P := by repeat (first | exact (Kd.C_below HR0_0.out HB.out) | (with_reducible refine Kd.C_alloc ?_ _) | (with_reducible refine Kd.C_drewN ?_ _) | (with_reducible refine Kd.C_drew ?_))) : P := h
theorem z18_5 {P : Prop} (h : P := by repeat (first | (with_reducible first | exact HB.out | apply below_alloc | apply pw_below_drewN | apply below_drew1) | exact HB.out)) : P := h
theorem z18_6 {P : Prop} (h : P := by (with_reducible repeat (first | apply Kd.S_alloc | apply Kd.S_drewN | apply Kd.S_drew)); exact HO413.out) : P := h
theorem z18_7 {P : Prop} (h : P := by (with_reducible repeat (first | apply Kd.S_alloc | apply Kd.S_drewN | apply Kd.S_drew)); exact HO417.out) : P := h
theorem z18_8 {P : Prop} (h : P := by (with_reducible repeat (first | apply Kd.S_alloc | apply Kd.S_drewN | apply Kd.S_drew)); exact (Kd.S_mono (Kd.S_far (p := ⟨gb418, 0, none⟩) (Kd.S_types HO417.out BK418.out (by decide)) (fun _ hk => hk.2) (.slice Ao25 t415.length co25)) (fun _ h_ => h_.1))) : P := h
theorem z18_9 {P : Prop} (h : P := by (with_reducible repeat (first | refine blk_drewN ?_ _ | refine blk_drew ?_ | refine blk_alloc ?_ _)); exact BK418.out) : P := h
/-! ### laws_FnExactSceneOk: function 9 -/
def laws_FnExactSceneOk.f (k : Nat) (l0_0 : List (S47)) : Option (Bool) := (laws_szScene.f k l0_0 1048576).bind fun t410 => (if t410 < 0 then (some true) else ((laws_toScene.f k l0_0).bind fun t411 => ((spec_SceneOk.f k t411).bind fun t414 => ((laws_toScene.f k l0_0).bind fun t415 => ((impl_SceneOk.f k t415).bind fun t419 => (if (t419 != t414) = true then (some false) else ((laws_toScene.f k l0_0).bind fun t420 => ((laws_eqScene.f k t415 t420).bind fun t423 => (if t423 = true then (some true) else (some false))))))))))
theorem laws_FnExactSceneOk.mono : ∀ a0 k, LeO (laws_FnExactSceneOk.f k a0) (laws_FnExactSceneOk.f (k + 1) a0) := by
 intro a0 k
 unfold laws_FnExactSceneOk.f
 repeat' first
   | (with_reducible exact impl_SceneOk.mono _ _)
   | (with_reducible exact laws_eqScene.mono _ _ _)
   | (with_reducible exact laws_szScene.mono _ _ _)
   | (with_reducible exact laws_toScene.mono _ _)
   | (with_reducible exact spec_SceneOk.mono _ _)
   | (with_reducible exact LeO.refl _)
   | (with_reducible exact LeO.none _)
   | (with_reducible refine LeO.ite ?_ ?_)
   | (with_reducible refine LeO.bind ?_ (fun _ => ?_))
   | exact impl_SceneOk.mono _ _
   | exact laws_eqScene.mono _ _ _
   | exact laws_szScene.mono _ _ _
   | exact laws_toScene.mono _ _
   | exact spec_SceneOk.mono _ _
   | exact LeO.none _
   | refine LeO.ite ?_ ?_
   | refine LeO.bind ?_ (fun _ => ?_)
set_option maxHeartbeats 8000000 in
set_option maxRecDepth 100000 in
theorem laws_FnExactSceneOk.calls (k : Nat) (A0_0 : Option Addr) (c0_0 : Nat) (l0_0 : List (S47)) (r : Bool) (w : World) (hr0_0 : Kd.C k47 w A0_0 l0_0.length l0_0) (hc0_0 : l0_0.length ≤ c0_0) (hT : r = true) (h : laws_FnExactSceneOk.f k l0_0 = some r) :
  Calls Try.prog 9 #[.agg #[.slice A0_0 l0_0.length c0_0]] w fun e w' => e = .returned (.bool r) ∧ Below w.heap.size w w' := by
 have hu78 := Try.underlying78
 have hu83 := Try.underlying83
 have HR0_0 := Aside0.mk hr0_0
 have HC0_0 := Aside0.mk hc0_0
 clear hr0_0 hc0_0
 have HB := Aside0.mk (Below.refl w.heap.size w)
 have H : ((laws_szScene.f k l0_0 1048576).bind fun t410 => (if t410 < 0 then (some true) else ((laws_toScene.f k l0_0).bind fun t411 => ((spec_SceneOk.f k t411).bind fun t414 => ((laws_toScene.f k l0_0).bind fun t415 => ((impl_SceneOk.f k t415).bind fun t419 => (if (t419 != t414) = true then (some false) else ((laws_toScene.f k l0_0).bind fun t420 => ((laws_eqScene.f k t415 t420).bind fun t423 => (if t423 = true then (some true) else (some false))))))))))) = some r := h
 clear h
 replace H := Option.bind_eq_some_iff.mp H
 obtain ⟨t410, A20, H⟩ := H
 try dsimp only at H
 have A2 := Aside0.mk A20
 clear A20
 by_cases c3 : t410 < 0
 ·rw [if_pos c3] at H
  have c3b0 : decide (t410 < 0) = true := decide_eq_true c3
  clear c3
  obtain rfl := Option.some.inj H
  simp only [Option.some.injEq, Prod.mk.injEq] at H
  obtain ⟨rfl⟩ := H
  go_enter Try.func9, Try.ntmps9
  go_wp2_with (first | ((with_reducible refine gate_dst (N := 1) rfl ?_); refine boxz (cs := #[.slice A0_0 l0_0.length c0_0]) (t := 78) rfl ?_; intro gb409 hg w4 hbox hb; have n0_ := Aside0.mk (below_step z18_5 hb); have n1_ := Aside0.mk (hbox); have n2_ := Aside0.mk (ge_go (a := w.heap.size) hg (below_size z18_5)); have n3_ := Aside0.mk (ge_go (a := w.heap.size) hg (below_size z18_5)); clear HB; have HB := n0_; have BK409 := n1_; have GW409 := n2_; have GE409 := n3_; clear n0_ n1_ n2_ n3_; clear hb hbox hg; obtain ⟨_, _⟩ := be_1 BK409.out) | ((with_reducible refine gate_callee (f := 35) rfl ?_); refine goesL_ (some 9) rfl rfl Try.func35 (by kernel_rfl) rfl #[.agg #[.slice A0_0 l0_0.length c0_0], .int .i64 1048576] rfl z18_2 ?_; (with_reducible refine (laws_szScene.calls k _ _ l0_0 1048576 t410 _ ?side1 ?side2 A2.out).mono ?_); (case side1 => exact z18_4); (case side2 => exact HC0_0.out); rintro e w6 ⟨rfl, hb⟩; refine ⟨_, rfl, ?_⟩; have n0_ := Aside0.mk (blk_belowB BK409 z18_1 hb); have n1_ := Aside0.mk (below_step z18_0 hb); clear BK409; clear HB; have BK409 := n0_; have HB := n1_; clear n0_ n1_; (try clear hb)))
  go_ret
  exact ⟨(by first | rfl | (simp [errW_none, errW_some] <;> rfl) | (simp [*, errW_none, errW_some] <;> rfl)), z18_0⟩
 ·rw [if_neg c3] at H
  have c3b0 : decide (t410 < 0) = false := decide_eq_false c3
  clear c3
  replace H := Option.bind_eq_some_iff.mp H
  obtain ⟨t411, A70, H⟩ := H
  try dsimp only at H
  have A7 := Aside0.mk A70
  clear A70
  replace H := Option.bind_eq_some_iff.mp H
  obtain ⟨t414, A80, H⟩ := H
  try dsimp only at H
  have A8 := Aside0.mk A80
  clear A80
  replace H := Option.bind_eq_some_iff.mp H
  obtain ⟨t415, A90, H⟩ := H
  try dsimp only at H
  have A9 := Aside0.mk A90
  clear A90
  replace H := Option.bind_eq_some_iff.mp H
  obtain ⟨t419, A100, H⟩ := H
  try dsimp only at H
  have A10 := Aside0.mk A100
  clear A100
  by_cases c11 : (t419 != t414) = true
  ·rw [if_pos c11] at H
   have c11b0 : (t419 != t414) = true := c11
   (try (have c11b1 : decide (t419 = t414) = false := by simpa using c11))
   (try (have c11b2 : (t419 == t414) = false := by simpa using c11))
   (try (have c11b3 : ¬ (t419 = t414) := by simpa using c11))
   clear c11
   obtain rfl := Option.some.inj H
   exact absurd hT Bool.false_ne_true
  ·rw [if_neg c11] at H
   have c11b0 : (t419 != t414) = false := by simpa using c11
   (try (have c11b1 : decide (t419 = t414) = true := by simpa using c11))
   (try (have c11b2 : (t419 == t414) = true := by simpa using c11))
   clear c11
   replace H := Option.bind_eq_some_iff.mp H
   obtain ⟨t420, A120, H⟩ := H
   try dsimp only at H
   have A12 := Aside0.mk A120
   clear A120
   replace H := Option.bind_eq_some_iff.mp H
   obtain ⟨t423, A130, H⟩ := H
   try dsimp only at H
   have A13 := Aside0.mk A130
   clear A130
   by_cases c14 : t423 = true
   ·subst c14
    have H1 : (some true) = some r := by rw [if_pos rfl] at H; exact H
    clear H; have H := H1; clear H1
    obtain rfl := Option.some.inj H
    simp only [Option.some.injEq, Prod.mk.injEq] at H
    obtain ⟨rfl⟩ := H
    go_enter Try.func9, Try.ntmps9
    try go_wp2_with (first | ((with_reducible refine gate_dst (N := 1) rfl ?_); refine boxz (cs := #[.slice A0_0 l0_0.length c0_0]) (t := 78) rfl ?_; intro gb409 hg w15 hbox hb; have n0_ := Aside0.mk (below_step z18_5 hb); have n1_ := Aside0.mk (hbox); have n2_ := Aside0.mk (ge_go (a := w.heap.size) hg (below_size z18_5)); have n3_ := Aside0.mk (ge_go (a := w.heap.size) hg (below_size z18_5)); clear HB; have HB := n0_; have BK409 := n1_; have GW409 := n2_; have GE409 := n3_; clear n0_ n1_ n2_ n3_; clear hb hbox hg; obtain ⟨_, _⟩ := be_1 BK409.out) | ((with_reducible refine gate_callee (f := 35) rfl ?_); refine goesL_ (some 9) rfl rfl Try.func35 (by kernel_rfl) rfl #[.agg #[.slice A0_0 l0_0.length c0_0], .int .i64 1048576] rfl z18_2 ?_; (with_reducible refine (laws_szScene.calls k _ _ l0_0 1048576 t410 _ ?side1 ?side2 A2.out).mono ?_); (case side1 => exact z18_4); (case side2 => exact HC0_0.out); rintro e w17 ⟨rfl, hb⟩; refine ⟨_, rfl, ?_⟩; have n0_ := Aside0.mk (blk_belowB BK409 z18_1 hb); have n1_ := Aside0.mk (below_step z18_0 hb); clear BK409; clear HB; have BK409 := n0_; have HB := n1_; clear n0_ n1_; (try clear hb); (try clear hk); obtain ⟨_, _⟩ := be_1 BK409.out) | ((with_reducible refine gate_callee (f := 37) rfl ?_); refine goesL_ (some 13) rfl rfl Try.func37 (by kernel_rfl) rfl #[.agg #[.slice A0_0 l0_0.length c0_0]] rfl z18_2 ?_; (with_reducible refine (laws_toScene.calls k _ _ l0_0 t411 _ ?side1 ?side2 A7.out).mono ?_); (case side1 => exact z18_4); (case side2 => exact HC0_0.out); rintro e w19 ⟨v412, rfl, ho0, hb⟩; refine ⟨_, rfl, ?_⟩; have n0_ := Aside0.mk (Kd.S_lower ho0 (below_size z18_0)); have n1_ := Aside0.mk (blk_belowB BK409 z18_1 hb); have n2_ := Aside0.mk (below_step z18_0 hb); clear BK409; clear HB; have HO413 := n0_; have BK409 := n1_; have HB := n2_; clear n0_ n1_ n2_; (try clear hb); (try clear hk); (try clear ho0); obtain ⟨Ao20, co20, eo20⟩ := Kd.S_slice HO413.out; subst eo20) | ((with_reducible refine gate_callee (f := 48) rfl ?_); refine goesL_ (some 14) rfl rfl Try.func48 (by kernel_rfl) rfl #[.agg #[.slice Ao20 t411.length co20]] rfl z18_2 ?_; (with_reducible refine (spec_SceneOk.calls k _ _ t411 t414 _ ?side1 ?side2 A8.out).mono ?_); (case side1 => repeat (first | exact (Kd.S_reads' HO413.out).2.2 | (with_reducible refine Kd.C_alloc ?_ _) | (with_reducible refine Kd.C_drewN ?_ _) | (with_reducible refine Kd.C_drew ?_))); (case side2 => exact (Kd.S_reads' HO413.out).2.1); rintro e w21 ⟨rfl, hb⟩; refine ⟨_, rfl, ?_⟩; have n0_ := Aside0.mk (Kd.S_below z18_6 hb); have n1_ := Aside0.mk (blk_belowB BK409 z18_1 hb); have n2_ := Aside0.mk (below_step z18_0 hb); clear HO413; clear BK409; clear HB; have HO413 := n0_; have BK409 := n1_; have HB := n2_; clear n0_ n1_ n2_; (try clear hb); (try clear hk); obtain ⟨_, _⟩ := be_1 BK409.out) | ((with_reducible refine gate_callee (f := 37) rfl ?_); refine goesL_ (some 16) rfl rfl Try.func37 (by kernel_rfl) rfl #[.agg #[.slice A0_0 l0_0.length c0_0]] rfl z18_2 ?_; (with_reducible refine (laws_toScene.calls k _ _ l0_0 t415 _ ?side1 ?side2 A9.out).mono ?_); (case side1 => exact z18_4); (case side2 => exact HC0_0.out); rintro e w23 ⟨v416, rfl, ho0, hb⟩; refine ⟨_, rfl, ?_⟩; have n0_ := Aside0.mk (Kd.S_elder' z18_6 (Kd.S_base ho0) hb); have n1_ := Aside0.mk (Kd.S_lower (Kd.S_new' ho0 (Kd.S_lt z18_6)) (below_size z18_0)); have n2_ := Aside0.mk (blk_belowB BK409 z18_1 hb); have n3_ := Aside0.mk (below_step z18_0 hb); clear HO413; clear BK409; clear HB; have HO413 := n0_; have HO417 := n1_; have BK409 := n2_; have HB := n3_; clear n0_ n1_ n2_ n3_; (try clear hb); (try clear hk); (try clear ho0)) | ((with_reducible refine gate_dst (N := 5) rfl ?_); refine boxz (cs := #[.slice none 0 0]) (t := 83) rfl ?_; intro gb418 hg w24 hbox hb; have n0_ := Aside0.mk (Kd.S_below z18_6 hb); have n1_ := Aside0.mk (Kd.S_below z18_7 hb); have n2_ := Aside0.mk (blk_belowB BK409 z18_1 hb); have n3_ := Aside0.mk (below_step z18_0 hb); have n4_ := Aside0.mk (hbox); have n5_ := Aside0.mk (ge_go (a := w.heap.size) hg (below_size z18_0)); have n6_ := Aside0.mk (ge_go (a := w.heap.size) hg (below_size z18_0)); have n7_ := Aside0.mk (nb_lt hg (blk_ltB BK409 z18_1)); have n8_ := Aside0.mk (nb_gt hg (blk_ltB BK409 z18_1)); clear HO413; clear HO417; clear BK409; clear HB; have HO413 := n0_; have HO417 := n1_; have BK409 := n2_; have HB := n3_; have BK418 := n4_; have GW418 := n5_; have GE418 := n6_; have NB409_418 := n7_; have NB418_409 := n8_; clear n0_ n1_ n2_ n3_ n4_ n5_ n6_ n7_ n8_; clear hb hbox hg; obtain ⟨Ao25, co25, eo25⟩ := Kd.S_slice HO417.out; subst eo25; have hnb26 := NB418_409.out; have hnc26 := NB409_418.out; obtain ⟨_, _⟩ := be_1 BK418.out) | ((with_reducible refine gate_callee (f := 49) rfl ?_); refine goesL_ (some 18) rfl rfl Try.func49 (by kernel_rfl) rfl #[.agg #[.slice Ao25 t415.length co25]] rfl z18_2 ?_; (with_reducible refine (impl_SceneOk.calls k _ _ t415 t419 _ ?side1 ?side2 A10.out).mono ?_); (case side1 => refine (Kd.S_reads' (e := 56) (base := w.heap.size) (ok := fun k_ => (True ∧ some k_ ≠ (.slice Ao20 t411.length co20 : Value).ownBlock)) (n := t415.length) (c := co25) ?_).2.2; exact z18_8); (case side2 => exact (Kd.S_reads' HO417.out).2.1); rintro e w28 ⟨rfl, hb⟩; refine ⟨_, rfl, ?_⟩; have n0_ := Aside0.mk (Kd.S_below (by (with_reducible repeat (first | apply Kd.S_alloc | apply Kd.S_drewN | apply Kd.S_drew)); exact (Kd.S_mono (Kd.S_far (p := ⟨gb418, 0, none⟩) (Kd.S_types HO413.out BK418.out (by decide)) (fun _ hk => hk.2) (.slice Ao25 t415.length co25)) (fun _ h_ => h_.1))) hb); have n1_ := Aside0.mk (Kd.S_below z18_8 hb); have n2_ := Aside0.mk (blk_belowB BK409 (by (with_reducible repeat (first | refine blk_drewN ?_ _ | refine blk_drew ?_ | refine blk_alloc ?_ _)); refine blk_far ?_ NB409_418.out _; (with_reducible repeat (first | refine blk_drewN ?_ _ | refine blk_drew ?_ | refine blk_alloc ?_ _)); exact BK409.out) hb); have n3_ := Aside0.mk (blk_below (g := gb418) (o := .cells #[.slice Ao25 t415.length co25] 83 (0, 0)) (by apply blk_fin; (focus ((with_reducible repeat (first | apply blk_putQ | refine blk_drewN ?_ _ | refine blk_drew ?_ | refine blk_alloc ?_ _)); exact BK418.out)); first | (simp only [List.setIfInBounds_toArray, List.set_cons_zero, List.set_cons_succ]; done) | rfl) hb); have n4_ := Aside0.mk (below_step z18_3 hb); clear HO413; clear HO417; clear BK409; clear BK418; clear HB; have HO413 := n0_; have HO417 := n1_; have BK409 := n2_; have BK418 := n3_; have HB := n4_; clear n0_ n1_ n2_ n3_ n4_; (try clear hb); (try clear hk)))
    have n0_ := Aside0.mk (Kd.S_drew HO413.out)
    have n1_ := Aside0.mk (Kd.S_drew HO417.out)
    have n2_ := Aside0.mk (blk_drew BK409.out)
    have n3_ := Aside0.mk (blk_drew BK418.out)
    have n4_ := Aside0.mk (below_drew1 HB.out)
    clear HO413; clear HO417; clear BK409; clear BK418; clear HB; have HO413 := n0_; have HO417 := n1_; have BK409 := n2_; have BK418 := n3_; have HB := n4_; clear n0_ n1_ n2_ n3_ n4_
    refine start_ (n := 5) (S := fun w' => w'.cell? ⟨gb418, 0, none⟩ = some (.slice Ao25 t415.length co25) ∧ w'.cell? ⟨gb409, 0, none⟩ = some (.slice A0_0 l0_0.length c0_0)) (ds := []) #[false, false, false, false, false] (by kernel_rfl) rfl rfl ⟨(blk_cell BK418.out 0).trans rfl, (blk_cell BK409.out 0).trans rfl⟩ (fun hHeld => ?_)
    generalize w28.drew = w29 at HO413 HO417 BK409 BK418 HB hHeld ⊢
    refine take_ (i := 0) (N := some 22) (v := ?_) (a' := ?_) #[true, false, false, false, false] rfl rfl (by kernel_rfl) (fun _ _ _ h => h) (Or.inl ⟨by rfl, ?_⟩) hHeld ?_ ?_
    rotate_left
    ·rintro w' ⟨s0, s1⟩
     go_simp; with_reducible rfl
    rotate_left
    ·simp only [Act.put, List.setIfInBounds_toArray, List.set_cons_zero, List.set_cons_succ, i64_w, i32_w]
     rfl
    refine take_ (i := 1) (N := some 23) (v := ?_) (a' := ?_) #[true, true, false, false, false] rfl rfl (by kernel_rfl) (fun _ _ _ h => h) (Or.inl ⟨by rfl, ?_⟩) hHeld ?_ ?_
    rotate_left
    ·rintro w' ⟨s0, s1⟩
     go_simp; with_reducible rfl
    rotate_left
    ·simp only [Act.put, List.setIfInBounds_toArray, List.set_cons_zero, List.set_cons_succ, i64_w, i32_w]
     rfl
    refine one_ (i := 2) (N := some 24) #[true, true, true, false, false] rfl rfl (by kernel_rfl) (by decide) (fun K hK => ?_)
    refine goes_ Try.func37 (by kernel_rfl) rfl #[.agg #[.slice A0_0 l0_0.length c0_0]] (by rfl) rfl rfl z18_2 ?_
    with_reducible refine (laws_toScene.calls k _ _ l0_0 t420 _ ?side1 ?side2 A12.out).mono ?_
    (case side1 => exact z18_4)
    (case side2 => exact HC0_0.out)
    rintro e w30 ⟨v421, rfl, ho0, hb⟩
    refine ⟨_, rfl, ?_⟩
    have n0_ := Aside0.mk (Kd.S_elder' z18_6 (Kd.S_base ho0) hb)
    have n1_ := Aside0.mk (Kd.S_elder' z18_7 (Kd.S_base ho0) hb)
    have n2_ := Aside0.mk (Kd.S_lower (Kd.S_new' (Kd.S_new' ho0 (Kd.S_lt z18_6)) (Kd.S_lt z18_7)) (below_size z18_3))
    have n3_ := Aside0.mk (blk_belowB BK409 z18_1 hb)
    have n4_ := Aside0.mk (blk_belowB BK418 z18_9 hb)
    have n5_ := Aside0.mk (below_step z18_3 hb)
    clear HO413; clear HO417; clear BK409; clear BK418; clear HB; have HO413 := n0_; have HO417 := n1_; have HO422 := n2_; have BK409 := n3_; have BK418 := n4_; have HB := n5_; clear n0_ n1_ n2_ n3_ n4_ n5_; (try clear hb); (try clear hb2); (try clear hk); (try clear hi); (try clear ho0)
    obtain ⟨Ao31, co31, eo31⟩ := Kd.S_slice HO422.out
    (first | subst eo31 | (injection eo31 with f1_ f2_ f3_; have f4_ := f1_.symm; have f5_ := f3_.symm; clear f1_ f2_ f3_; subst f4_; subst f5_))
    refine hK.out _ _ ⟨(blk_cell BK418.out 0).trans rfl, (blk_cell BK409.out 0).trans rfl⟩ (fun hHeld => ?_)
    clear hK K
    refine norm_ (a' := ?_) ?_ ?_
    rotate_left
    ·show Act.put _ (some 24) _ = _
     simp only [Act.put, List.setIfInBounds_toArray, List.set_cons_zero, List.set_cons_succ, i64_w, i32_w]
     rfl
    refine one_ (i := 3) (N := some 25) #[true, true, true, true, false] rfl rfl (by kernel_rfl) (by decide) (fun K hK => ?_)
    refine goes_ Try.func40 (by kernel_rfl) rfl #[.agg #[.slice Ao25 t415.length co25], .agg #[.slice Ao31 t420.length co31]] (by rfl) rfl rfl z18_2 ?_
    with_reducible refine (laws_eqScene.calls k _ _ t415 _ _ t420 true _ ?side1 ?side2 ?side3 ?side4 (by first | rfl | assumption) A13.out).mono ?_
    (case side1 => repeat (first | exact (Kd.S_reads' HO417.out).2.2 | (with_reducible refine Kd.C_alloc ?_ _) | (with_reducible refine Kd.C_drewN ?_ _) | (with_reducible refine Kd.C_drew ?_)))
    (case side2 => exact (Kd.S_reads' HO417.out).2.1)
    (case side3 => repeat (first | exact (Kd.S_reads' HO422.out).2.2 | (with_reducible refine Kd.C_alloc ?_ _) | (with_reducible refine Kd.C_drewN ?_ _) | (with_reducible refine Kd.C_drew ?_)))
    (case side4 => exact (Kd.S_reads' HO422.out).2.1)
    rintro e w32 ⟨rfl, hb⟩
    refine ⟨_, rfl, ?_⟩
    have n0_ := Aside0.mk (Kd.S_below z18_6 hb)
    have n1_ := Aside0.mk (Kd.S_below z18_7 hb)
    have n2_ := Aside0.mk (Kd.S_below (by (with_reducible repeat (first | apply Kd.S_alloc | apply Kd.S_drewN | apply Kd.S_drew)); exact HO422.out) hb)
    have n3_ := Aside0.mk (blk_belowB BK409 z18_1 hb)
    have n4_ := Aside0.mk (blk_belowB BK418 z18_9 hb)
    have n5_ := Aside0.mk (below_step z18_3 hb)
    clear HO413; clear HO417; clear HO422; clear BK409; clear BK418; clear HB; have HO413 := n0_; have HO417 := n1_; have HO422 := n2_; have BK409 := n3_; have BK418 := n4_; have HB := n5_; clear n0_ n1_ n2_ n3_ n4_ n5_; (try clear hb); (try clear hb2); (try clear hk); (try clear hi)
    refine hK.out _ _ ⟨(blk_cell BK418.out 0).trans rfl, (blk_cell BK409.out 0).trans rfl⟩ (fun hHeld => ?_)
    clear hK K
    refine norm_ (a' := ?_) ?_ ?_
    rotate_left
    ·show Act.put _ (some 25) _ = _
     simp only [Act.put, List.setIfInBounds_toArray, List.set_cons_zero, List.set_cons_succ, i64_w, i32_w]
     rfl
    refine pure_ (i := 4) (N := some 26) (v := ?_) (a' := ?_) #[true, true, true, true, true] rfl rfl (by kernel_rfl) (fun _ _ _ h => h) (Or.inl ⟨by rfl, ?_⟩) ?_ ?_; rotate_left
    ·intro w'
     go_simp; with_reducible rfl
    rotate_left
    ·simp only [Act.put, List.setIfInBounds_toArray, List.set_cons_zero, List.set_cons_succ, i64_w, i32_w]
     rfl
    refine done_ (by kernel_rfl) ?_
    try go_wp2
    go_ret
    exact ⟨(by first | rfl | (simp [errW_none, errW_some] <;> rfl) | (simp [*, errW_none, errW_some] <;> rfl)), z18_3⟩
   ·replace c14 := Bool.eq_false_iff.mpr c14
    subst c14
    have H1 : (some false) = some r := by rw [if_neg (show ¬ (false = true) by decide)] at H; exact H
    clear H; have H := H1; clear H1
    obtain rfl := Option.some.inj H
    exact absurd hT Bool.false_ne_true

end Go.Proofs.Ytghbenapnhcllaa.MFnExactSceneOk
