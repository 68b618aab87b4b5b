/- Functions of the program as Lean functions, and the proof that a call comes to just these: machine text of this session's own program (myprint.py). -/
import Derived.Test.YtjfienkbcacijaaMFnTreesx0
namespace Go.Proofs.Ytjfienkbcacijaa.MFnTrees
open Go.RowKit Go.Proofs.YtjfienkbcacijaaW.PrintWords Go.Proofs.YtjfienkbcacijaaW.PrintLast Go.Proofs.YtjfienkbcacijaaW.PrintMore
attribute [local go_sem] max2_int min2_int max_two min_two max_three min_three max_four min_four   -- for this text's walks alone
set_option linter.unusedVariables false
set_option linter.unusedSimpArgs false

theorem z3_0 {P : Prop} (h : P := by (with_reducible repeat (first | refine blk_drewN ?_ _ | refine blk_drew ?_ | refine blk_alloc ?_ _ | refine blk_far ?_ YZ.out _)); exact XF.out) : P := h
theorem z3_1 {P : Prop} (h : P := by (with_reducible repeat (first | apply Kd.R_alloc | apply Kd.R_drewN | apply Kd.R_drew)); exact Kd.R_mono (Kd.R_far (p := ⟨XE, 30, none⟩) (Kd.R_far (p := ⟨XE, 29, none⟩) (Kd.R_far (p := ⟨XE, 28, none⟩) (Kd.R_far (p := ⟨XE, 27, none⟩) (Kd.R_far (p := ⟨XE, 26, none⟩) (Kd.R_far (p := ⟨XE, 25, none⟩) (Kd.R_far (p := ⟨XE, 24, none⟩) (Kd.R_far (p := ⟨XE, 23, none⟩) (Kd.R_far (p := ⟨XE, 22, none⟩) (Kd.R_far (p := ⟨XE, 21, none⟩) (Kd.R_far (p := ⟨XE, 20, none⟩) (Kd.R_far (p := ⟨XE, 19, none⟩) (Kd.R_far (p := ⟨XE, 18, none⟩) (Kd.R_far (p := ⟨XE, 17, none⟩) (Kd.R_far (p := ⟨XE, 16, none⟩) (Kd.R_far (p := ⟨XE, 15, none⟩) (Kd.R_far (p := ⟨XE, 14, none⟩) (Kd.R_far (p := ⟨XE, 13, none⟩) (Kd.R_far (p := ⟨XE, 12, none⟩) (Kd.R_far (p := ⟨XE, 11, none⟩) (Kd.R_far (p := ⟨XE, 10, none⟩) (Kd.R_far (p := ⟨XE, 9, none⟩) (Kd.R_far (p := ⟨XE, 8, none⟩) (Kd.R_far (p := ⟨XE, 7, none⟩) (Kd.R_far (p := ⟨XE, 6, none⟩) (R_f6 (Kd.R_types Zb.out Yn.out (by decide)) (fun _ hk => hk.2)) (fun _ hk => hk.2) (.int .i64 ((rd_T69 l0_0 XD).f3.f3))) (fun _ hk => hk.2) (.int .i64 ((rd_T69 l0_0 XD).f3.f4))) (fun _ hk => hk.2) (.int .i64 ((rd_T69 l0_0 XD).f3.f5))) (fun _ hk => hk.2) (.slice ZQ ((rd_T69 l0_0 XD).f4.f0).length ZR)) (fun _ hk => hk.2) (.slice Zc ((rd_T69 l0_0 XD).f4.f1).length Zd)) (fun _ hk => hk.2) (.bool ((rd_T69 l0_0 XD).f5))) (fun _ hk => hk.2) (.int .i64 ((rd_T69 l0_0 XD).f6))) (fun _ hk => hk.2) (.slice Ze ((rd_T69 l0_0 XD).f7).length Zf)) (fun _ hk => hk.2) (.int .i64 ((rd_T69 l0_0 XD).f8.f0))) (fun _ hk => hk.2) (.int .i64 ((rd_T69 l0_0 XD).f8.f1.f0))) (fun _ hk => hk.2) (.int .i64 ((rd_T69 l0_0 XD).f8.f1.f1))) (fun _ hk => hk.2) (.int .i64 ((rd_T69 l0_0 XD).f8.f1.f2))) (fun _ hk => hk.2) (.int .i64 ((rd_T69 l0_0 XD).f8.f1.f3))) (fun _ hk => hk.2) (.int .i64 ((rd_T69 l0_0 XD).f8.f2.f0))) (fun _ hk => hk.2) (.int .i64 ((rd_T69 l0_0 XD).f8.f2.f1))) (fun _ hk => hk.2) (.int .i64 ((rd_T69 l0_0 XD).f8.f2.f2))) (fun _ hk => hk.2) (.int .i64 ((rd_T69 l0_0 XD).f8.f2.f3))) (fun _ hk => hk.2) (.int .i64 ((rd_T69 l0_0 XD).f8.f3.f0))) (fun _ hk => hk.2) (.int .i64 ((rd_T69 l0_0 XD).f8.f3.f1))) (fun _ hk => hk.2) (.int .i64 ((rd_T69 l0_0 XD).f8.f4.f0))) (fun _ hk => hk.2) (.int .i64 ((rd_T69 l0_0 XD).f8.f4.f1))) (fun _ hk => hk.2) (.int .i64 ((rd_T69 l0_0 XD).f9))) (fun _ hk => hk.2) (.int .i64 ((rd_T69 l0_0 XD).f10))) (fun _ hk => hk.2) (.slice Zg ((rd_T69 l0_0 XD).f11.f0).length Zh)) (fun _ hk => hk.2) (.slice Zi ((rd_T69 l0_0 XD).f11.f1).length Zj)) (fun _ hk => trivial)) : P := h
theorem z3_2 {P : Prop} (h : P := by repeat (first | (with_reducible first | exact HB.out | apply below_alloc | apply pw_below_drewN | apply below_drew1 | refine below_set ?_ JD.out) | exact HB.out)) : P := h
theorem z3_4 {P : Prop} (h : P := by repeat (first | (with_reducible first | exact HB.out | apply below_alloc | apply pw_below_drewN | apply below_drew1 | refine below_set ?_ JL.out) | exact HB.out)) : P := h
theorem z3_5 {P : Prop} (h : P := by (with_reducible repeat (first | refine blk_drewN ?_ _ | refine blk_drew ?_ | refine blk_alloc ?_ _)); with_reducible exact Yn.out) : P := h
theorem z3_6 {P : Prop} (h : P := by repeat (first | (with_reducible first | exact HB.out | apply below_alloc | apply pw_below_drewN | apply below_drew1 | refine below_set ?_ JD.out | refine below_set ?_ JE.out) | exact HB.out)) : P := h
theorem z3_7 {P : Prop} (h : P := by repeat (first | (with_reducible first | exact HB.out | apply below_alloc | apply pw_below_drewN | apply below_drew1 | refine below_set ?_ JM.out) | exact HB.out)) : P := h
/-! ### laws_big: function 9 -/
def laws_big.f (l0 : List Int) : Option (Bool) := some (decide ((l0.length : Int) > 1048576))
set_option maxHeartbeats 8000000 in
set_option maxRecDepth 100000 in
theorem laws_big.calls (A0 : Option Addr) (c0 : Nat) (l0 : List Int) (r : Bool) (w : World) (hr0 : Kd.C (Kd.int .u8) w A0 l0.length l0) (hc0 : l0.length ≤ c0) (h : laws_big.f l0 = some r) :
  Calls Try.prog 9 #[.slice A0 l0.length c0] w fun e w' => e = .returned (.bool r) ∧ Drawn0 w w' := by
 have HR0 := mk0 hr0; have HC0 := mk0 hc0; clear hr0 hc0
 have H : (some (decide ((l0.length : Int) > 1048576))) = some r := h
 clear h
 obtain rfl := Option.some.inj H
 simp only [Option.some.injEq, Prod.mk.injEq] at H; obtain ⟨rfl⟩ := H
 go_enter Try.func9, Try.ntmps9
 go_wp2
 go_ret
 exact ⟨rs0, (by repeat (first | exact Drawn0.refl _ | apply Drawn0.step))⟩

/-! ### impl_KidsOf: function 32 -/
def impl_KidsOf.l0 : Nat → Int → List Int → List (S69) → Int → Int → Option (List Int)
 | 0, _, _, _, _, _ => none
 | k + 1, x1, x5, x9, x10, x11 => if x11 < x10 then (if 0 ≤ x11 then (if x11 < (x9.length : Int) then (if ((rd_T69 x9 x11).f1) = x1 then (if x5.length < 17592186044416 then (impl_KidsOf.l0 k x1 (x5 ++ [(rd_T69 x9 x11).f0]) x9 x10 (wrap64 (x11 + 1))) else (none)) else (impl_KidsOf.l0 k x1 x5 x9 x10 (wrap64 (x11 + 1)))) else (none)) else (none)) else (some x5)
def impl_KidsOf.f (k : Nat) (l0_0 : List (S69)) (a1 : Int) : Option (List Int) := impl_KidsOf.l0 k a1 ([] : List Int) l0_0 (l0_0.length : Int) 0
theorem impl_KidsOf.mono_l : ∀ k, (∀ y0 y1 y2 y3 y4, LeO (impl_KidsOf.l0 k y0 y1 y2 y3 y4) (impl_KidsOf.l0 (k + 1) y0 y1 y2 y3 y4))
 | 0 => fun _ _ _ _ _ r h => by simp [impl_KidsOf.l0] at h
 | k + 1 => by
  have ih0 := impl_KidsOf.mono_l k
  ·intro y0 y1 y2 y3 y4
   unfold impl_KidsOf.l0
   with_reducible repeat' first | apply ih0 | exact LeO.refl _ | exact LeO.none _ | refine LeO.ite ?_ ?_ | refine LeO.bind ?_ (fun _ => ?_)
theorem impl_KidsOf.mono : ∀ a0 a1 k, LeO (impl_KidsOf.f k a0 a1) (impl_KidsOf.f (k + 1) a0 a1) := by
 intro a0 a1 k; have ih0 := impl_KidsOf.mono_l k
 unfold impl_KidsOf.f
 with_reducible repeat' first | apply ih0 | exact LeO.refl _ | exact LeO.none _ | refine LeO.ite ?_ ?_ | refine LeO.bind ?_ (fun _ => ?_)
set_option maxHeartbeats 8000000 in
set_option maxRecDepth 100000 in
theorem impl_KidsOf.calls (k : Nat) (Y0 : Option Addr) (YI : Nat) (l0_0 : List (S69)) (a1 : Int) (r : List Int) (w : World) (hr0_0 : Kd.C k69 w Y0 l0_0.length l0_0) (hc0_0 : l0_0.length ≤ YI) (h : impl_KidsOf.f k l0_0 a1 = some r) :
  Calls Try.prog 32 #[.agg #[.slice Y0 l0_0.length YI], .int .i64 a1] w fun e w' => ∃ v0_ : Value, e = .returned (v0_) ∧ Kd.R (Kd.int .i64) 3 w' w.heap.size (fun _ => True) v0_ r ∧ Below w.heap.size w w' := by
 have hu53 := Try.underlying53; have hu69 := Try.underlying69; have Xe := mk0 hr0_0; have ZW := mk0 hc0_0; clear hr0_0 hc0_0; have HB := mk0 (Below.refl w.heap.size w)
 have H : (impl_KidsOf.l0 k a1 ([] : List Int) l0_0 (l0_0.length : Int) 0) = some r := h
 clear h
 have H' := mk0 H
 clear H; go_enter Try.func32, Try.ntmps32
 go_wp2_with (first | ((with_reducible refine gate_dst (N := 2) rfl ?_); refine boxz (cs := #[.slice Y0 l0_0.length YI]) (t := 53) rfl ?_; intro JF hg w3 hbox hb; have JN := mk0 (ge_go (a := w.heap.size) hg (below_size q_162)); have JD := JN; replace HB := bS q_162 hb; have XF := mk0 (hbox); clear hb hbox hg; refine bc_1 XF.out ?_; intros))
 go_loopg [5, 11] k (fun kq v5 v11 w' => ∃ (XG : List Int) (XD : Int), v11 = .int .i64 XD ∧ Aside0 (impl_KidsOf.l0 kq a1 XG l0_0 (l0_0.length : Int) XD = some r) ∧ Aside0 (kq ≤ k) ∧ Aside0 (Kd.R (Kd.int .i64) 3 w' w.heap.size (fun _ => True) v5 XG) ∧ Aside0 (w'.heap[JF]? = some (.cells #[(.slice Y0 l0_0.length YI)] 53 (0, 0))) ∧ Aside0 (Below w.heap.size w w'))
 case atStart => exact ⟨(([] : List Int)), (0), rs0, H', ⟨Nat.le_refl _⟩, ⟨(by first | exact Kd.R_nil _ _ _ _ _ | exact Kd.N_nil _ _ _ _ _ | exact Kd.V_nil _ _ _ _ _ | exact Kd.Q_nil _ _ _ _ _ | exact Kd.S_nil _ _ _ _ _)⟩, ⟨pkb XF⟩, ⟨z3_2⟩⟩
 case round =>
  clear H'; obtain ⟨XG, XD, rfl, HA, HK1, Zb, XF, HB⟩ := hrel
  cases gk with
  | zero => exact absurd HA.out (by simp [impl_KidsOf.l0])
  | succ k1 =>
   have H := HA.out; clear HA; simp only [impl_KidsOf.l0] at H
   by_cases c5 : XD < (l0_0.length : Int)
   rotate_left
   ·rw [if_neg c5] at H; have c5b0 := decide_eq_false c5; clear c5
    obtain rfl := Option.some.inj H
    simp only [Option.some.injEq, Prod.mk.injEq] at H; obtain ⟨rfl⟩ := H
    go_wp2_with (first | ((with_reducible refine gate_load (t := 69) rfl ?_); refine load_blk (t := 69) rfl rfl Yn rfl z3_5 Try.underlying69 rfl (show (Try.prog.info? 69).map (·.size) = some 31 by kernel_rfl) rfl ?_) | ((with_reducible refine gate_store (t := 69) rfl ?_); refine wstore_blk (t := 69) rfl rfl Yn rfl rfl z3_5 rfl (show (Try.prog.info? 69).map (·.size) = some 31 by kernel_rfl) rfl ?_; simp only [World.setCells, Nat.reduceAdd]))
    go_ret
    exact ⟨_, q_94, (pkR Zb), z3_2⟩
   rw [if_pos c5] at H; have c5b0 := decide_eq_true c5; clear c5
   by_cases c6 : 0 ≤ XD
   rotate_left
   ·rw [if_neg c6] at H
    exact absurd H (by simp)
   rw [if_pos c6] at H; have c6b0 := decide_eq_true c6; clear c6
   by_cases c7 : XD < (l0_0.length : Int)
   rotate_left
   ·rw [if_neg c7] at H
    exact absurd H (by simp)
   rw [if_pos c7] at H; have c7b0 := decide_eq_true c7; clear c7
   by_cases c8 : ((rd_T69 l0_0 XD).f1) = a1
   rotate_left
   ·rw [if_neg c8] at H
    have c8b0 : (((rd_T69 l0_0 XD).f1) == a1) = false := beq_eq_false_iff_ne.mpr c8
    have c8b1 : (((rd_T69 l0_0 XD).f1) != a1) = true := bne_iff_ne.mpr c8
    have H' := mk0 H
    clear H
    have ZS : 0 ≤ (XD : Int) := of_decide_eq_true (by first | (with_reducible assumption) | assumption)
    have ZT : XD < (l0_0.length : Int) := of_decide_eq_true (by first | (with_reducible assumption) | assumption)
    obtain ⟨JG, ZQ, ZR, Zc, Zd, Ze, Zf, Zg, Zh, Zi, Zj, e102, Yo, Yp, Yq, Yr, Ys, Yt, Yu, Yv, Yw, Yx, XH, XI, XJ, XK, XL, XM, XN, XO, XP, XQ, XR, XS, XT, XU, XV, XW, XX, XY, XZ, X0, X1, Y2, Y3, YJ, YK, YL, YM, YN, YO, YP, YQ⟩ := at_T69 Xe.out XD ZS ZT; have Zl := lie_zero Yo (lie_n Yp (lie_n Yq (lie_n Yr (lie_n Ys (lie_n Yt (lie_n Yu (lie_n Yv (lie_n Yw (lie_n Yx (lie_n XH (lie_n XI (lie_n XJ (lie_n XK (lie_n XL (lie_n XM (lie_n XN (lie_n XO (lie_n XP (lie_n XQ (lie_n XR (lie_n XS (lie_n XT (lie_n XU (lie_n XV (lie_n XW (lie_n XX (lie_n XY (lie_n XZ (lie_n X0 (lie_n X1 (lie_nil _ _ _)))))))))))))))))))))))))))))))
    cases e102
    replace Yo := cell_go HB Yo; replace Yp := cell_go HB Yp; replace Yq := cell_go HB Yq; replace Yr := cell_go HB Yr; replace Ys := cell_go HB Ys; replace Yt := cell_go HB Yt; replace Yu := cell_go HB Yu; replace Yv := cell_go HB Yv; replace Yw := cell_go HB Yw; replace Yx := cell_go HB Yx; replace XH := cell_go HB XH; replace XI := cell_go HB XI; replace XJ := cell_go HB XJ; replace XK := cell_go HB XK; replace XL := cell_go HB XL; replace XM := cell_go HB XM; replace XN := cell_go HB XN; replace XO := cell_go HB XO; replace XP := cell_go HB XP; replace XQ := cell_go HB XQ; replace XR := cell_go HB XR; replace XS := cell_go HB XS; replace XT := cell_go HB XT; replace XU := cell_go HB XU; replace XV := cell_go HB XV; replace XW := cell_go HB XW; replace XX := cell_go HB XX; replace XY := cell_go HB XY; replace XZ := cell_go HB XZ; replace X0 := cell_go HB X0; replace X1 := cell_go HB X1; have Jr := mk0 Y3; have Js := mk0 Y2; clear Y3 Y2; have Z9 := mk0 YK; have Ja := mk0 YJ; clear YK YJ; have Jb := mk0 YM; have Jc := mk0 YL; clear YM YL; have Jd := mk0 YO; have Je := mk0 YN; clear YO YN; have Jf := mk0 YQ; have Jg := mk0 YP; clear YQ YP; replace ZS := eq_true ZS; replace ZT := eq_true ZT
    go_wp2_with (first | ((with_reducible refine gate_load (t := 69) rfl ?_); refine load_lie (t := 69) rfl rfl Zl HB (by with_reducible rfl) rfl Try.underlying69 rfl (show (Try.prog.info? 69).map (·.size) = some 31 by kernel_rfl) rfl ?_) | ((with_reducible refine gate_load (t := 69) rfl ?_); refine load_lie0 (t := 69) rfl rfl Zl (by with_reducible rfl) rfl Try.underlying69 rfl (show (Try.prog.info? 69).map (·.size) = some 31 by kernel_rfl) rfl ?_) | ((with_reducible refine gate_dst (N := 7) rfl ?_); refine boxz (cs := #[.int .i64 0, .int .i64 0, .bool false, .int .i64 0, .int .i64 0, .int .i64 0, .int .i64 0, .int .i64 0, .int .i64 0, .slice none 0 0, .slice none 0 0, .bool false, .int .i64 0, .slice none 0 0, .int .i64 0, .int .i64 0, .int .i64 0, .int .i64 0, .int .i64 0, .int .i64 0, .int .i64 0, .int .i64 0, .int .i64 0, .int .i64 0, .int .i64 0, .int .i64 0, .int .i64 0, .int .i64 0, .int .i64 0, .slice none 0 0, .slice none 0 0]) (t := 69) rfl ?_; intro XE hg w14 hbox hb; have Jh := mk0 (ge_go (a := w.heap.size) hg (below_size z3_2)); have JE := Jh; have YZ := mk0 (nb_lt hg (blk_ltB XF (pkb XF))); have Y7 := mk0 (nb_gt hg (blk_ltB XF (pkb XF))); replace Zb := bR Zb hb; replace XF := bB XF hb; replace HB := bS z3_2 hb; have Yn := mk0 (hbox); clear hb hbox hg; have Ug := Y7.out; have Uh := YZ.out; refine bc_31 Yn.out ?_; intros) | ((with_reducible refine gate_load (t := 69) rfl ?_); refine load_blk (t := 69) rfl rfl Yn rfl z3_5 Try.underlying69 rfl (show (Try.prog.info? 69).map (·.size) = some 31 by kernel_rfl) rfl ?_) | ((with_reducible refine gate_store (t := 69) rfl ?_); refine wstore_blk (t := 69) rfl rfl Yn rfl rfl z3_5 rfl (show (Try.prog.info? 69).map (·.size) = some 31 by kernel_rfl) rfl ?_; simp only [World.setCells, Nat.reduceAdd]))
    go_roundg k1
    case measure => have := HK1.out; omega
    case rel => exact ⟨(XG), (wrap64 (XD + 1)), rs0, H', ⟨(by have := HK1.out; omega)⟩, ⟨z3_1⟩, ⟨z3_0⟩, ⟨z3_6⟩⟩
   rw [if_pos c8] at H
   have c8b0 : (((rd_T69 l0_0 XD).f1) == a1) = true := beq_iff_eq.mpr c8
   have c8b1 : (((rd_T69 l0_0 XD).f1) != a1) = false := bne_eq_false_iff_eq.mpr c8
   clear c8
   by_cases c9 : XG.length < 17592186044416
   rotate_left
   ·rw [if_neg c9] at H
    exact absurd H (by simp)
   rw [if_pos c9] at H; have LMc9 := mk0 c9; clear c9
   obtain ⟨JO, hy_⟩ : ∃ y_ : List Int, y_ = (XG ++ [(rd_T69 l0_0 XD).f0]) := ⟨_, rfl⟩
   replace H : (impl_KidsOf.l0 k1 a1 JO l0_0 (l0_0.length : Int) (wrap64 (XD + 1))) = some r := (by first | (rw [hy_]; with_reducible exact H) | (have H2_ := (Option.bind_some _ _).symm.trans H; rw [hy_]; with_reducible exact H2_) | (have H2_ := (Option.bind_some _ _).symm.trans H; with_reducible exact H2_) | with_reducible exact H | (rw [hy_]; exact H) | exact H)
   have JP := mk0 hy_; clear hy_
   have H' := mk0 H
   clear H
   have ZS : 0 ≤ (XD : Int) := of_decide_eq_true (by first | (with_reducible assumption) | assumption)
   have ZT : XD < (l0_0.length : Int) := of_decide_eq_true (by first | (with_reducible assumption) | assumption)
   obtain ⟨JG, ZQ, ZR, Zc, Zd, Ze, Zf, Zg, Zh, Zi, Zj, e102, Yo, Yp, Yq, Yr, Ys, Yt, Yu, Yv, Yw, Yx, XH, XI, XJ, XK, XL, XM, XN, XO, XP, XQ, XR, XS, XT, XU, XV, XW, XX, XY, XZ, X0, X1, Y2, Y3, YJ, YK, YL, YM, YN, YO, YP, YQ⟩ := at_T69 Xe.out XD ZS ZT; have Zl := lie_zero Yo (lie_n Yp (lie_n Yq (lie_n Yr (lie_n Ys (lie_n Yt (lie_n Yu (lie_n Yv (lie_n Yw (lie_n Yx (lie_n XH (lie_n XI (lie_n XJ (lie_n XK (lie_n XL (lie_n XM (lie_n XN (lie_n XO (lie_n XP (lie_n XQ (lie_n XR (lie_n XS (lie_n XT (lie_n XU (lie_n XV (lie_n XW (lie_n XX (lie_n XY (lie_n XZ (lie_n X0 (lie_n X1 (lie_nil _ _ _)))))))))))))))))))))))))))))))
   cases e102
   replace Yo := cell_go HB Yo; replace Yp := cell_go HB Yp; replace Yq := cell_go HB Yq; replace Yr := cell_go HB Yr; replace Ys := cell_go HB Ys; replace Yt := cell_go HB Yt; replace Yu := cell_go HB Yu; replace Yv := cell_go HB Yv; replace Yw := cell_go HB Yw; replace Yx := cell_go HB Yx; replace XH := cell_go HB XH; replace XI := cell_go HB XI; replace XJ := cell_go HB XJ; replace XK := cell_go HB XK; replace XL := cell_go HB XL; replace XM := cell_go HB XM; replace XN := cell_go HB XN; replace XO := cell_go HB XO; replace XP := cell_go HB XP; replace XQ := cell_go HB XQ; replace XR := cell_go HB XR; replace XS := cell_go HB XS; replace XT := cell_go HB XT; replace XU := cell_go HB XU; replace XV := cell_go HB XV; replace XW := cell_go HB XW; replace XX := cell_go HB XX; replace XY := cell_go HB XY; replace XZ := cell_go HB XZ; replace X0 := cell_go HB X0; replace X1 := cell_go HB X1; have Jr := mk0 Y3; have Js := mk0 Y2; clear Y3 Y2; have Z9 := mk0 YK; have Ja := mk0 YJ; clear YK YJ; have Jb := mk0 YM; have Jc := mk0 YL; clear YM YL; have Jd := mk0 YO; have Je := mk0 YN; clear YO YN; have Jf := mk0 YQ; have Jg := mk0 YP; clear YQ YP; replace ZS := eq_true ZS; replace ZT := eq_true ZT
   go_wp2_with (first | ((with_reducible refine gate_load (t := 69) rfl ?_); refine load_lie (t := 69) rfl rfl Zl HB (by with_reducible rfl) rfl Try.underlying69 rfl (show (Try.prog.info? 69).map (·.size) = some 31 by kernel_rfl) rfl ?_) | ((with_reducible refine gate_load (t := 69) rfl ?_); refine load_lie0 (t := 69) rfl rfl Zl (by with_reducible rfl) rfl Try.underlying69 rfl (show (Try.prog.info? 69).map (·.size) = some 31 by kernel_rfl) rfl ?_) | ((with_reducible refine gate_dst (N := 7) rfl ?_); refine boxz (cs := #[.int .i64 0, .int .i64 0, .bool false, .int .i64 0, .int .i64 0, .int .i64 0, .int .i64 0, .int .i64 0, .int .i64 0, .slice none 0 0, .slice none 0 0, .bool false, .int .i64 0, .slice none 0 0, .int .i64 0, .int .i64 0, .int .i64 0, .int .i64 0, .int .i64 0, .int .i64 0, .int .i64 0, .int .i64 0, .int .i64 0, .int .i64 0, .int .i64 0, .int .i64 0, .int .i64 0, .int .i64 0, .int .i64 0, .slice none 0 0, .slice none 0 0]) (t := 69) rfl ?_; intro XE hg w10 hbox hb; have Jh := mk0 (ge_go (a := w.heap.size) hg (below_size z3_2)); have JE := Jh; have YZ := mk0 (nb_lt hg (blk_ltB XF (pkb XF))); have Y7 := mk0 (nb_gt hg (blk_ltB XF (pkb XF))); replace Zb := bR Zb hb; replace XF := bB XF hb; replace HB := bS z3_2 hb; have Yn := mk0 (hbox); clear hb hbox hg; have Ui := Y7.out; have Uj := YZ.out; refine bc_31 Yn.out ?_; intros) | ((with_reducible refine gate_builtin (b := .append) (xs := #[.tmp 19, .tmp 22]) rfl ?_); at_builtin; refine Kd.R_append (Kd.int .i64) (w0 := w) w.heap.size rfl (.tmp 19) (.tmp 22) 24 3 (.int .i64 0) 8 rfl Try.underlying24 info3 rfl (by decide) (by omega) u5 XG ((rd_T69 l0_0 XD).f0) [.int .i64 ((rd_T69 l0_0 XD).f0)] (fun _ => True) (fun _ => False) rfl (by first | (go_simp; done) | (go_simp; rfl)) ?aP (fun _ hk => hk.elim) ?aF ?aO ?aB ?aS ?aL ?_; (case aP => exact rfl); (case aB => exact z3_6); (case aF => exact (fun _ _ => trivial)); (case aO => exact z3_1); (case aS => exact (below_size z3_6)); (case aL => have := LMc9.out; omega); intro v105 w13 ho hb hg hat; rw [← JP.out] at ho; replace XF := mk0 (blk_grown (g := JF) (o := .cells #[.slice (some JG) l0_0.length YI] 53 (0, 0)) z3_0 hg (Kd.R_ne Zb.out XF.out (by decide))); replace Yn := mk0 (blk_grown (g := XE) (o := .cells #[.int .i64 ((rd_T69 l0_0 XD).f0), .int .i64 ((rd_T69 l0_0 XD).f1), .bool ((rd_T69 l0_0 XD).f2), .int .i64 ((rd_T69 l0_0 XD).f3.f0), .int .i64 ((rd_T69 l0_0 XD).f3.f1), .int .i64 ((rd_T69 l0_0 XD).f3.f2), .int .i64 ((rd_T69 l0_0 XD).f3.f3), .int .i64 ((rd_T69 l0_0 XD).f3.f4), .int .i64 ((rd_T69 l0_0 XD).f3.f5), .slice ZQ ((rd_T69 l0_0 XD).f4.f0).length ZR, .slice Zc ((rd_T69 l0_0 XD).f4.f1).length Zd, .bool ((rd_T69 l0_0 XD).f5), .int .i64 ((rd_T69 l0_0 XD).f6), .slice Ze ((rd_T69 l0_0 XD).f7).length Zf, .int .i64 ((rd_T69 l0_0 XD).f8.f0), .int .i64 ((rd_T69 l0_0 XD).f8.f1.f0), .int .i64 ((rd_T69 l0_0 XD).f8.f1.f1), .int .i64 ((rd_T69 l0_0 XD).f8.f1.f2), .int .i64 ((rd_T69 l0_0 XD).f8.f1.f3), .int .i64 ((rd_T69 l0_0 XD).f8.f2.f0), .int .i64 ((rd_T69 l0_0 XD).f8.f2.f1), .int .i64 ((rd_T69 l0_0 XD).f8.f2.f2), .int .i64 ((rd_T69 l0_0 XD).f8.f2.f3), .int .i64 ((rd_T69 l0_0 XD).f8.f3.f0), .int .i64 ((rd_T69 l0_0 XD).f8.f3.f1), .int .i64 ((rd_T69 l0_0 XD).f8.f4.f0), .int .i64 ((rd_T69 l0_0 XD).f8.f4.f1), .int .i64 ((rd_T69 l0_0 XD).f9), .int .i64 ((rd_T69 l0_0 XD).f10), .slice Zg ((rd_T69 l0_0 XD).f11.f0).length Zh, .slice Zi ((rd_T69 l0_0 XD).f11.f1).length Zj] 69 (0, 0)) (by apply blk_fin; (focus ((with_reducible repeat (first | apply blk_putQ | refine blk_drewN ?_ _ | refine blk_drew ?_ | refine blk_alloc ?_ _)); exact Yn.out)); first | (simp only [List.setIfInBounds_toArray, List.set_cons_zero, List.set_cons_succ]; done) | rfl) hg (Kd.R_ne Zb.out Yn.out (by decide))); replace HB := mk0 (hb); have JQ := mk0 (ho); clear Zb ho hb hg hat) | ((with_reducible refine gate_load (t := 69) rfl ?_); refine load_blk (t := 69) rfl rfl Yn rfl z3_5 Try.underlying69 rfl (show (Try.prog.info? 69).map (·.size) = some 31 by kernel_rfl) rfl ?_) | ((with_reducible refine gate_store (t := 69) rfl ?_); refine wstore_blk (t := 69) rfl rfl Yn rfl rfl z3_5 rfl (show (Try.prog.info? 69).map (·.size) = some 31 by kernel_rfl) rfl ?_; simp only [World.setCells, Nat.reduceAdd]))
   go_roundg k1
   case measure => have := HK1.out; omega
   case rel => exact ⟨(JO), (wrap64 (XD + 1)), rs0, H', ⟨(by have := HK1.out; omega)⟩, ⟨pkR JQ⟩, ⟨pkb XF⟩, ⟨z3_6⟩⟩

/-! ### spec_NodeAt: function 70 -/
def spec_NodeAt.l0 : Nat → Int → Int → List (S69) → Option (Int)
 | 0, _, _, _ => none
 | k + 1, x1, x5, Zk => if x5 < (Zk.length : Int) then (if 0 ≤ x5 then (if ((rd_T69 Zk x5).f0) = x1 then (some x5) else (spec_NodeAt.l0 k x1 (wrap64 (x5 + 1)) Zk)) else (none)) else (some (-1))
def spec_NodeAt.f (k : Nat) (l0_0 : List (S69)) (a1 : Int) : Option (Int) := spec_NodeAt.l0 k a1 0 l0_0
theorem spec_NodeAt.mono_l : ∀ k, (∀ y0 y1 y2, LeO (spec_NodeAt.l0 k y0 y1 y2) (spec_NodeAt.l0 (k + 1) y0 y1 y2))
 | 0 => fun _ _ _ r h => by simp [spec_NodeAt.l0] at h
 | k + 1 => by
  have ih0 := spec_NodeAt.mono_l k
  ·intro y0 y1 y2
   unfold spec_NodeAt.l0
   with_reducible repeat' first | apply ih0 | exact LeO.refl _ | exact LeO.none _ | refine LeO.ite ?_ ?_ | refine LeO.bind ?_ (fun _ => ?_)
theorem spec_NodeAt.mono : ∀ a0 a1 k, LeO (spec_NodeAt.f k a0 a1) (spec_NodeAt.f (k + 1) a0 a1) := by
 intro a0 a1 k; have ih0 := spec_NodeAt.mono_l k
 unfold spec_NodeAt.f
 with_reducible repeat' first | apply ih0 | exact LeO.refl _ | exact LeO.none _ | refine LeO.ite ?_ ?_ | refine LeO.bind ?_ (fun _ => ?_)
set_option maxHeartbeats 8000000 in
set_option maxRecDepth 100000 in
theorem spec_NodeAt.calls (k : Nat) (Y0 : Option Addr) (YI : Nat) (l0_0 : List (S69)) (a1 : Int) (r : Int) (w : World) (hr0_0 : Kd.C k69 w Y0 l0_0.length l0_0) (hc0_0 : l0_0.length ≤ YI) (h : spec_NodeAt.f k l0_0 a1 = some r) :
  Calls Try.prog 70 #[.agg #[.slice Y0 l0_0.length YI], .int .i64 a1] w fun e w' => e = .returned (.int .i64 r) ∧ Below w.heap.size w w' := by
 have hu53 := Try.underlying53; have Xe := mk0 hr0_0; have ZW := mk0 hc0_0; clear hr0_0 hc0_0; have HB := mk0 (Below.refl w.heap.size w)
 have H : (spec_NodeAt.l0 k a1 0 l0_0) = some r := h
 clear h
 have H' := mk0 H
 clear H; go_enter Try.func70, Try.ntmps70
 go_wp2_with (first | ((with_reducible refine gate_dst (N := 2) rfl ?_); refine boxz (cs := #[.slice Y0 l0_0.length YI]) (t := 53) rfl ?_; intro JR hg w3 hbox hb; have JS := mk0 (ge_go (a := w.heap.size) hg (below_size q_162)); have JM := JS; replace HB := bS q_162 hb; have Za := mk0 (hbox); clear hb hbox hg))
 go_loopg [5] k (fun kq v5 w' => ∃ (XG : Int), v5 = .int .i64 XG ∧ Aside0 (spec_NodeAt.l0 kq a1 XG l0_0 = some r) ∧ Aside0 (kq ≤ k) ∧ Aside0 (w'.heap[JR]? = some (.cells #[(.slice Y0 l0_0.length YI)] 53 (0, 0))) ∧ Aside0 (Below w.heap.size w w'))
 case atStart => exact ⟨(0), rs0, H', ⟨Nat.le_refl _⟩, ⟨pkb Za⟩, ⟨z3_7⟩⟩
 case round =>
  clear H'; obtain ⟨XG, rfl, HA, HK1, Za, HB⟩ := hrel
  cases gk with
  | zero => exact absurd HA.out (by simp [spec_NodeAt.l0])
  | succ k1 =>
   have H := HA.out; clear HA; simp only [spec_NodeAt.l0] at H
   by_cases c4 : XG < (l0_0.length : Int)
   rotate_left
   ·rw [if_neg c4] at H; have c4b0 := decide_eq_false c4; clear c4
    obtain rfl := Option.some.inj H
    simp only [Option.some.injEq, Prod.mk.injEq] at H; obtain ⟨rfl⟩ := H
    refine bc_1 Za.out ?_; intros
    go_wp2
    go_ret
    exact ⟨q_94, z3_7⟩
   rw [if_pos c4] at H; have c4b0 := decide_eq_true c4; clear c4
   by_cases c5 : 0 ≤ XG
   rotate_left
   ·rw [if_neg c5] at H
    exact absurd H (by simp)
   rw [if_pos c5] at H; have c5b0 := decide_eq_true c5; clear c5
   by_cases c6 : ((rd_T69 l0_0 XG).f0) = a1
   ·rw [if_pos c6] at H
    have c6b0 : (((rd_T69 l0_0 XG).f0) == a1) = true := beq_iff_eq.mpr c6
    have c6b1 : (((rd_T69 l0_0 XG).f0) != a1) = false := bne_eq_false_iff_eq.mpr c6
    clear c6
    obtain rfl := Option.some.inj H
    simp only [Option.some.injEq, Prod.mk.injEq] at H; obtain ⟨rfl⟩ := H
    refine bc_1 Za.out ?_; intros
    have ZU : 0 ≤ (XG : Int) := of_decide_eq_true (by first | (with_reducible assumption) | assumption)
    have ZV : XG < (l0_0.length : Int) := of_decide_eq_true (by first | (with_reducible assumption) | assumption)
    obtain ⟨JT, JH, JI, Jt, Ju, Jv, Jw, Jx, Jy, Jz, JA, e108, Yy, Yz, YA, YB, YC, YD, YE, YF, YG, YH, X2, X3, X4, X5, X6, X7, X8, X9, Ya, Yb, Yc, Yd, Ye, Yf, Yg, Yh, Yi, Yj, Yk, Yl, Ym, Y4, Y5, YR, YS, YT, YU, YV, YW, YX, YY⟩ := at_T69 Xe.out XG ZU ZV; have Zm := lie_zero Yy (lie_n Yz (lie_n YA (lie_n YB (lie_n YC (lie_n YD (lie_n YE (lie_n YF (lie_n YG (lie_n YH (lie_n X2 (lie_n X3 (lie_n X4 (lie_n X5 (lie_n X6 (lie_n X7 (lie_n X8 (lie_n X9 (lie_n Ya (lie_n Yb (lie_n Yc (lie_n Yd (lie_n Ye (lie_n Yf (lie_n Yg (lie_n Yh (lie_n Yi (lie_n Yj (lie_n Yk (lie_n Yl (lie_n Ym (lie_nil _ _ _)))))))))))))))))))))))))))))))
    cases e108
    replace Yy := cell_go HB Yy; replace Yz := cell_go HB Yz; replace YA := cell_go HB YA; replace YB := cell_go HB YB; replace YC := cell_go HB YC; replace YD := cell_go HB YD; replace YE := cell_go HB YE; replace YF := cell_go HB YF; replace YG := cell_go HB YG; replace YH := cell_go HB YH; replace X2 := cell_go HB X2; replace X3 := cell_go HB X3; replace X4 := cell_go HB X4; replace X5 := cell_go HB X5; replace X6 := cell_go HB X6; replace X7 := cell_go HB X7; replace X8 := cell_go HB X8; replace X9 := cell_go HB X9; replace Ya := cell_go HB Ya; replace Yb := cell_go HB Yb; replace Yc := cell_go HB Yc; replace Yd := cell_go HB Yd; replace Ye := cell_go HB Ye; replace Yf := cell_go HB Yf; replace Yg := cell_go HB Yg; replace Yh := cell_go HB Yh; replace Yi := cell_go HB Yi; replace Yj := cell_go HB Yj; replace Yk := cell_go HB Yk; replace Yl := cell_go HB Yl; replace Ym := cell_go HB Ym; have JB := mk0 Y5; have JC := mk0 Y4; clear Y5 Y4; have Ji := mk0 YS; have Jj := mk0 YR; clear YS YR; have Jk := mk0 YU; have Jl := mk0 YT; clear YU YT; have Jm := mk0 YW; have Jn := mk0 YV; clear YW YV; have Jo := mk0 YY; have Jp := mk0 YX; clear YY YX; replace ZU := eq_true ZU; replace ZV := eq_true ZV
    go_wp2_with (first | ((with_reducible refine gate_load (t := 69) rfl ?_); refine load_lie (t := 69) rfl rfl Zm HB (by with_reducible rfl) rfl Try.underlying69 rfl (show (Try.prog.info? 69).map (·.size) = some 31 by kernel_rfl) rfl ?_) | ((with_reducible refine gate_load (t := 69) rfl ?_); refine load_lie0 (t := 69) rfl rfl Zm (by with_reducible rfl) rfl Try.underlying69 rfl (show (Try.prog.info? 69).map (·.size) = some 31 by kernel_rfl) rfl ?_))
    go_ret
    exact ⟨q_94, z3_7⟩
   rw [if_neg c6] at H
   have c6b0 : (((rd_T69 l0_0 XG).f0) == a1) = false := beq_eq_false_iff_ne.mpr c6
   have c6b1 : (((rd_T69 l0_0 XG).f0) != a1) = true := bne_iff_ne.mpr c6
   have H' := mk0 H
   clear H; refine bc_1 Za.out ?_; intros
   have ZU : 0 ≤ (XG : Int) := of_decide_eq_true (by first | (with_reducible assumption) | assumption)
   have ZV : XG < (l0_0.length : Int) := of_decide_eq_true (by first | (with_reducible assumption) | assumption)
   obtain ⟨JT, JH, JI, Jt, Ju, Jv, Jw, Jx, Jy, Jz, JA, e108, Yy, Yz, YA, YB, YC, YD, YE, YF, YG, YH, X2, X3, X4, X5, X6, X7, X8, X9, Ya, Yb, Yc, Yd, Ye, Yf, Yg, Yh, Yi, Yj, Yk, Yl, Ym, Y4, Y5, YR, YS, YT, YU, YV, YW, YX, YY⟩ := at_T69 Xe.out XG ZU ZV; have Zm := lie_zero Yy (lie_n Yz (lie_n YA (lie_n YB (lie_n YC (lie_n YD (lie_n YE (lie_n YF (lie_n YG (lie_n YH (lie_n X2 (lie_n X3 (lie_n X4 (lie_n X5 (lie_n X6 (lie_n X7 (lie_n X8 (lie_n X9 (lie_n Ya (lie_n Yb (lie_n Yc (lie_n Yd (lie_n Ye (lie_n Yf (lie_n Yg (lie_n Yh (lie_n Yi (lie_n Yj (lie_n Yk (lie_n Yl (lie_n Ym (lie_nil _ _ _)))))))))))))))))))))))))))))))
   cases e108
   replace Yy := cell_go HB Yy; replace Yz := cell_go HB Yz; replace YA := cell_go HB YA; replace YB := cell_go HB YB; replace YC := cell_go HB YC; replace YD := cell_go HB YD; replace YE := cell_go HB YE; replace YF := cell_go HB YF; replace YG := cell_go HB YG; replace YH := cell_go HB YH; replace X2 := cell_go HB X2; replace X3 := cell_go HB X3; replace X4 := cell_go HB X4; replace X5 := cell_go HB X5; replace X6 := cell_go HB X6; replace X7 := cell_go HB X7; replace X8 := cell_go HB X8; replace X9 := cell_go HB X9; replace Ya := cell_go HB Ya; replace Yb := cell_go HB Yb; replace Yc := cell_go HB Yc; replace Yd := cell_go HB Yd; replace Ye := cell_go HB Ye; replace Yf := cell_go HB Yf; replace Yg := cell_go HB Yg; replace Yh := cell_go HB Yh; replace Yi := cell_go HB Yi; replace Yj := cell_go HB Yj; replace Yk := cell_go HB Yk; replace Yl := cell_go HB Yl; replace Ym := cell_go HB Ym; have JB := mk0 Y5; have JC := mk0 Y4; clear Y5 Y4; have Ji := mk0 YS; have Jj := mk0 YR; clear YS YR; have Jk := mk0 YU; have Jl := mk0 YT; clear YU YT; have Jm := mk0 YW; have Jn := mk0 YV; clear YW YV; have Jo := mk0 YY; have Jp := mk0 YX; clear YY YX; replace ZU := eq_true ZU; replace ZV := eq_true ZV
   go_wp2_with (first | ((with_reducible refine gate_load (t := 69) rfl ?_); refine load_lie (t := 69) rfl rfl Zm HB (by with_reducible rfl) rfl Try.underlying69 rfl (show (Try.prog.info? 69).map (·.size) = some 31 by kernel_rfl) rfl ?_) | ((with_reducible refine gate_load (t := 69) rfl ?_); refine load_lie0 (t := 69) rfl rfl Zm (by with_reducible rfl) rfl Try.underlying69 rfl (show (Try.prog.info? 69).map (·.size) = some 31 by kernel_rfl) rfl ?_))
   go_roundg k1
   case measure => have := HK1.out; omega
   case rel => exact ⟨(wrap64 (XG + 1)), rs0, H', ⟨(by have := HK1.out; omega)⟩, ⟨pkb Za⟩, ⟨z3_7⟩⟩

/-! ### spec_l15Under: function 71 -/
def spec_l15Under.l0 : Nat → Int → Int → Int → List (S69) → Option (Bool)
 | 0, _, _, _, _ => none
 | k + 1, x1, x2, x7, Y9 => if x7 ≤ 8 then (if x1 = x2 then (some true) else ((spec_NodeAt.f k Y9 x1).bind fun Y6 => (if Y6 < 0 then (some false) else (if 0 ≤ Y6 then (if Y6 < (Y9.length : Int) then (spec_l15Under.l0 k ((rd_T69 Y9 Y6).f1) x2 (wrap64 (x7 + 1)) Y9) else (none)) else (none))))) else (some false)
def spec_l15Under.f (k : Nat) (l0_0 : List (S69)) (a1 : Int) (a2 : Int) : Option (Bool) := spec_l15Under.l0 k a1 a2 0 l0_0
theorem spec_l15Under.mono_l : ∀ k, (∀ y0 y1 y2 y3, LeO (spec_l15Under.l0 k y0 y1 y2 y3) (spec_l15Under.l0 (k + 1) y0 y1 y2 y3))
 | 0 => fun _ _ _ _ r h => by simp [spec_l15Under.l0] at h
 | k + 1 => by
  have ih0 := spec_l15Under.mono_l k
  ·intro y0 y1 y2 y3
   unfold spec_l15Under.l0
   with_reducible repeat' first | apply ih0 | apply spec_NodeAt.mono | exact LeO.refl _ | exact LeO.none _ | refine LeO.ite ?_ ?_ | refine LeO.bind ?_ (fun _ => ?_)
theorem spec_l15Under.mono : ∀ a0 a1 a2 k, LeO (spec_l15Under.f k a0 a1 a2) (spec_l15Under.f (k + 1) a0 a1 a2) := by
 intro a0 a1 a2 k; have ih0 := spec_l15Under.mono_l k
 unfold spec_l15Under.f
 with_reducible repeat' first | apply ih0 | apply spec_NodeAt.mono | exact LeO.refl _ | exact LeO.none _ | refine LeO.ite ?_ ?_ | refine LeO.bind ?_ (fun _ => ?_)
set_option maxHeartbeats 8000000 in
set_option maxRecDepth 100000 in
theorem spec_l15Under.calls (k : Nat) (Y0 : Option Addr) (YI : Nat) (l0_0 : List (S69)) (a1 : Int) (a2 : Int) (r : Bool) (w : World) (hr0_0 : Kd.C k69 w Y0 l0_0.length l0_0) (hc0_0 : l0_0.length ≤ YI) (h : spec_l15Under.f k l0_0 a1 a2 = some r) :
  Calls Try.prog 71 #[.agg #[.slice Y0 l0_0.length YI], .int .i64 a1, .int .i64 a2] w fun e w' => e = .returned (.bool r) ∧ Below w.heap.size w w' := by
 have hu53 := Try.underlying53; have Xe := mk0 hr0_0; have ZW := mk0 hc0_0; clear hr0_0 hc0_0; have HB := mk0 (Below.refl w.heap.size w)
 have H : (spec_l15Under.l0 k a1 a2 0 l0_0) = some r := h
 clear h
 have H' := mk0 H
 clear H; go_enter Try.func71, Try.ntmps71
 go_wp2_with (first | ((with_reducible refine gate_dst (N := 3) rfl ?_); refine boxz (cs := #[.slice Y0 l0_0.length YI]) (t := 53) rfl ?_; intro JU hg w4 hbox hb; have JV := mk0 (ge_go (a := w.heap.size) hg (below_size q_162)); have JL := JV; replace HB := bS q_162 hb; have Y1 := mk0 (hbox); clear hb hbox hg))
 go_loopg [1, 7] k (fun kq v1 v7 w' => ∃ (Y8 : Int) (Jq : Int), v1 = .int .i64 Y8 ∧ v7 = .int .i64 Jq ∧ Aside0 (spec_l15Under.l0 kq Y8 a2 Jq l0_0 = some r) ∧ Aside0 (kq ≤ k) ∧ Aside0 (w'.heap[JU]? = some (.cells #[(.slice Y0 l0_0.length YI)] 53 (0, 0))) ∧ Aside0 (Below w.heap.size w w'))
 case atStart => exact ⟨(a1), (0), rs0, rs0, H', ⟨Nat.le_refl _⟩, ⟨pkb Y1⟩, ⟨z3_4⟩⟩
 case round =>
  clear H'; obtain ⟨Y8, Jq, rfl, rfl, HA, HK1, Y1, HB⟩ := hrel
  cases gk with
  | zero => exact absurd HA.out (by simp [spec_l15Under.l0])
  | succ k1 =>
   have H := HA.out; clear HA; simp only [spec_l15Under.l0] at H
   by_cases c5 : Jq ≤ 8
   rotate_left
   ·rw [if_neg c5] at H; have c5b0 := decide_eq_false c5; clear c5
    obtain rfl := Option.some.inj H
    simp only [Option.some.injEq, Prod.mk.injEq] at H; obtain ⟨rfl⟩ := H
    go_wp2
    go_ret
    exact ⟨q_94, z3_4⟩
   rw [if_pos c5] at H; have c5b0 := decide_eq_true c5; clear c5
   by_cases c6 : Y8 = a2
   ·rw [if_pos c6] at H
    have c6b0 : (Y8 == a2) = true := beq_iff_eq.mpr c6
    have c6b1 : (Y8 != a2) = false := bne_eq_false_iff_eq.mpr c6
    clear c6
    obtain rfl := Option.some.inj H
    simp only [Option.some.injEq, Prod.mk.injEq] at H; obtain ⟨rfl⟩ := H
    go_wp2
    go_ret
    exact ⟨q_94, z3_4⟩
   rw [if_neg c6] at H
   have c6b0 : (Y8 == a2) = false := beq_eq_false_iff_ne.mpr c6
   have c6b1 : (Y8 != a2) = true := bne_iff_ne.mpr c6
   obtain ⟨Y6, A7, H⟩ := bnd H
   try dsimp only at H
   by_cases c8 : Y6 < 0
   ·rw [if_pos c8] at H; have c8b0 := decide_eq_true c8; clear c8
    obtain rfl := Option.some.inj H
    simp only [Option.some.injEq, Prod.mk.injEq] at H; obtain ⟨rfl⟩ := H
    refine bc_1 Y1.out ?_; intros
    go_wp2_with (first | ((with_reducible refine gate_callee (f := 70) rfl ?_); refine gl_ (some 18) Try.func70 #[.agg #[.slice Y0 l0_0.length YI], .int .i64 Y8] rfl q_1 ?_; (with_reducible refine (spec_NodeAt.calls k1 _ _ l0_0 Y8 Y6 _ ?side1 ?side2 A7.out).mono ?_); (case side1 => exact q_192); (case side2 => exact ZW.out); rintro e w10 ⟨rfl, hb⟩; refine ⟨_, rfl, ?_⟩; replace Y1 := bB Y1 hb; replace HB := bS z3_4 hb; clear hb))
    go_ret
    exact ⟨q_94, z3_4⟩
   rw [if_neg c8] at H; have c8b0 := decide_eq_false c8; clear c8
   by_cases c11 : 0 ≤ Y6
   rotate_left
   ·rw [if_neg c11] at H
    exact absurd H (by simp)
   rw [if_pos c11] at H; have c11b0 := decide_eq_true c11; clear c11
   by_cases c12 : Y6 < (l0_0.length : Int)
   rotate_left
   ·rw [if_neg c12] at H
    exact absurd H (by simp)
   rw [if_pos c12] at H; have c12b0 := decide_eq_true c12; clear c12
   have H' := mk0 H
   clear H; refine bc_1 Y1.out ?_; intros
   go_wp2_with (first | ((with_reducible refine gate_callee (f := 70) rfl ?_); refine gl_ (some 18) Try.func70 #[.agg #[.slice Y0 l0_0.length YI], .int .i64 Y8] rfl q_1 ?_; (with_reducible refine (spec_NodeAt.calls k1 _ _ l0_0 Y8 Y6 _ ?side1 ?side2 A7.out).mono ?_); (case side1 => exact q_192); (case side2 => exact ZW.out); rintro e w14 ⟨rfl, hb⟩; refine ⟨_, rfl, ?_⟩; replace Y1 := bB Y1 hb; replace HB := bS z3_4 hb; clear hb; refine bc_1 Y1.out ?_; intros; have JJ : 0 ≤ (Y6 : Int) := of_decide_eq_true (by first | (with_reducible assumption) | assumption); have JK : Y6 < (l0_0.length : Int) := of_decide_eq_true (by first | (with_reducible assumption) | assumption); obtain ⟨Uk, Ue, Uf, J4, J5, J6, J7, J8, J9, Ua, Ub, e111, ZX, ZY, ZZ, Z0, Z1, Z2, Z3, Z4, Z5, Z6, Zn, Zo, Zp, Zq, Zr, Zs, Zt, Zu, Zv, Zw, Zx, Zy, Zz, ZA, ZB, ZC, ZD, ZE, ZF, ZG, ZH, Z7, Z8, ZI, ZJ, ZK, ZL, ZM, ZN, ZO, ZP⟩ := at_T69 Xe.out Y6 JJ JK; cases e111; replace ZX := cell_go HB ZX; replace ZY := cell_go HB ZY; replace ZZ := cell_go HB ZZ; replace Z0 := cell_go HB Z0; replace Z1 := cell_go HB Z1; replace Z2 := cell_go HB Z2; replace Z3 := cell_go HB Z3; replace Z4 := cell_go HB Z4; replace Z5 := cell_go HB Z5; replace Z6 := cell_go HB Z6; replace Zn := cell_go HB Zn; replace Zo := cell_go HB Zo; replace Zp := cell_go HB Zp; replace Zq := cell_go HB Zq; replace Zr := cell_go HB Zr; replace Zs := cell_go HB Zs; replace Zt := cell_go HB Zt; replace Zu := cell_go HB Zu; replace Zv := cell_go HB Zv; replace Zw := cell_go HB Zw; replace Zx := cell_go HB Zx; replace Zy := cell_go HB Zy; replace Zz := cell_go HB Zz; replace ZA := cell_go HB ZA; replace ZB := cell_go HB ZB; replace ZC := cell_go HB ZC; replace ZD := cell_go HB ZD; replace ZE := cell_go HB ZE; replace ZF := cell_go HB ZF; replace ZG := cell_go HB ZG; replace ZH := cell_go HB ZH; have Uc := mk0 Z8; have Ud := mk0 Z7; clear Z8 Z7; have JW := mk0 ZJ; have JX := mk0 ZI; clear ZJ ZI; have JY := mk0 ZL; have JZ := mk0 ZK; clear ZL ZK; have J0 := mk0 ZN; have J1 := mk0 ZM; clear ZN ZM; have J2 := mk0 ZP; have J3 := mk0 ZO; clear ZP ZO; replace JJ := eq_true JJ; replace JK := eq_true JK))
   go_roundg k1
   case measure => have := HK1.out; omega
   case rel => exact ⟨((rd_T69 l0_0 Y6).f1), (wrap64 (Jq + 1)), rs0, rs0, H', ⟨(by have := HK1.out; omega)⟩, ⟨pkb Y1⟩, ⟨z3_4⟩⟩

end Go.Proofs.Ytjfienkbcacijaa.MFnTrees
