/- Functions of the program as Lean functions, and the proof that a call comes to just these: machine text of this session's own program (myprint.py). -/
import Derived.Test.YtjfienkbcacijaaMFnTreesx0
import Derived.Test.YtjfienkbcacijaaMFnTreesx3
namespace Go.Proofs.Ytjfienkbcacijaa.MFnTrees
open Go.RowKit Go.Proofs.YtjfienkbcacijaaW.PrintWords Go.Proofs.YtjfienkbcacijaaW.PrintLast Go.Proofs.YtjfienkbcacijaaW.PrintMore
attribute [local go_sem] max2_int min2_int max_two min_two max_three min_three max_four min_four   -- for this text's walks alone
set_option linter.unusedVariables false
set_option linter.unusedSimpArgs false

theorem x4_put {P : Prop} (h : P := by simp only [Act.put, List.setIfInBounds_toArray, List.set_cons_zero, List.set_cons_succ, i64_w, i32_w]; rfl) : P := h
theorem z4_1 {P : Prop} (h : P := by repeat (first | (with_reducible first | exact HB.out | apply below_alloc | apply pw_below_drewN | apply below_drew1 | refine below_set ?_ Ux.out) | exact HB.out)) : P := h
theorem z4_3 {P : Prop} (h : P := by repeat (first | (with_reducible first | exact HB.out | apply below_alloc | apply pw_below_drewN | apply below_drew1 | refine below_set ?_ GE2.out) | exact HB.out)) : P := h
theorem z4_7 {P : Prop} (h : P := by repeat (first | (with_reducible first | exact HB.out | apply below_alloc | apply pw_below_drewN | apply below_drew1 | refine below_set ?_ Uy.out) | exact HB.out)) : P := h
theorem z4_8 {P : Prop} (h : P := by repeat (first | (with_reducible first | exact HB.out | apply below_alloc | apply pw_below_drewN | apply below_drew1 | refine below_set ?_ GE1.out) | exact HB.out)) : P := h
theorem z4_10 {P : Prop} (h : P := by repeat (first | (with_reducible first | exact HB.out | apply below_alloc | apply pw_below_drewN | apply below_drew1 | refine below_set ?_ Uy.out | refine below_set ?_ US.out) | exact HB.out)) : P := h
theorem z4_11 {P : Prop} (h : P := by repeat (first | exact (Kd.C_below ZW.out HB.out) | (with_reducible refine Kd.C_alloc ?_ _) | (with_reducible refine Kd.C_drewN ?_ _) | (with_reducible refine Kd.C_drew ?_))) : P := h
theorem z4_12 {P : Prop} (h : P := by repeat (first | exact (Kd.C_below ZX.out HB.out) | (with_reducible refine Kd.C_alloc ?_ _) | (with_reducible refine Kd.C_drewN ?_ _) | (with_reducible refine Kd.C_drew ?_))) : P := h
theorem z4_13 {P : Prop} (h : P := by repeat (first | exact (Kd.C_below ZY.out HB.out) | (with_reducible refine Kd.C_alloc ?_ _) | (with_reducible refine Kd.C_drewN ?_ _) | (with_reducible refine Kd.C_drew ?_))) : P := h
theorem z4_14 {P : Prop} (h : P := by repeat (first | exact (Kd.C_below ZZ.out HB.out) | (with_reducible refine Kd.C_alloc ?_ _) | (with_reducible refine Kd.C_drewN ?_ _) | (with_reducible refine Kd.C_drew ?_))) : P := h
theorem z4_15 {P : Prop} (h : P := by repeat (first | exact (Kd.C_below Jt.out HB.out) | (with_reducible refine Kd.C_alloc ?_ _) | (with_reducible refine Kd.C_drewN ?_ _) | (with_reducible refine Kd.C_drew ?_))) : P := h
/-! ### spec_UnderOf: function 36 -/
def spec_UnderOf.l0 : Nat → Int → List Int → Int → List (S69) → Option (List Int)
 | 0, _, _, _, _ => none
 | k + 1, x1, x5, x6, YX => if x6 < (YX.length : Int) then (if 0 ≤ x6 then ((spec_l15Under.f k YX ((rd_T69 YX x6).f0) x1).bind fun UD => (if UD = true then (if x5.length < 17592186044416 then (spec_UnderOf.l0 k x1 (x5 ++ [(rd_T69 YX x6).f0]) (wrap64 (x6 + 1)) YX) else (none)) else (spec_UnderOf.l0 k x1 x5 (wrap64 (x6 + 1)) YX))) else (none)) else (some x5)
def spec_UnderOf.f (k : Nat) (l0_0 : List (S69)) (a1 : Int) : Option (List Int) := (some (([] : List Int) : List Int)).bind fun Jy => ((spec_NodeAt.f k l0_0 a1).bind fun Z9 => (if Z9 < 0 then (some Jy) else (spec_UnderOf.l0 k a1 Jy 0 l0_0)))
theorem spec_UnderOf.mono_l : ∀ k, (∀ y0 y1 y2 y3, LeO (spec_UnderOf.l0 k y0 y1 y2 y3) (spec_UnderOf.l0 (k + 1) y0 y1 y2 y3))
 | 0 => fun _ _ _ _ r h => by simp [spec_UnderOf.l0] at h
 | k + 1 => by
  have ih0 := spec_UnderOf.mono_l k
  ·intro y0 y1 y2 y3
   unfold spec_UnderOf.l0
   with_reducible repeat' first | apply ih0 | apply spec_NodeAt.mono | apply spec_l15Under.mono | exact LeO.refl _ | exact LeO.none _ | refine LeO.ite ?_ ?_ | refine LeO.bind ?_ (fun _ => ?_)
theorem spec_UnderOf.mono : ∀ a0 a1 k, LeO (spec_UnderOf.f k a0 a1) (spec_UnderOf.f (k + 1) a0 a1) := by
 intro a0 a1 k; have ih0 := spec_UnderOf.mono_l k
 unfold spec_UnderOf.f
 with_reducible repeat' first | apply ih0 | apply spec_NodeAt.mono | apply spec_l15Under.mono | exact LeO.refl _ | exact LeO.none _ | refine LeO.ite ?_ ?_ | refine LeO.bind ?_ (fun _ => ?_)
def spec_UnderOf.T7 : Bool × List (List Nat × List Nat) := (true, [([], []), ([], []), ([1], [1]), ([], []), ([2, 3], [2, 3]), ([4], [4]), ([5], [5]), ([], []), ([0, 6, 7], [0, 6, 7])])
def spec_UnderOf.B7 : List Nat := [0, 0, 2, 0, 14, 30, 62, 0, 255]
theorem spec_UnderOf.tab7 : rtab .any (opsOf Try.f36 7) = spec_UnderOf.T7 := by kernel_rfl
theorem spec_UnderOf.bits7 : waitsOk spec_UnderOf.T7.2 spec_UnderOf.B7 = true := by kernel_rfl
set_option maxHeartbeats 8000000 in
set_option maxRecDepth 100000 in
theorem spec_UnderOf.calls (k : Nat) (Y6 : Option Addr) (YY : Nat) (l0_0 : List (S69)) (a1 : Int) (r : List Int) (w : World) (hr0_0 : Kd.C k69 w Y6 l0_0.length l0_0) (hc0_0 : l0_0.length ≤ YY) (h : spec_UnderOf.f k l0_0 a1 = some r) :
  Calls Try.prog 36 #[.agg #[.slice Y6 l0_0.length YY], .int .i64 a1] w fun e w' => ∃ v0_ : Value, e = .returned (v0_) ∧ Kd.R (Kd.int .i64) 3 w' w.heap.size (fun _ => True) v0_ r ∧ Below w.heap.size w w' := by
 have hu53 := Try.underlying53; have Xe := mk0 hr0_0; have ZB := mk0 hc0_0; clear hr0_0 hc0_0; have HB := mk0 (Below.refl w.heap.size w)
 have H := h; unfold spec_UnderOf.f at H
 clear h
 obtain ⟨Jy, hy_⟩ : ∃ y_ : List Int, y_ = (([] : List Int)) := ⟨_, rfl⟩
 replace H : ((spec_NodeAt.f k l0_0 a1).bind fun Z9 => (if Z9 < 0 then (some Jy) else (spec_UnderOf.l0 k a1 Jy 0 l0_0))) = some r := q_88
 have Ju := mk0 hy_; clear hy_; obtain ⟨Z9, A3, H⟩ := bnd H
 try dsimp only at H
 by_cases c4 : Z9 < 0
 ·rw [if_pos c4] at H; have c4b0 := decide_eq_true c4; clear c4
  obtain rfl := Option.some.inj H
  simp only [Option.some.injEq, Prod.mk.injEq] at H; obtain ⟨rfl⟩ := H
  go_enter Try.func36, Try.ntmps36
  go_wp2_with (first | ((with_reducible refine gate_dst (N := 2) rfl ?_); refine boxz (cs := #[.slice Y6 l0_0.length YY]) (t := 53) rfl ?_; intro Jv hg w5 hbox hb; have JB := mk0 (ge_go (a := w.heap.size) hg (below_size q_162)); have Ux := JB; replace HB := bS q_162 hb; have XF := mk0 (hbox); clear hb hbox hg) | ((with_reducible refine gate_dst (N := 7) rfl ?_); refine Kd.R_lit (Kd.int .i64) _ 3 ?hg (N := 7) ?hd (xs := ([] : List Int)) (inner := []) (ok := fun _ => True) (okp := fun _ => True) ?hr ?hp (fun _ hk => hk) trivial (Below.refl _ _) (Nat.le_refl _) (by simp) ?_; (case hd => rfl); (case hg => rfl); (case hr => first | (go_simp; done) | (go_simp; rfl)); (case hp => exact (Reps.none _ _)); intro v114 w6 ho7 hb hg_ hnew_; clear hg_ hnew_; (first | rw [← Ju.out] at ho7 | (simp only [Int.reduceToNat] at ho7; rw [← Ju.out] at ho7)); have Y7 := mk0 (Kd.R_lower ho7 (below_size z4_1)); replace XF := bB XF hb; replace HB := bS z4_1 hb; clear hb ho7; refine bc_1 XF.out ?_; intros) | ((with_reducible refine gate_callee (f := 70) rfl ?_); refine gl_ (some 10) Try.func70 #[.agg #[.slice Y6 l0_0.length YY], .int .i64 a1] rfl q_1 ?_; (with_reducible refine (spec_NodeAt.calls k _ _ l0_0 a1 Z9 _ ?side1 ?side2 A3.out).mono ?_); (case side1 => exact q_192); (case side2 => exact ZB.out); rintro e w9 ⟨rfl, hb⟩; refine ⟨_, rfl, ?_⟩; replace Y7 := bR Y7 hb; replace XF := bB XF hb; replace HB := bS z4_1 hb; clear hb; (try clear hk)))
  go_ret
  exact ⟨_, q_94, (pkR Y7), z4_1⟩
 rw [if_neg c4] at H; have c4b0 := decide_eq_false c4; clear c4
 have H' := mk0 H
 clear H; go_enter Try.func36, Try.ntmps36
 go_wp2_with (first | ((with_reducible refine gate_dst (N := 2) rfl ?_); refine boxz (cs := #[.slice Y6 l0_0.length YY]) (t := 53) rfl ?_; intro Jv hg w10 hbox hb; have JB := mk0 (ge_go (a := w.heap.size) hg (below_size q_162)); have Ux := JB; replace HB := bS q_162 hb; have XF := mk0 (hbox); clear hb hbox hg) | ((with_reducible refine gate_dst (N := 7) rfl ?_); refine Kd.R_lit (Kd.int .i64) _ 3 ?hg (N := 7) ?hd (xs := ([] : List Int)) (inner := []) (ok := fun _ => True) (okp := fun _ => True) ?hr ?hp (fun _ hk => hk) trivial (Below.refl _ _) (Nat.le_refl _) (by simp) ?_; (case hd => rfl); (case hg => rfl); (case hr => first | (go_simp; done) | (go_simp; rfl)); (case hp => exact (Reps.none _ _)); intro v114 w11 JC hb hg_ hnew_; clear hg_ hnew_; (first | rw [← Ju.out] at JC | (simp only [Int.reduceToNat] at JC; rw [← Ju.out] at JC)); have Y7 := mk0 (Kd.R_lower JC (below_size z4_1)); replace XF := bB XF hb; replace HB := bS z4_1 hb; clear hb JC; refine bc_1 XF.out ?_; intros) | ((with_reducible refine gate_callee (f := 70) rfl ?_); refine gl_ (some 10) Try.func70 #[.agg #[.slice Y6 l0_0.length YY], .int .i64 a1] rfl q_1 ?_; (with_reducible refine (spec_NodeAt.calls k _ _ l0_0 a1 Z9 _ ?side1 ?side2 A3.out).mono ?_); (case side1 => exact q_192); (case side2 => exact ZB.out); rintro e w14 ⟨rfl, hb⟩; refine ⟨_, rfl, ?_⟩; replace Y7 := bR Y7 hb; replace XF := bB XF hb; replace HB := bS z4_1 hb; clear hb; (try clear hk)))
 go_loopg [5, 6] k (fun kq v5 v6 w' => ∃ (Ja : List Int) (XD : Int), v6 = .int .i64 XD ∧ Aside0 (spec_UnderOf.l0 kq a1 Ja XD l0_0 = some r) ∧ Aside0 (kq ≤ k) ∧ Aside0 (Kd.R (Kd.int .i64) 3 w' w.heap.size (fun _ => True) v5 Ja) ∧ Aside0 (w'.heap[Jv]? = some (.cells #[(.slice Y6 l0_0.length YY)] 53 (0, 0))) ∧ Aside0 (Below w.heap.size w w'))
 case atStart => exact ⟨(Jy), (0), rs0, H', ⟨Nat.le_refl _⟩, ⟨pkR Y7⟩, ⟨pkb XF⟩, ⟨z4_1⟩⟩
 case round =>
  clear H'
  try clear c4b0
  obtain ⟨Ja, XD, rfl, HA, HK1, YZ, XF, HB⟩ := hrel
  cases gk with
  | zero => exact absurd HA.out (by simp [spec_UnderOf.l0])
  | succ k1 =>
   have H := HA.out; clear HA; simp only [spec_UnderOf.l0] at H
   by_cases c15 : XD < (l0_0.length : Int)
   rotate_left
   ·rw [if_neg c15] at H; have c15b0 := decide_eq_false c15; clear c15
    obtain rfl := Option.some.inj H
    simp only [Option.some.injEq, Prod.mk.injEq] at H; obtain ⟨rfl⟩ := H
    refine bc_1 XF.out ?_; intros
    go_wp2
    go_ret
    exact ⟨_, q_94, (pkR YZ), z4_1⟩
   rw [if_pos c15] at H; have c15b0 := decide_eq_true c15; clear c15
   by_cases c16 : 0 ≤ XD
   rotate_left
   ·rw [if_neg c16] at H
    exact absurd H (by simp)
   rw [if_pos c16] at H; have c16b0 := decide_eq_true c16; clear c16; obtain ⟨UD, A17, H⟩ := bnd H
   try dsimp only at H
   by_cases c18 : UD = true
   rotate_left
   ·replace c18 := Bool.eq_false_iff.mpr c18; subst c18; rw [if_neg (show ¬ (false = true) by decide)] at H
    have H' := mk0 H
    clear H; refine bc_1 XF.out ?_; intros
    try go_wp2
    replace YZ := mk0 (Kd.R_drew YZ.out); replace XF := mk0 (blk_drew XF.out); replace HB := mk0 (below_drew1 HB.out)
    have Jb : 0 ≤ (XD : Int) := of_decide_eq_true (by first | (with_reducible assumption) | assumption)
    have Jc : XD < (l0_0.length : Int) := of_decide_eq_true (by first | (with_reducible assumption) | assumption)
    obtain ⟨X1, Jd, Je, ZC, ZD, ZE, ZF, ZG, ZH, ZI, ZJ, e117, X2, X3, X4, X5, X6, X7, X8, X9, Ya, Yb, XG, XH, XI, XJ, XK, XL, XM, XN, XO, XP, XQ, XR, XS, XT, XU, XV, XW, XX, XY, XZ, X0, Y0, Y1, YH, YI, YJ, YK, YL, YM, YN, YO⟩ := at_T69 Xe.out XD Jb Jc; have Y2 := lie_zero X2 (lie_n X3 (lie_n X4 (lie_n X5 (lie_n X6 (lie_n X7 (lie_n X8 (lie_n X9 (lie_n Ya (lie_n Yb (lie_n XG (lie_n XH (lie_n XI (lie_n XJ (lie_n XK (lie_n XL (lie_n XM (lie_n XN (lie_n XO (lie_n XP (lie_n XQ (lie_n XR (lie_n XS (lie_n XT (lie_n XU (lie_n XV (lie_n XW (lie_n XX (lie_n XY (lie_n XZ (lie_n X0 (lie_nil _ _ _))))))))))))))))))))))))))))))); have JD := X0; have JE := XZ; have JF := XY; have JG := XX; have JH := XW; have JI := XV; have JJ := XU; have JK := XT; have JL := XS; have JM := XR; have JN := XQ; have JO := XP; have JP := XO; have JQ := XN; have JR := XM; have JS := XL; have JT := XK; have JU := XJ; have JV := XI; have JW := XH; have JX := XG; have Uc := Yb; have Ud := Ya; have Ue := X9; have Uf := X8; have Ug := X7; have Uh := X6; have Ui := X5; have Uj := X4; have Uk := X3; have Ul := X2
    cases e117
    replace X2 := cell_go HB X2; replace X3 := cell_go HB X3; replace X4 := cell_go HB X4; replace X5 := cell_go HB X5; replace X6 := cell_go HB X6; replace X7 := cell_go HB X7; replace X8 := cell_go HB X8; replace X9 := cell_go HB X9; replace Ya := cell_go HB Ya; replace Yb := cell_go HB Yb; replace XG := cell_go HB XG; replace XH := cell_go HB XH; replace XI := cell_go HB XI; replace XJ := cell_go HB XJ; replace XK := cell_go HB XK; replace XL := cell_go HB XL; replace XM := cell_go HB XM; replace XN := cell_go HB XN; replace XO := cell_go HB XO; replace XP := cell_go HB XP; replace XQ := cell_go HB XQ; replace XR := cell_go HB XR; replace XS := cell_go HB XS; replace XT := cell_go HB XT; replace XU := cell_go HB XU; replace XV := cell_go HB XV; replace XW := cell_go HB XW; replace XX := cell_go HB XX; replace XY := cell_go HB XY; replace XZ := cell_go HB XZ; replace X0 := cell_go HB X0; have ZK := mk0 Y1; have Um := mk0 Y0; clear Y1 Y0; have Y8 := mk0 YI; have JY := mk0 YH; clear YI YH; have Y9 := mk0 YK; have JZ := mk0 YJ; clear YK YJ; have Za := mk0 YM; have J0 := mk0 YL; clear YM YL; have Zb := mk0 YO; have J1 := mk0 YN; clear YO YN; replace Jb := eq_true Jb; replace Jc := eq_true Jc
    refine start_ (n := 9) (S := fun w' => w'.cell? ⟨Jv, 0, none⟩ = some (.slice (some X1) l0_0.length YY) ∧ Lie w' (X1.add ((XD).toNat * 31)) 0 [.int .i64 ((rd_T69 l0_0 XD).f0), .int .i64 ((rd_T69 l0_0 XD).f1), .bool ((rd_T69 l0_0 XD).f2), .int .i64 ((rd_T69 l0_0 XD).f3.f0), .int .i64 ((rd_T69 l0_0 XD).f3.f1), .int .i64 ((rd_T69 l0_0 XD).f3.f2), .int .i64 ((rd_T69 l0_0 XD).f3.f3), .int .i64 ((rd_T69 l0_0 XD).f3.f4), .int .i64 ((rd_T69 l0_0 XD).f3.f5), .slice Jd ((rd_T69 l0_0 XD).f4.f0).length Je, .slice ZC ((rd_T69 l0_0 XD).f4.f1).length ZD, .bool ((rd_T69 l0_0 XD).f5), .int .i64 ((rd_T69 l0_0 XD).f6), .slice ZE ((rd_T69 l0_0 XD).f7).length ZF, .int .i64 ((rd_T69 l0_0 XD).f8.f0), .int .i64 ((rd_T69 l0_0 XD).f8.f1.f0), .int .i64 ((rd_T69 l0_0 XD).f8.f1.f1), .int .i64 ((rd_T69 l0_0 XD).f8.f1.f2), .int .i64 ((rd_T69 l0_0 XD).f8.f1.f3), .int .i64 ((rd_T69 l0_0 XD).f8.f2.f0), .int .i64 ((rd_T69 l0_0 XD).f8.f2.f1), .int .i64 ((rd_T69 l0_0 XD).f8.f2.f2), .int .i64 ((rd_T69 l0_0 XD).f8.f2.f3), .int .i64 ((rd_T69 l0_0 XD).f8.f3.f0), .int .i64 ((rd_T69 l0_0 XD).f8.f3.f1), .int .i64 ((rd_T69 l0_0 XD).f8.f4.f0), .int .i64 ((rd_T69 l0_0 XD).f8.f4.f1), .int .i64 ((rd_T69 l0_0 XD).f9), .int .i64 ((rd_T69 l0_0 XD).f10), .slice ZG ((rd_T69 l0_0 XD).f11.f0).length ZH, .slice ZI ((rd_T69 l0_0 XD).f11.f1).length ZJ]) (ds := []) #[false, false, false, false, false, false, false, false, false] (by kernel_rfl) rfl rfl ⟨(blk_cell XF.out 0).trans rfl, lie_below HB.out Y2⟩ (fun hHeld => ?_); refine with_tabW spec_UnderOf.tab7 spec_UnderOf.bits7 (fun HT_ HW_ => ?_)
    generalize wr.drew = w26 at YZ XF HB Y8 Y9 Za Zb ZK X2 X3 XG XH XI XJ XK XL XM XN XO XP X4 XQ XR XS XT XU XV XW XX XY XZ X5 X0 X6 X7 X8 X9 Ya Yb hHeld ⊢
    refine pzx (i := 1) (N := 21) (bA 9 2) HT_ ?_; refine pzx (i := 3) (N := 23) (bA 9 10) HT_ ?_; refine pzx (i := 7) (N := 27) (bA 9 138) HT_ ?_
    refine take_ (i := 0) (N := some 20) (v := ?_) (a' := ?_) (bA 9 139) rfl rfl (take_ofW HT_.out HW_.out (by kernel_rfl)) (fun _ _ _ h => h) (Or.inl ⟨by rfl, ?_⟩) hHeld ?_ ?_
    rotate_left
    ·rintro w' ⟨s0, sL117⟩
     first | (refine load_yields (t := 69) (x := ?UL) ?Jf ?Jg _ _ sL117 Try.underlying69 rfl (show (Try.prog.info? 69).map (·.size) = some 31 by kernel_rfl); (case Jf => rfl); (case Jg => rfl)) | (have c0_ := lie_at sL117 0 _ rfl; simp only [Nat.add_zero, Addr.add_zero'] at c0_; go_simp; with_reducible rfl) | (have c0_ : w'.cell? ⟨(X1.add ((XD).toNat * 31)).block, (X1.add ((XD).toNat * 31)).off + 2, none⟩ = some (.bool ((rd_T69 l0_0 XD).f2)) := lie_at sL117 2 _ rfl; go_simp; with_reducible rfl) | (go_simp; with_reducible rfl)
    rotate_left
    ·exact x4_put
    refine take_ (i := 2) (N := some 22) (v := ?_) (a' := ?_) (bA 9 143) rfl rfl (take_ofW HT_.out HW_.out (by kernel_rfl)) (fun _ _ _ h => h) (Or.inl ⟨by rfl, ?_⟩) hHeld ?_ ?_
    rotate_left
    ·rintro w' ⟨s0, sL117⟩
     first | (refine load_yields (t := 69) (x := ?UM) ?Jh ?Ji _ _ sL117 Try.underlying69 rfl (show (Try.prog.info? 69).map (·.size) = some 31 by kernel_rfl); (case Jh => rfl); (case Ji => rfl)) | (have c0_ := lie_at sL117 0 _ rfl; simp only [Nat.add_zero, Addr.add_zero'] at c0_; go_simp; with_reducible rfl) | (have c0_ : w'.cell? ⟨(X1.add ((XD).toNat * 31)).block, (X1.add ((XD).toNat * 31)).off + 2, none⟩ = some (.bool ((rd_T69 l0_0 XD).f2)) := lie_at sL117 2 _ rfl; go_simp; with_reducible rfl) | (go_simp; with_reducible rfl)
    rotate_left
    ·exact x4_put
    refine pzx (i := 4) (N := 24) (bA 9 159) HT_ ?_; refine pzx (i := 5) (N := 25) (bA 9 191) HT_ ?_
    refine take_ (i := 6) (N := some 26) (v := ?_) (a' := ?_) (bA 9 255) rfl rfl (take_ofW HT_.out HW_.out (by kernel_rfl)) (fun _ _ _ h => h) (Or.inl ⟨by rfl, ?_⟩) hHeld ?_ ?_
    rotate_left
    ·rintro w' ⟨s0, sL117⟩
     first | (refine load_yields (t := 69) (x := ?UN) ?Jj ?Jk _ _ sL117 Try.underlying69 rfl (show (Try.prog.info? 69).map (·.size) = some 31 by kernel_rfl); (case Jj => rfl); (case Jk => rfl)) | (have c0_ := lie_at sL117 0 _ rfl; simp only [Nat.add_zero, Addr.add_zero'] at c0_; go_simp; with_reducible rfl) | (have c0_ : w'.cell? ⟨(X1.add ((XD).toNat * 31)).block, (X1.add ((XD).toNat * 31)).off + 2, none⟩ = some (.bool ((rd_T69 l0_0 XD).f2)) := lie_at sL117 2 _ rfl; go_simp; with_reducible rfl) | (go_simp; with_reducible rfl)
    rotate_left
    ·exact x4_put
    refine one_ (i := 8) (N := some 28) (bA 9 511) rfl rfl (one_of HT_.out (by kernel_rfl)) (by decide) (fun K hK => ?_)
    refine goes_ Try.func71 (by kernel_rfl) rfl #[.agg #[.slice (some X1) l0_0.length YY], .int .i64 ((rd_T69 l0_0 XD).f0), .int .i64 a1] (by rfl) rfl rfl q_1 ?_
    with_reducible refine (spec_l15Under.calls k1 _ _ l0_0 ((rd_T69 l0_0 XD).f0) a1 false _ ?side1 ?side2 A17.out).mono ?_
    (case side1 => exact q_192)
    (case side2 => exact ZB.out)
    rintro e w27 ⟨rfl, hb⟩
    refine ⟨_, rfl, ?_⟩
    replace YZ := bR YZ hb; replace XF := bB XF hb; replace HB := bS z4_1 hb; (try clear hb); (try clear hb2); (try clear hk); (try clear hi); refine hK.out _ _ ⟨(blk_cell XF.out 0).trans rfl, lie_below HB.out Y2⟩ (fun hHeld => ?_); clear hK K
    refine norm_ (a' := ?_) ?_ ?_
    rotate_left
    ·show Act.put _ (some 28) _ = _
     simp only [Act.put, List.setIfInBounds_toArray, List.set_cons_zero, List.set_cons_succ, i64_w, i32_w]
     rfl
    refine done_ (done_of HT_.out (by kernel_rfl)) ?_
    try go_wp2_with (first | ((with_reducible refine gate_load (t := 69) rfl ?_); refine load_lie (t := 69) rfl rfl Y2 HB (by with_reducible rfl) rfl Try.underlying69 rfl (show (Try.prog.info? 69).map (·.size) = some 31 by kernel_rfl) rfl ?_) | ((with_reducible refine gate_load (t := 69) rfl ?_); refine load_lie0 (t := 69) rfl rfl Y2 (by with_reducible rfl) rfl Try.underlying69 rfl (show (Try.prog.info? 69).map (·.size) = some 31 by kernel_rfl) rfl ?_))
    go_roundg k1
    case measure => have := HK1.out; omega
    case rel => exact ⟨(Ja), (wrap64 (XD + 1)), rs0, H', ⟨(by have := HK1.out; omega)⟩, ⟨pkR YZ⟩, ⟨pkb XF⟩, ⟨z4_1⟩⟩
   subst c18; rw [if_pos rfl] at H
   by_cases c19 : Ja.length < 17592186044416
   rotate_left
   ·rw [if_neg c19] at H
    exact absurd H (by simp)
   rw [if_pos c19] at H; have LMc19 := mk0 c19; clear c19
   obtain ⟨UT, hy_⟩ : ∃ y_ : List Int, y_ = (Ja ++ [(rd_T69 l0_0 XD).f0]) := ⟨_, rfl⟩
   replace H : (spec_UnderOf.l0 k1 a1 UT (wrap64 (XD + 1)) l0_0) = some r := q_88
   have UU := mk0 hy_; clear hy_
   have H' := mk0 H
   clear H; refine bc_1 XF.out ?_; intros
   try go_wp2
   replace YZ := mk0 (Kd.R_drew YZ.out); replace XF := mk0 (blk_drew XF.out); replace HB := mk0 (below_drew1 HB.out)
   have Jb : 0 ≤ (XD : Int) := of_decide_eq_true (by first | (with_reducible assumption) | assumption)
   have Jc : XD < (l0_0.length : Int) := of_decide_eq_true (by first | (with_reducible assumption) | assumption)
   obtain ⟨X1, Jd, Je, ZC, ZD, ZE, ZF, ZG, ZH, ZI, ZJ, e117, X2, X3, X4, X5, X6, X7, X8, X9, Ya, Yb, XG, XH, XI, XJ, XK, XL, XM, XN, XO, XP, XQ, XR, XS, XT, XU, XV, XW, XX, XY, XZ, X0, Y0, Y1, YH, YI, YJ, YK, YL, YM, YN, YO⟩ := at_T69 Xe.out XD Jb Jc; have Y2 := lie_zero X2 (lie_n X3 (lie_n X4 (lie_n X5 (lie_n X6 (lie_n X7 (lie_n X8 (lie_n X9 (lie_n Ya (lie_n Yb (lie_n XG (lie_n XH (lie_n XI (lie_n XJ (lie_n XK (lie_n XL (lie_n XM (lie_n XN (lie_n XO (lie_n XP (lie_n XQ (lie_n XR (lie_n XS (lie_n XT (lie_n XU (lie_n XV (lie_n XW (lie_n XX (lie_n XY (lie_n XZ (lie_n X0 (lie_nil _ _ _))))))))))))))))))))))))))))))); have JD := X0; have JE := XZ; have JF := XY; have JG := XX; have JH := XW; have JI := XV; have JJ := XU; have JK := XT; have JL := XS; have JM := XR; have JN := XQ; have JO := XP; have JP := XO; have JQ := XN; have JR := XM; have JS := XL; have JT := XK; have JU := XJ; have JV := XI; have JW := XH; have JX := XG; have Uc := Yb; have Ud := Ya; have Ue := X9; have Uf := X8; have Ug := X7; have Uh := X6; have Ui := X5; have Uj := X4; have Uk := X3; have Ul := X2
   cases e117
   replace X2 := cell_go HB X2; replace X3 := cell_go HB X3; replace X4 := cell_go HB X4; replace X5 := cell_go HB X5; replace X6 := cell_go HB X6; replace X7 := cell_go HB X7; replace X8 := cell_go HB X8; replace X9 := cell_go HB X9; replace Ya := cell_go HB Ya; replace Yb := cell_go HB Yb; replace XG := cell_go HB XG; replace XH := cell_go HB XH; replace XI := cell_go HB XI; replace XJ := cell_go HB XJ; replace XK := cell_go HB XK; replace XL := cell_go HB XL; replace XM := cell_go HB XM; replace XN := cell_go HB XN; replace XO := cell_go HB XO; replace XP := cell_go HB XP; replace XQ := cell_go HB XQ; replace XR := cell_go HB XR; replace XS := cell_go HB XS; replace XT := cell_go HB XT; replace XU := cell_go HB XU; replace XV := cell_go HB XV; replace XW := cell_go HB XW; replace XX := cell_go HB XX; replace XY := cell_go HB XY; replace XZ := cell_go HB XZ; replace X0 := cell_go HB X0; have ZK := mk0 Y1; have Um := mk0 Y0; clear Y1 Y0; have Y8 := mk0 YI; have JY := mk0 YH; clear YI YH; have Y9 := mk0 YK; have JZ := mk0 YJ; clear YK YJ; have Za := mk0 YM; have J0 := mk0 YL; clear YM YL; have Zb := mk0 YO; have J1 := mk0 YN; clear YO YN; replace Jb := eq_true Jb; replace Jc := eq_true Jc
   refine start_ (n := 9) (S := fun w' => w'.cell? ⟨Jv, 0, none⟩ = some (.slice (some X1) l0_0.length YY) ∧ Lie w' (X1.add ((XD).toNat * 31)) 0 [.int .i64 ((rd_T69 l0_0 XD).f0), .int .i64 ((rd_T69 l0_0 XD).f1), .bool ((rd_T69 l0_0 XD).f2), .int .i64 ((rd_T69 l0_0 XD).f3.f0), .int .i64 ((rd_T69 l0_0 XD).f3.f1), .int .i64 ((rd_T69 l0_0 XD).f3.f2), .int .i64 ((rd_T69 l0_0 XD).f3.f3), .int .i64 ((rd_T69 l0_0 XD).f3.f4), .int .i64 ((rd_T69 l0_0 XD).f3.f5), .slice Jd ((rd_T69 l0_0 XD).f4.f0).length Je, .slice ZC ((rd_T69 l0_0 XD).f4.f1).length ZD, .bool ((rd_T69 l0_0 XD).f5), .int .i64 ((rd_T69 l0_0 XD).f6), .slice ZE ((rd_T69 l0_0 XD).f7).length ZF, .int .i64 ((rd_T69 l0_0 XD).f8.f0), .int .i64 ((rd_T69 l0_0 XD).f8.f1.f0), .int .i64 ((rd_T69 l0_0 XD).f8.f1.f1), .int .i64 ((rd_T69 l0_0 XD).f8.f1.f2), .int .i64 ((rd_T69 l0_0 XD).f8.f1.f3), .int .i64 ((rd_T69 l0_0 XD).f8.f2.f0), .int .i64 ((rd_T69 l0_0 XD).f8.f2.f1), .int .i64 ((rd_T69 l0_0 XD).f8.f2.f2), .int .i64 ((rd_T69 l0_0 XD).f8.f2.f3), .int .i64 ((rd_T69 l0_0 XD).f8.f3.f0), .int .i64 ((rd_T69 l0_0 XD).f8.f3.f1), .int .i64 ((rd_T69 l0_0 XD).f8.f4.f0), .int .i64 ((rd_T69 l0_0 XD).f8.f4.f1), .int .i64 ((rd_T69 l0_0 XD).f9), .int .i64 ((rd_T69 l0_0 XD).f10), .slice ZG ((rd_T69 l0_0 XD).f11.f0).length ZH, .slice ZI ((rd_T69 l0_0 XD).f11.f1).length ZJ]) (ds := []) #[false, false, false, false, false, false, false, false, false] (by kernel_rfl) rfl rfl ⟨(blk_cell XF.out 0).trans rfl, lie_below HB.out Y2⟩ (fun hHeld => ?_); refine with_tabW spec_UnderOf.tab7 spec_UnderOf.bits7 (fun HT_ HW_ => ?_)
   generalize wr.drew = w21 at YZ XF HB Y8 Y9 Za Zb ZK X2 X3 XG XH XI XJ XK XL XM XN XO XP X4 XQ XR XS XT XU XV XW XX XY XZ X5 X0 X6 X7 X8 X9 Ya Yb hHeld ⊢
   refine pzx (i := 1) (N := 21) (bA 9 2) HT_ ?_; refine pzx (i := 3) (N := 23) (bA 9 10) HT_ ?_; refine pzx (i := 7) (N := 27) (bA 9 138) HT_ ?_
   refine take_ (i := 0) (N := some 20) (v := ?_) (a' := ?_) (bA 9 139) rfl rfl (take_ofW HT_.out HW_.out (by kernel_rfl)) (fun _ _ _ h => h) (Or.inl ⟨by rfl, ?_⟩) hHeld ?_ ?_
   rotate_left
   ·rintro w' ⟨s0, sL117⟩
    first | (refine load_yields (t := 69) (x := ?UO) ?Jl ?Jm _ _ sL117 Try.underlying69 rfl (show (Try.prog.info? 69).map (·.size) = some 31 by kernel_rfl); (case Jl => rfl); (case Jm => rfl)) | (have c0_ := lie_at sL117 0 _ rfl; simp only [Nat.add_zero, Addr.add_zero'] at c0_; go_simp; with_reducible rfl) | (have c0_ : w'.cell? ⟨(X1.add ((XD).toNat * 31)).block, (X1.add ((XD).toNat * 31)).off + 2, none⟩ = some (.bool ((rd_T69 l0_0 XD).f2)) := lie_at sL117 2 _ rfl; go_simp; with_reducible rfl) | (go_simp; with_reducible rfl)
   rotate_left
   ·exact x4_put
   refine take_ (i := 2) (N := some 22) (v := ?_) (a' := ?_) (bA 9 143) rfl rfl (take_ofW HT_.out HW_.out (by kernel_rfl)) (fun _ _ _ h => h) (Or.inl ⟨by rfl, ?_⟩) hHeld ?_ ?_
   rotate_left
   ·rintro w' ⟨s0, sL117⟩
    first | (refine load_yields (t := 69) (x := ?UQ) ?Jn ?Jo _ _ sL117 Try.underlying69 rfl (show (Try.prog.info? 69).map (·.size) = some 31 by kernel_rfl); (case Jn => rfl); (case Jo => rfl)) | (have c0_ := lie_at sL117 0 _ rfl; simp only [Nat.add_zero, Addr.add_zero'] at c0_; go_simp; with_reducible rfl) | (have c0_ : w'.cell? ⟨(X1.add ((XD).toNat * 31)).block, (X1.add ((XD).toNat * 31)).off + 2, none⟩ = some (.bool ((rd_T69 l0_0 XD).f2)) := lie_at sL117 2 _ rfl; go_simp; with_reducible rfl) | (go_simp; with_reducible rfl)
   rotate_left
   ·exact x4_put
   refine pzx (i := 4) (N := 24) (bA 9 159) HT_ ?_; refine pzx (i := 5) (N := 25) (bA 9 191) HT_ ?_
   refine take_ (i := 6) (N := some 26) (v := ?_) (a' := ?_) (bA 9 255) rfl rfl (take_ofW HT_.out HW_.out (by kernel_rfl)) (fun _ _ _ h => h) (Or.inl ⟨by rfl, ?_⟩) hHeld ?_ ?_
   rotate_left
   ·rintro w' ⟨s0, sL117⟩
    first | (refine load_yields (t := 69) (x := ?UR) ?Jp ?Jq _ _ sL117 Try.underlying69 rfl (show (Try.prog.info? 69).map (·.size) = some 31 by kernel_rfl); (case Jp => rfl); (case Jq => rfl)) | (have c0_ := lie_at sL117 0 _ rfl; simp only [Nat.add_zero, Addr.add_zero'] at c0_; go_simp; with_reducible rfl) | (have c0_ : w'.cell? ⟨(X1.add ((XD).toNat * 31)).block, (X1.add ((XD).toNat * 31)).off + 2, none⟩ = some (.bool ((rd_T69 l0_0 XD).f2)) := lie_at sL117 2 _ rfl; go_simp; with_reducible rfl) | (go_simp; with_reducible rfl)
   rotate_left
   ·exact x4_put
   refine one_ (i := 8) (N := some 28) (bA 9 511) rfl rfl (one_of HT_.out (by kernel_rfl)) (by decide) (fun K hK => ?_)
   refine goes_ Try.func71 (by kernel_rfl) rfl #[.agg #[.slice (some X1) l0_0.length YY], .int .i64 ((rd_T69 l0_0 XD).f0), .int .i64 a1] (by rfl) rfl rfl q_1 ?_
   with_reducible refine (spec_l15Under.calls k1 _ _ l0_0 ((rd_T69 l0_0 XD).f0) a1 true _ ?side1 ?side2 A17.out).mono ?_
   (case side1 => exact q_192)
   (case side2 => exact ZB.out)
   rintro e w22 ⟨rfl, hb⟩
   refine ⟨_, rfl, ?_⟩
   replace YZ := bR YZ hb; replace XF := bB XF hb; replace HB := bS z4_1 hb; (try clear hb); (try clear hb2); (try clear hk); (try clear hi); refine hK.out _ _ ⟨(blk_cell XF.out 0).trans rfl, lie_below HB.out Y2⟩ (fun hHeld => ?_); clear hK K
   refine norm_ (a' := ?_) ?_ ?_
   rotate_left
   ·show Act.put _ (some 28) _ = _
    simp only [Act.put, List.setIfInBounds_toArray, List.set_cons_zero, List.set_cons_succ, i64_w, i32_w]
    rfl
   refine done_ (done_of HT_.out (by kernel_rfl)) ?_
   refine bc_1 XF.out ?_; intros
   have UE : 0 ≤ (XD : Int) := of_decide_eq_true (by first | (with_reducible assumption) | assumption)
   have UF : XD < (l0_0.length : Int) := of_decide_eq_true (by first | (with_reducible assumption) | assumption)
   obtain ⟨UV, Dl, Dm, Db, Dc, Dd, De, Df, Dg, Dh, Di, e119, ZL, ZM, ZN, ZO, ZP, ZQ, ZR, ZS, ZT, ZU, Zc, Zd, Ze, Zf, Zg, Zh, Zi, Zj, Zk, Zl, Zm, Zn, Zo, Zp, Zq, Zr, Zs, Zt, Zu, Zv, Zw, Jw, Jx, Z0, Z1, Z2, Z3, Z4, Z5, Z6, Z7⟩ := at_T69 Xe.out XD UE UF; have Uz := lie_zero ZL (lie_n ZM (lie_n ZN (lie_n ZO (lie_n ZP (lie_n ZQ (lie_n ZR (lie_n ZS (lie_n ZT (lie_n ZU (lie_n Zc (lie_n Zd (lie_n Ze (lie_n Zf (lie_n Zg (lie_n Zh (lie_n Zi (lie_n Zj (lie_n Zk (lie_n Zl (lie_n Zm (lie_n Zn (lie_n Zo (lie_n Zp (lie_n Zq (lie_n Zr (lie_n Zs (lie_n Zt (lie_n Zu (lie_n Zv (lie_n Zw (lie_nil _ _ _)))))))))))))))))))))))))))))))
   obtain rfl : X1 = UV := (by injection e119)
   replace ZL := cell_go HB ZL; replace ZM := cell_go HB ZM; replace ZN := cell_go HB ZN; replace ZO := cell_go HB ZO; replace ZP := cell_go HB ZP; replace ZQ := cell_go HB ZQ; replace ZR := cell_go HB ZR; replace ZS := cell_go HB ZS; replace ZT := cell_go HB ZT; replace ZU := cell_go HB ZU; replace Zc := cell_go HB Zc; replace Zd := cell_go HB Zd; replace Ze := cell_go HB Ze; replace Zf := cell_go HB Zf; replace Zg := cell_go HB Zg; replace Zh := cell_go HB Zh; replace Zi := cell_go HB Zi; replace Zj := cell_go HB Zj; replace Zk := cell_go HB Zk; replace Zl := cell_go HB Zl; replace Zm := cell_go HB Zm; replace Zn := cell_go HB Zn; replace Zo := cell_go HB Zo; replace Zp := cell_go HB Zp; replace Zq := cell_go HB Zq; replace Zr := cell_go HB Zr; replace Zs := cell_go HB Zs; replace Zt := cell_go HB Zt; replace Zu := cell_go HB Zu; replace Zv := cell_go HB Zv; replace Zw := cell_go HB Zw; have Dj := mk0 Jx; have Dk := mk0 Jw; clear Jx Jw; have UW := mk0 Z1; have UX := mk0 Z0; clear Z1 Z0; have UY := mk0 Z3; have UZ := mk0 Z2; clear Z3 Z2; have U0 := mk0 Z5; have U1 := mk0 Z4; clear Z5 Z4; have U2 := mk0 Z7; have U3 := mk0 Z6; clear Z7 Z6; replace UE := eq_true UE; replace UF := eq_true UF
   try go_wp2_with (first | ((with_reducible refine gate_load (t := 69) rfl ?_); refine load_lie (t := 69) rfl rfl Y2 HB (by with_reducible rfl) rfl Try.underlying69 rfl (show (Try.prog.info? 69).map (·.size) = some 31 by kernel_rfl) rfl ?_) | ((with_reducible refine gate_load (t := 69) rfl ?_); refine load_lie0 (t := 69) rfl rfl Y2 (by with_reducible rfl) rfl Try.underlying69 rfl (show (Try.prog.info? 69).map (·.size) = some 31 by kernel_rfl) rfl ?_) | ((with_reducible refine gate_load (t := 69) rfl ?_); refine load_lie (t := 69) rfl rfl Uz HB (by with_reducible rfl) rfl Try.underlying69 rfl (show (Try.prog.info? 69).map (·.size) = some 31 by kernel_rfl) rfl ?_) | ((with_reducible refine gate_load (t := 69) rfl ?_); refine load_lie0 (t := 69) rfl rfl Uz (by with_reducible rfl) rfl Try.underlying69 rfl (show (Try.prog.info? 69).map (·.size) = some 31 by kernel_rfl) rfl ?_) | ((with_reducible refine gate_builtin (b := .append) (xs := #[.tmp 29, .tmp 36]) rfl ?_); at_builtin; refine Kd.R_append (Kd.int .i64) (w0 := w) w.heap.size rfl (.tmp 29) (.tmp 36) 24 3 (.int .i64 0) 8 rfl Try.underlying24 info3 rfl (by decide) (by omega) u5 Ja ((rd_T69 l0_0 XD).f0) [.int .i64 ((rd_T69 l0_0 XD).f0)] (fun _ => True) (fun _ => False) rfl rfl ?aP (fun _ hk => hk.elim) ?aF ?aO ?aB ?aS ?aL ?_; (case aP => exact rfl); (case aB => exact z4_1); (case aF => exact (fun _ _ => trivial)); (case aO => exact (pkR YZ)); (case aS => exact (below_size z4_1)); (case aL => have := LMc19.out; omega); intro v121 w24 ho hb hg hat; rw [← UU.out] at ho; replace XF := mk0 (gB XF (pkb XF) hg (Kd.R_ne YZ.out XF.out (by decide))); replace HB := mk0 (hb); have U4 := mk0 (ho); clear YZ ho hb hg hat))
   go_roundg k1
   case measure => have := HK1.out; omega
   case rel => exact ⟨(UT), (wrap64 (XD + 1)), rs0, H', ⟨(by have := HK1.out; omega)⟩, ⟨pkR U4⟩, ⟨pkb XF⟩, ⟨z4_1⟩⟩

/-! ### impl_NodeAt_1: function 82 -/
def impl_NodeAt_1.f (a0_0 : Int) (a0_1 : Int) (a0_2 : Bool) (a0_3 : Int) (a0_4 : Int) (a0_5 : Int) (a0_6 : Int) (a0_7 : Int) (a0_8 : Int) (l0_9 : List Int) (l0_10 : List (S29)) (a0_11 : Bool) (a0_12 : Int) (l0_13 : List Int) (a0_14 : Int) (a0_15 : Int) (a0_16 : Int) (a0_17 : Int) (a0_18 : Int) (a0_19 : Int) (a0_20 : Int) (a0_21 : Int) (a0_22 : Int) (a0_23 : Int) (a0_24 : Int) (a0_25 : Int) (a0_26 : Int) (a0_27 : Int) (a0_28 : Int) (l0_29 : List Int) (l0_30 : List (S29)) (a1 : Int) : Option (Bool) := some (a0_0 == a1)
set_option maxHeartbeats 8000000 in
set_option maxRecDepth 100000 in
theorem impl_NodeAt_1.calls (a0_0 : Int) (a0_1 : Int) (a0_2 : Bool) (a0_3 : Int) (a0_4 : Int) (a0_5 : Int) (a0_6 : Int) (a0_7 : Int) (a0_8 : Int) (UG : Option Addr) (UH : Nat) (l0_9 : List Int) (J2 : Option Addr) (J3 : Nat) (l0_10 : List (S29)) (a0_11 : Bool) (a0_12 : Int) (J4 : Option Addr) (J5 : Nat) (l0_13 : List Int) (a0_14 : Int) (a0_15 : Int) (a0_16 : Int) (a0_17 : Int) (a0_18 : Int) (a0_19 : Int) (a0_20 : Int) (a0_21 : Int) (a0_22 : Int) (a0_23 : Int) (a0_24 : Int) (a0_25 : Int) (a0_26 : Int) (a0_27 : Int) (a0_28 : Int) (J6 : Option Addr) (J7 : Nat) (l0_29 : List Int) (J8 : Option Addr) (J9 : Nat) (l0_30 : List (S29)) (g1 : Nat) (a1 : Int) (r : Bool) (w : World) (hr0_9 : Kd.C (Kd.int .i64) w UG l0_9.length l0_9) (hc0_9 : l0_9.length ≤ UH) (hr0_10 : Kd.C k29 w J2 l0_10.length l0_10) (hc0_10 : l0_10.length ≤ J3) (hr0_13 : Kd.C (Kd.int .i64) w J4 l0_13.length l0_13) (hc0_13 : l0_13.length ≤ J5) (hr0_29 : Kd.C (Kd.int .i64) w J6 l0_29.length l0_29) (hc0_29 : l0_29.length ≤ J7) (hr0_30 : Kd.C k29 w J8 l0_30.length l0_30) (hc0_30 : l0_30.length ≤ J9) (hb1 : w.heap[g1]? = some (.cells #[.int .i64 a1] 3 (0, 0))) (h : impl_NodeAt_1.f a0_0 a0_1 a0_2 a0_3 a0_4 a0_5 a0_6 a0_7 a0_8 l0_9 l0_10 a0_11 a0_12 l0_13 a0_14 a0_15 a0_16 a0_17 a0_18 a0_19 a0_20 a0_21 a0_22 a0_23 a0_24 a0_25 a0_26 a0_27 a0_28 l0_29 l0_30 a1 = some r) :
  Calls Try.prog 82 #[.agg #[.int .i64 a0_0, .int .i64 a0_1, .bool a0_2, .int .i64 a0_3, .int .i64 a0_4, .int .i64 a0_5, .int .i64 a0_6, .int .i64 a0_7, .int .i64 a0_8, .slice UG l0_9.length UH, .slice J2 l0_10.length J3, .bool a0_11, .int .i64 a0_12, .slice J4 l0_13.length J5, .int .i64 a0_14, .int .i64 a0_15, .int .i64 a0_16, .int .i64 a0_17, .int .i64 a0_18, .int .i64 a0_19, .int .i64 a0_20, .int .i64 a0_21, .int .i64 a0_22, .int .i64 a0_23, .int .i64 a0_24, .int .i64 a0_25, .int .i64 a0_26, .int .i64 a0_27, .int .i64 a0_28, .slice J6 l0_29.length J7, .slice J8 l0_30.length J9], .pointer (some ⟨g1, 0, none⟩)] w fun e w' => e = .returned (.bool r) ∧ Below w.heap.size w w' := by
 have hu69 := Try.underlying69; have Dv := mk0 hr0_9; have Dw := mk0 hc0_9; clear hr0_9 hc0_9; have Dn := mk0 hr0_10; have Do := mk0 hc0_10; clear hr0_10 hc0_10; have Dp := mk0 hr0_13; have Dq := mk0 hc0_13; clear hr0_13 hc0_13; have Dr := mk0 hr0_29; have Ds := mk0 hc0_29; clear hr0_29 hc0_29; have Dt := mk0 hr0_30; have Du := mk0 hc0_30; clear hr0_30 hc0_30; have BK1 := mk0 hb1; clear hb1; have HB := mk0 (Below.refl w.heap.size w)
 have H : (some (a0_0 == a1)) = some r := h
 clear h
 obtain rfl := Option.some.inj H
 simp only [Option.some.injEq, Prod.mk.injEq] at H; obtain ⟨rfl⟩ := H
 go_enter Try.func82, Try.ntmps82
 go_wp2_with (first | ((with_reducible refine gate_dst (N := 2) rfl ?_); refine boxz (cs := #[.int .i64 a0_0, .int .i64 a0_1, .bool a0_2, .int .i64 a0_3, .int .i64 a0_4, .int .i64 a0_5, .int .i64 a0_6, .int .i64 a0_7, .int .i64 a0_8, .slice UG l0_9.length UH, .slice J2 l0_10.length J3, .bool a0_11, .int .i64 a0_12, .slice J4 l0_13.length J5, .int .i64 a0_14, .int .i64 a0_15, .int .i64 a0_16, .int .i64 a0_17, .int .i64 a0_18, .int .i64 a0_19, .int .i64 a0_20, .int .i64 a0_21, .int .i64 a0_22, .int .i64 a0_23, .int .i64 a0_24, .int .i64 a0_25, .int .i64 a0_26, .int .i64 a0_27, .int .i64 a0_28, .slice J6 l0_29.length J7, .slice J8 l0_30.length J9]) (t := 69) rfl ?_; intro UA hg w3 hbox hb; have U5 := mk0 (ge_go (a := w.heap.size) hg (below_size z4_8)); have U6 := U5; have Un := mk0 ((by rw [hg]; exact Nat.ne_of_lt (blk_lt (g := g1) (o := .cells #[.int .i64 a1] 3 (0, 0)) (pkb BK1)) : g1 ≠ UA)); have Uo := mk0 ((by rw [hg]; exact Nat.ne_of_gt (blk_lt (g := g1) (o := .cells #[.int .i64 a1] 3 (0, 0)) (pkb BK1)) : UA ≠ g1)); replace BK1 := mk0 (blk_below (g := g1) (o := .cells #[.int .i64 a1] 3 (0, 0)) (pkb BK1) hb); replace HB := bS z4_8 hb; have U7 := mk0 (hbox); clear hb hbox hg; have Dy := Uo.out; have Dz := Un.out; refine bc_31 U7.out ?_; intros; have hcz6_0 : w3.cell? ⟨g1, 0, none⟩ = some (.int .i64 a1) := (blk_cell BK1.out 0).trans rfl; have hfz6_0 := blk_frozen BK1.out 0))
 go_ret
 exact ⟨q_94, (by repeat (first | (with_reducible first | exact HB.out | apply below_alloc | apply pw_below_drewN | apply below_drew1 | refine below_set ?_ GE1.out | refine below_set ?_ U6.out) | exact HB.out))⟩

/-! ### impl_Node_NodeAt_1: function 8300081 -/
def impl_Node_NodeAt_1.l0 : Nat → List (S69) → Int → Int → Int → Option (Int)
 | 0, _, _, _, _ => none
 | k + 1, x0, x7, x8, UB => if x8 < x7 then (if 0 ≤ x8 then (if x8 < (x0.length : Int) then ((impl_NodeAt_1.f ((rd_T69 x0 x8).f0) ((rd_T69 x0 x8).f1) ((rd_T69 x0 x8).f2) ((rd_T69 x0 x8).f3.f0) ((rd_T69 x0 x8).f3.f1) ((rd_T69 x0 x8).f3.f2) ((rd_T69 x0 x8).f3.f3) ((rd_T69 x0 x8).f3.f4) ((rd_T69 x0 x8).f3.f5) ((rd_T69 x0 x8).f4.f0) ((rd_T69 x0 x8).f4.f1) ((rd_T69 x0 x8).f5) ((rd_T69 x0 x8).f6) ((rd_T69 x0 x8).f7) ((rd_T69 x0 x8).f8.f0) ((rd_T69 x0 x8).f8.f1.f0) ((rd_T69 x0 x8).f8.f1.f1) ((rd_T69 x0 x8).f8.f1.f2) ((rd_T69 x0 x8).f8.f1.f3) ((rd_T69 x0 x8).f8.f2.f0) ((rd_T69 x0 x8).f8.f2.f1) ((rd_T69 x0 x8).f8.f2.f2) ((rd_T69 x0 x8).f8.f2.f3) ((rd_T69 x0 x8).f8.f3.f0) ((rd_T69 x0 x8).f8.f3.f1) ((rd_T69 x0 x8).f8.f4.f0) ((rd_T69 x0 x8).f8.f4.f1) ((rd_T69 x0 x8).f9) ((rd_T69 x0 x8).f10) ((rd_T69 x0 x8).f11.f0) ((rd_T69 x0 x8).f11.f1) UB).bind fun UI => (if UI = true then (some x8) else (impl_Node_NodeAt_1.l0 k x0 x7 (wrap64 (x8 + 1)) UB))) else (none)) else (none)) else (some (-1))
def impl_Node_NodeAt_1.f (k : Nat) (l0 : List (S69))  (a2 : Int) : Option (Int) := impl_Node_NodeAt_1.l0 k l0 (l0.length : Int) 0 a2
theorem impl_Node_NodeAt_1.mono_l : ∀ k, (∀ y0 y1 y2 y3, LeO (impl_Node_NodeAt_1.l0 k y0 y1 y2 y3) (impl_Node_NodeAt_1.l0 (k + 1) y0 y1 y2 y3))
 | 0 => fun _ _ _ _ r h => by simp [impl_Node_NodeAt_1.l0] at h
 | k + 1 => by
  have ih0 := impl_Node_NodeAt_1.mono_l k
  ·intro y0 y1 y2 y3
   unfold impl_Node_NodeAt_1.l0
   with_reducible repeat' first | apply ih0 | exact LeO.refl _ | exact LeO.none _ | refine LeO.ite ?_ ?_ | refine LeO.bind ?_ (fun _ => ?_)
theorem impl_Node_NodeAt_1.mono : ∀ a0 a1 k, LeO (impl_Node_NodeAt_1.f k a0 a1) (impl_Node_NodeAt_1.f (k + 1) a0 a1) := by
 intro a0 a1 k; have ih0 := impl_Node_NodeAt_1.mono_l k
 unfold impl_Node_NodeAt_1.f
 with_reducible repeat' first | apply ih0 | exact LeO.refl _ | exact LeO.none _ | refine LeO.ite ?_ ?_ | refine LeO.bind ?_ (fun _ => ?_)
set_option maxHeartbeats 8000000 in
set_option maxRecDepth 100000 in
theorem impl_Node_NodeAt_1.calls (k : Nat) (A0 : Option Addr) (c0 : Nat) (l0 : List (S69))  (g2 : Nat) (a2 : Int) (r : Int) (w : World) (hr0 : Kd.C k69 w A0 l0.length l0) (hc0 : l0.length ≤ c0) (hb2 : w.heap[g2]? = some (.cells #[.int .i64 a2] 3 (0, 0))) (h : impl_Node_NodeAt_1.f k l0 a2 = some r) :
  Calls Try.prog 81 #[.slice A0 l0.length c0, .func (.func 82) #[] #[.pointer (some ⟨g2, 0, none⟩)]] w fun e w' => e = .returned (.int .i64 r) ∧ Below w.heap.size w w' := by
 have hu69 := Try.underlying69; have HR0 := mk0 hr0; have HC0 := mk0 hc0; clear hr0 hc0; have BK2 := mk0 hb2; clear hb2; have HB := mk0 (Below.refl w.heap.size w)
 have H : (impl_Node_NodeAt_1.l0 k l0 (l0.length : Int) 0 a2) = some r := h
 clear h
 have H' := mk0 H
 clear H; go_enter Try.func81, Try.ntmps81
 go_wp2
 go_loopg [8] k (fun kq v8 w' => ∃ (XE : Int), v8 = .int .i64 XE ∧ Aside0 (impl_Node_NodeAt_1.l0 kq l0 (l0.length : Int) XE a2 = some r) ∧ Aside0 (kq ≤ k) ∧ Aside0 (w'.heap[g2]? = some (.cells #[.int .i64 a2] 3 (0, 0))) ∧ Aside0 (Below w.heap.size w w'))
 case atStart => exact ⟨(0), rs0, H', ⟨Nat.le_refl _⟩, ⟨pkb BK2⟩, ⟨z4_3⟩⟩
 case round =>
  clear H'; obtain ⟨XE, rfl, HA, HK1, BK2, HB⟩ := hrel
  cases gk with
  | zero => exact absurd HA.out (by simp [impl_Node_NodeAt_1.l0])
  | succ k1 =>
   have H := HA.out; clear HA; simp only [impl_Node_NodeAt_1.l0] at H
   by_cases c4 : XE < (l0.length : Int)
   rotate_left
   ·rw [if_neg c4] at H; have c4b0 := decide_eq_false c4; clear c4
    obtain rfl := Option.some.inj H
    simp only [Option.some.injEq, Prod.mk.injEq] at H; obtain ⟨rfl⟩ := H
    go_wp2
    go_ret
    exact ⟨q_94, z4_3⟩
   rw [if_pos c4] at H; have c4b0 := decide_eq_true c4; clear c4
   by_cases c5 : 0 ≤ XE
   rotate_left
   ·rw [if_neg c5] at H
    exact absurd H (by simp)
   rw [if_pos c5] at H; have c5b0 := decide_eq_true c5; clear c5
   by_cases c6 : XE < (l0.length : Int)
   rotate_left
   ·rw [if_neg c6] at H
    exact absurd H (by simp)
   rw [if_pos c6] at H; have c6b0 := decide_eq_true c6; clear c6; obtain ⟨UI, A7, H⟩ := bnd H
   try dsimp only at H
   by_cases c8 : UI = true
   ·subst c8; rw [if_pos rfl] at H
    obtain rfl := Option.some.inj H
    simp only [Option.some.injEq, Prod.mk.injEq] at H; obtain ⟨rfl⟩ := H
    have Jr : 0 ≤ (XE : Int) := of_decide_eq_true (by first | (with_reducible assumption) | assumption)
    have Js : XE < (l0.length : Int) := of_decide_eq_true (by first | (with_reducible assumption) | assumption)
    obtain ⟨U8, UJ, UK, Up, Uq, Ur, Us, Ut, Uu, Uv, Uw, e124, Yx, Yy, Yz, YA, YB, YC, YD, YE, YF, YG, Yc, Yd, Ye, Yf, Yg, Yh, Yi, Yj, Yk, Yl, Ym, Yn, Yo, Yp, Yq, Yr, Ys, Yt, Yu, Yv, Yw, Y3, Y4, YP, YQ, YR, YS, YT, YU, YV, YW⟩ := at_T69 HR0.out XE Jr Js; have Z8 := lie_zero Yx (lie_n Yy (lie_n Yz (lie_n YA (lie_n YB (lie_n YC (lie_n YD (lie_n YE (lie_n YF (lie_n YG (lie_n Yc (lie_n Yd (lie_n Ye (lie_n Yf (lie_n Yg (lie_n Yh (lie_n Yi (lie_n Yj (lie_n Yk (lie_n Yl (lie_n Ym (lie_n Yn (lie_n Yo (lie_n Yp (lie_n Yq (lie_n Yr (lie_n Ys (lie_n Yt (lie_n Yu (lie_n Yv (lie_n Yw (lie_nil _ _ _)))))))))))))))))))))))))))))))
    cases e124
    replace Yx := cell_go HB Yx; replace Yy := cell_go HB Yy; replace Yz := cell_go HB Yz; replace YA := cell_go HB YA; replace YB := cell_go HB YB; replace YC := cell_go HB YC; replace YD := cell_go HB YD; replace YE := cell_go HB YE; replace YF := cell_go HB YF; replace YG := cell_go HB YG; replace Yc := cell_go HB Yc; replace Yd := cell_go HB Yd; replace Ye := cell_go HB Ye; replace Yf := cell_go HB Yf; replace Yg := cell_go HB Yg; replace Yh := cell_go HB Yh; replace Yi := cell_go HB Yi; replace Yj := cell_go HB Yj; replace Yk := cell_go HB Yk; replace Yl := cell_go HB Yl; replace Ym := cell_go HB Ym; replace Yn := cell_go HB Yn; replace Yo := cell_go HB Yo; replace Yp := cell_go HB Yp; replace Yq := cell_go HB Yq; replace Yr := cell_go HB Yr; replace Ys := cell_go HB Ys; replace Yt := cell_go HB Yt; replace Yu := cell_go HB Yu; replace Yv := cell_go HB Yv; replace Yw := cell_go HB Yw; have Jt := mk0 Y4; have ZV := mk0 Y3; clear Y4 Y3; have ZW := mk0 YQ; have Zx := mk0 YP; clear YQ YP; have ZX := mk0 YS; have Zy := mk0 YR; clear YS YR; have ZY := mk0 YU; have Zz := mk0 YT; clear YU YT; have ZZ := mk0 YW; have ZA := mk0 YV; clear YW YV; replace Jr := eq_true Jr; replace Js := eq_true Js
    go_wp2_with (first | ((with_reducible refine gate_load (t := 69) rfl ?_); refine load_lie (t := 69) rfl rfl Z8 HB (by with_reducible rfl) rfl Try.underlying69 rfl (show (Try.prog.info? 69).map (·.size) = some 31 by kernel_rfl) rfl ?_) | ((with_reducible refine gate_load (t := 69) rfl ?_); refine load_lie0 (t := 69) rfl rfl Z8 (by with_reducible rfl) rfl Try.underlying69 rfl (show (Try.prog.info? 69).map (·.size) = some 31 by kernel_rfl) rfl ?_) | (go_at_call 82; (with_reducible refine (impl_NodeAt_1.calls ((rd_T69 l0 XE).f0) ((rd_T69 l0 XE).f1) ((rd_T69 l0 XE).f2) ((rd_T69 l0 XE).f3.f0) ((rd_T69 l0 XE).f3.f1) ((rd_T69 l0 XE).f3.f2) ((rd_T69 l0 XE).f3.f3) ((rd_T69 l0 XE).f3.f4) ((rd_T69 l0 XE).f3.f5) _ _ ((rd_T69 l0 XE).f4.f0) _ _ ((rd_T69 l0 XE).f4.f1) ((rd_T69 l0 XE).f5) ((rd_T69 l0 XE).f6) _ _ ((rd_T69 l0 XE).f7) ((rd_T69 l0 XE).f8.f0) ((rd_T69 l0 XE).f8.f1.f0) ((rd_T69 l0 XE).f8.f1.f1) ((rd_T69 l0 XE).f8.f1.f2) ((rd_T69 l0 XE).f8.f1.f3) ((rd_T69 l0 XE).f8.f2.f0) ((rd_T69 l0 XE).f8.f2.f1) ((rd_T69 l0 XE).f8.f2.f2) ((rd_T69 l0 XE).f8.f2.f3) ((rd_T69 l0 XE).f8.f3.f0) ((rd_T69 l0 XE).f8.f3.f1) ((rd_T69 l0 XE).f8.f4.f0) ((rd_T69 l0 XE).f8.f4.f1) ((rd_T69 l0 XE).f9) ((rd_T69 l0 XE).f10) _ _ ((rd_T69 l0 XE).f11.f0) _ _ ((rd_T69 l0 XE).f11.f1) g2 a2 true _ ?side1 ?side2 ?side3 ?side4 ?side5 ?side6 ?side7 ?side8 ?side9 ?side10 ?side11 A7.out).mono ?_); (case side1 => exact z4_15); (case side2 => exact ZV.out); (case side3 => exact z4_11); (case side4 => exact Zx.out); (case side5 => exact z4_12); (case side6 => exact Zy.out); (case side7 => exact z4_13); (case side8 => exact Zz.out); (case side9 => exact z4_14); (case side10 => exact ZA.out); (case side11 => (with_reducible repeat (first | refine blk_drewN ?_ _ | refine blk_drew ?_ | refine blk_alloc ?_ _)); exact BK2.out); rintro e w9 ⟨rfl, hb⟩; replace BK2 := mk0 (blk_below (g := g2) (o := .cells #[.int .i64 a2] 3 (0, 0)) (pkb BK2) hb); replace HB := bS z4_3 hb; clear hb))
    go_ret
    exact ⟨q_94, z4_3⟩
   replace c8 := Bool.eq_false_iff.mpr c8; subst c8; rw [if_neg (show ¬ (false = true) by decide)] at H
   have H' := mk0 H
   clear H
   have Jr : 0 ≤ (XE : Int) := of_decide_eq_true (by first | (with_reducible assumption) | assumption)
   have Js : XE < (l0.length : Int) := of_decide_eq_true (by first | (with_reducible assumption) | assumption)
   obtain ⟨U8, UJ, UK, Up, Uq, Ur, Us, Ut, Uu, Uv, Uw, e124, Yx, Yy, Yz, YA, YB, YC, YD, YE, YF, YG, Yc, Yd, Ye, Yf, Yg, Yh, Yi, Yj, Yk, Yl, Ym, Yn, Yo, Yp, Yq, Yr, Ys, Yt, Yu, Yv, Yw, Y3, Y4, YP, YQ, YR, YS, YT, YU, YV, YW⟩ := at_T69 HR0.out XE Jr Js; have Z8 := lie_zero Yx (lie_n Yy (lie_n Yz (lie_n YA (lie_n YB (lie_n YC (lie_n YD (lie_n YE (lie_n YF (lie_n YG (lie_n Yc (lie_n Yd (lie_n Ye (lie_n Yf (lie_n Yg (lie_n Yh (lie_n Yi (lie_n Yj (lie_n Yk (lie_n Yl (lie_n Ym (lie_n Yn (lie_n Yo (lie_n Yp (lie_n Yq (lie_n Yr (lie_n Ys (lie_n Yt (lie_n Yu (lie_n Yv (lie_n Yw (lie_nil _ _ _)))))))))))))))))))))))))))))))
   cases e124
   replace Yx := cell_go HB Yx; replace Yy := cell_go HB Yy; replace Yz := cell_go HB Yz; replace YA := cell_go HB YA; replace YB := cell_go HB YB; replace YC := cell_go HB YC; replace YD := cell_go HB YD; replace YE := cell_go HB YE; replace YF := cell_go HB YF; replace YG := cell_go HB YG; replace Yc := cell_go HB Yc; replace Yd := cell_go HB Yd; replace Ye := cell_go HB Ye; replace Yf := cell_go HB Yf; replace Yg := cell_go HB Yg; replace Yh := cell_go HB Yh; replace Yi := cell_go HB Yi; replace Yj := cell_go HB Yj; replace Yk := cell_go HB Yk; replace Yl := cell_go HB Yl; replace Ym := cell_go HB Ym; replace Yn := cell_go HB Yn; replace Yo := cell_go HB Yo; replace Yp := cell_go HB Yp; replace Yq := cell_go HB Yq; replace Yr := cell_go HB Yr; replace Ys := cell_go HB Ys; replace Yt := cell_go HB Yt; replace Yu := cell_go HB Yu; replace Yv := cell_go HB Yv; replace Yw := cell_go HB Yw; have Jt := mk0 Y4; have ZV := mk0 Y3; clear Y4 Y3; have ZW := mk0 YQ; have Zx := mk0 YP; clear YQ YP; have ZX := mk0 YS; have Zy := mk0 YR; clear YS YR; have ZY := mk0 YU; have Zz := mk0 YT; clear YU YT; have ZZ := mk0 YW; have ZA := mk0 YV; clear YW YV; replace Jr := eq_true Jr; replace Js := eq_true Js
   go_wp2_with (first | ((with_reducible refine gate_load (t := 69) rfl ?_); refine load_lie (t := 69) rfl rfl Z8 HB (by with_reducible rfl) rfl Try.underlying69 rfl (show (Try.prog.info? 69).map (·.size) = some 31 by kernel_rfl) rfl ?_) | ((with_reducible refine gate_load (t := 69) rfl ?_); refine load_lie0 (t := 69) rfl rfl Z8 (by with_reducible rfl) rfl Try.underlying69 rfl (show (Try.prog.info? 69).map (·.size) = some 31 by kernel_rfl) rfl ?_) | (go_at_call 82; (with_reducible refine (impl_NodeAt_1.calls ((rd_T69 l0 XE).f0) ((rd_T69 l0 XE).f1) ((rd_T69 l0 XE).f2) ((rd_T69 l0 XE).f3.f0) ((rd_T69 l0 XE).f3.f1) ((rd_T69 l0 XE).f3.f2) ((rd_T69 l0 XE).f3.f3) ((rd_T69 l0 XE).f3.f4) ((rd_T69 l0 XE).f3.f5) _ _ ((rd_T69 l0 XE).f4.f0) _ _ ((rd_T69 l0 XE).f4.f1) ((rd_T69 l0 XE).f5) ((rd_T69 l0 XE).f6) _ _ ((rd_T69 l0 XE).f7) ((rd_T69 l0 XE).f8.f0) ((rd_T69 l0 XE).f8.f1.f0) ((rd_T69 l0 XE).f8.f1.f1) ((rd_T69 l0 XE).f8.f1.f2) ((rd_T69 l0 XE).f8.f1.f3) ((rd_T69 l0 XE).f8.f2.f0) ((rd_T69 l0 XE).f8.f2.f1) ((rd_T69 l0 XE).f8.f2.f2) ((rd_T69 l0 XE).f8.f2.f3) ((rd_T69 l0 XE).f8.f3.f0) ((rd_T69 l0 XE).f8.f3.f1) ((rd_T69 l0 XE).f8.f4.f0) ((rd_T69 l0 XE).f8.f4.f1) ((rd_T69 l0 XE).f9) ((rd_T69 l0 XE).f10) _ _ ((rd_T69 l0 XE).f11.f0) _ _ ((rd_T69 l0 XE).f11.f1) g2 a2 false _ ?side1 ?side2 ?side3 ?side4 ?side5 ?side6 ?side7 ?side8 ?side9 ?side10 ?side11 A7.out).mono ?_); (case side1 => exact z4_15); (case side2 => exact ZV.out); (case side3 => exact z4_11); (case side4 => exact Zx.out); (case side5 => exact z4_12); (case side6 => exact Zy.out); (case side7 => exact z4_13); (case side8 => exact Zz.out); (case side9 => exact z4_14); (case side10 => exact ZA.out); (case side11 => (with_reducible repeat (first | refine blk_drewN ?_ _ | refine blk_drew ?_ | refine blk_alloc ?_ _)); exact BK2.out); rintro e w10 ⟨rfl, hb⟩; replace BK2 := mk0 (blk_below (g := g2) (o := .cells #[.int .i64 a2] 3 (0, 0)) (pkb BK2) hb); replace HB := bS z4_3 hb; clear hb))
   go_roundg k1
   case measure => have := HK1.out; omega
   case rel => exact ⟨(wrap64 (XE + 1)), rs0, H', ⟨(by have := HK1.out; omega)⟩, ⟨pkb BK2⟩, ⟨z4_3⟩⟩

/-! ### impl_NodeAt: function 41 -/
def impl_NodeAt.f (k : Nat) (l0_0 : List (S69)) (a1 : Int) : Option (Int) := (impl_Node_NodeAt_1.f k l0_0 a1).bind fun Ua => (some Ua)
theorem impl_NodeAt.mono : ∀ a0 a1 k, LeO (impl_NodeAt.f k a0 a1) (impl_NodeAt.f (k + 1) a0 a1) := by
 intro a0 a1 k
 unfold impl_NodeAt.f
 with_reducible repeat' first | apply impl_Node_NodeAt_1.mono | exact LeO.refl _ | exact LeO.none _ | refine LeO.ite ?_ ?_ | refine LeO.bind ?_ (fun _ => ?_)
set_option maxHeartbeats 8000000 in
set_option maxRecDepth 100000 in
theorem impl_NodeAt.calls (k : Nat) (Y6 : Option Addr) (YY : Nat) (l0_0 : List (S69)) (a1 : Int) (r : Int) (w : World) (hr0_0 : Kd.C k69 w Y6 l0_0.length l0_0) (hc0_0 : l0_0.length ≤ YY) (h : impl_NodeAt.f k l0_0 a1 = some r) :
  Calls Try.prog 41 #[.agg #[.slice Y6 l0_0.length YY], .int .i64 a1] w fun e w' => e = .returned (.int .i64 r) ∧ Below w.heap.size w w' := by
 have hu53 := Try.underlying53
 have hmf : ∀ (fn : Fn) (first cap : Array Value) (w : World), (Instr.makeFunc fn first cap).run Try.prog w = .ok (.func fn first cap) w := fun _ _ _ _ => rfl
 have Xe := mk0 hr0_0; have ZB := mk0 hc0_0; clear hr0_0 hc0_0; have HB := mk0 (Below.refl w.heap.size w)
 have H : ((impl_Node_NodeAt_1.f k l0_0 a1).bind fun Ua => (some Ua)) = some r := h
 clear h; obtain ⟨Ua, A3, H⟩ := bnd H
 try dsimp only at H
 obtain rfl := Option.some.inj H
 simp only [Option.some.injEq, Prod.mk.injEq] at H; obtain ⟨rfl⟩ := H
 go_enter Try.func41, Try.ntmps41
 go_wp2_with (first | ((with_reducible refine gate_dst (N := 2) rfl ?_); refine boxz (cs := #[.slice Y6 l0_0.length YY]) (t := 53) rfl ?_; intro Dx hg w4 hbox hb; have U9 := mk0 (ge_go (a := w.heap.size) hg (below_size q_162)); have Uy := U9; replace HB := bS q_162 hb; have Y5 := mk0 (hbox); clear hb hbox hg) | ((with_reducible refine gate_dst (N := 3) rfl ?_); refine boxz (cs := #[.int .i64 a1]) (t := 3) rfl ?_; intro UC hg w5 hbox hb; have Da := mk0 (ge_go (a := w.heap.size) hg (below_size z4_7)); have US := Da; have Jz := mk0 (nb_lt hg (blk_ltB Y5 (pkb Y5))); have JA := mk0 (nb_gt hg (blk_ltB Y5 (pkb Y5))); replace Y5 := bB Y5 hb; replace HB := bS z4_7 hb; have Ub := mk0 (hbox); clear hb hbox hg; have DA := Jz.out; have DB := JA.out; refine bc_1 Y5.out ?_; intros) | ((with_reducible refine gate_callee (f := 81) rfl ?_); refine gl_ (some 8) Try.func81 #[.slice Y6 l0_0.length YY, .func (.func 82) #[] #[.pointer (some ⟨UC, 0, none⟩)]] rfl q_1 ?_; (with_reducible refine (impl_Node_NodeAt_1.calls k _ _ l0_0 UC a1 Ua _ ?side1 ?side2 ?side3 A3.out).mono ?_); (case side1 => exact q_192); (case side2 => exact ZB.out); (case side3 => (with_reducible repeat (first | refine blk_drewN ?_ _ | refine blk_drew ?_ | refine blk_alloc ?_ _)); exact Ub.out); rintro e w8 ⟨rfl, hb⟩; refine ⟨_, rfl, ?_⟩; replace Y5 := bB Y5 hb; replace Ub := bB Ub hb; replace HB := bS z4_10 hb; clear hb))
 go_ret
 exact ⟨q_94, z4_10⟩

end Go.Proofs.Ytjfienkbcacijaa.MFnTrees
