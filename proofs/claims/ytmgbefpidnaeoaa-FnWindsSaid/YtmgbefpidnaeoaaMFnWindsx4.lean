/- Functions of the program as Lean functions, and the proof that a call comes to just these: machine text of this session's own program (myprint.py). -/
import Derived.Test.YtmgbefpidnaeoaaMFnWindsx0
import Derived.Test.YtmgbefpidnaeoaaMFnWindsx1
import Derived.Test.YtmgbefpidnaeoaaMFnWindsx2
import Derived.Test.YtmgbefpidnaeoaaMFnWindsx3
namespace Go.Proofs.Ytmgbefpidnaeoaa.MFnWinds
open Go.RowKit Go.Proofs.YtmgbefpidnaeoaaW.PrintWords Go.Proofs.YtmgbefpidnaeoaaW.PrintLast Go.Proofs.YtmgbefpidnaeoaaW.PrintMore
attribute [local go_sem] max2_int min2_int max_two min_two max_three min_three max_four min_four   -- for this text's walks alone
set_option linter.unusedVariables false
set_option linter.unusedSimpArgs false

/-! ### impl_Covers: function 12 -/
def impl_Covers.l0 : Nat → Bool → Int → List (List (S29)) → Int → Int → Int → Int → Option (Bool)
  | 0, _, _, _, _, _, _, _ => none
  | k + 1, x1, x7, x10, x11, x12, x184000, x184001 => if x12 < x11 then (if 0 ≤ x12 then (if x12 < (x10.length : Int) then ((impl_WindOf.f k (rd_L3 x10 x12) x184000 x184001).bind fun t185 => (impl_Covers.l0 k x1 (wrap64 (x7 + t185)) x10 x11 (wrap64 (x12 + 1)) x184000 x184001)) else (none)) else (none)) else (if x1 = true then (some ((Int.tmod x7 2) != 0)) else (some (x7 != 0)))
def impl_Covers.f (k : Nat) (l0 : List (List (S29))) (a1 : Bool) (a2_0 : Int) (a2_1 : Int) : Option (Bool) := impl_Covers.l0 k a1 0 l0 (l0.length : Int) 0 a2_0 a2_1
theorem impl_Covers.mono_l : ∀ k, (∀ y0 y1 y2 y3 y4 y5 y6, LeO (impl_Covers.l0 k y0 y1 y2 y3 y4 y5 y6) (impl_Covers.l0 (k + 1) y0 y1 y2 y3 y4 y5 y6))
  | 0 => fun _ _ _ _ _ _ _ r h => by simp [impl_Covers.l0] at h
  | k + 1 => by
    have ih0 := impl_Covers.mono_l k
    · intro y0 y1 y2 y3 y4 y5 y6
      unfold impl_Covers.l0
      repeat' first
      | (with_reducible exact ih0 _ _ _ _ _ _ _)
      | (with_reducible exact impl_WindOf.mono _ _ _ _)
      | (with_reducible exact LeO.refl _)
      | (with_reducible exact LeO.none _)
      | (with_reducible refine LeO.ite ?_ ?_)
      | (with_reducible refine LeO.bind ?_ (fun _ => ?_))
      | exact ih0 _ _ _ _ _ _ _
      | exact impl_WindOf.mono _ _ _ _
      | exact LeO.none _
      | refine LeO.ite ?_ ?_
      | refine LeO.bind ?_ (fun _ => ?_)
theorem impl_Covers.mono : ∀ a0 a1 a2 a3 k, LeO (impl_Covers.f k a0 a1 a2 a3) (impl_Covers.f (k + 1) a0 a1 a2 a3) := by
  intro a0 a1 a2 a3 k
  have ih0 := impl_Covers.mono_l k
  unfold impl_Covers.f
  repeat' first
      | (with_reducible exact ih0 _ _ _ _ _ _ _)
      | (with_reducible exact impl_WindOf.mono _ _ _ _)
      | (with_reducible exact LeO.refl _)
      | (with_reducible exact LeO.none _)
      | (with_reducible refine LeO.ite ?_ ?_)
      | (with_reducible refine LeO.bind ?_ (fun _ => ?_))
      | exact ih0 _ _ _ _ _ _ _
      | exact impl_WindOf.mono _ _ _ _
      | exact LeO.none _
      | refine LeO.ite ?_ ?_
      | refine LeO.bind ?_ (fun _ => ?_)
set_option maxHeartbeats 8000000 in
set_option maxRecDepth 100000 in
theorem impl_Covers.calls (k : Nat) (A0 : Option Addr) (c0 : Nat) (l0 : List (List (S29))) (a1 : Bool) (a2_0 : Int) (a2_1 : Int) (r : Bool) (w : World) (hr0 : Kd.C (Kd.slice 29 k29) w A0 l0.length l0) (hc0 : l0.length ≤ c0) (h : impl_Covers.f k l0 a1 a2_0 a2_1 = some r) :
    Calls Try.prog 12 #[.slice A0 l0.length c0, .bool a1, .agg #[.int .i64 a2_0, .int .i64 a2_1]] w fun e w' => e = .returned (.bool r) ∧ Below w.heap.size w w' := by
  have hu29 := Try.underlying29
  have HR0 := Aside0.mk hr0
  have HC0 := Aside0.mk hc0
  clear hr0 hc0
  have HB := Aside0.mk (Below.refl w.heap.size w)
  have H : (impl_Covers.l0 k a1 0 l0 (l0.length : Int) 0 a2_0 a2_1) = some r := h
  clear h
  have H' := Aside0.mk H
  clear H
  go_enter Try.func12, Try.ntmps12
  go_wp2_with (first | ((with_reducible refine gate_dst (N := 5) rfl ?_); refine box_event ?hg (N := 5) ?hd (cs := #[.int .i64 a2_0, .int .i64 a2_1]) (t := 29) ?hr ?_; (case hd => rfl); (case hg => rfl); (case hr => first | (go_simp; done) | (go_simp; rfl)); intro gb183 hg w4 hbox hb; have n0_ := Aside0.mk (below_step (by repeat (first | (with_reducible first | exact HB.out | apply below_alloc | apply pw_below_drewN | apply below_drew1) | exact HB.out)) hb); have n1_ := Aside0.mk (hbox); have n2_ := Aside0.mk ((by rw [hg]; exact (below_size (by repeat (first | (with_reducible first | exact HB.out | apply below_alloc | apply pw_below_drewN | apply below_drew1) | exact HB.out))) : w.heap.size ≤ gb183)); have n3_ := Aside0.mk ((by rw [hg]; exact (below_size (by repeat (first | (with_reducible first | exact HB.out | apply below_alloc | apply pw_below_drewN | apply below_drew1) | exact HB.out))) : w.heap.size ≤ gb183)); clear HB; have HB := n0_; have BK183 := n1_; have GW183 := n2_; have GE183 := n3_; clear n0_ n1_ n2_ n3_; clear hb hbox hg))
  go_loopg [7, 12] k (fun kq v7 v12 w' => ∃ (x7_1 : Int) (x12_1 : Int), v7 = .int .i64 x7_1 ∧ v12 = .int .i64 x12_1 ∧ Aside0 (impl_Covers.l0 kq a1 x7_1 l0 (l0.length : Int) x12_1 a2_0 a2_1 = some r) ∧ Aside0 (kq ≤ k) ∧ Aside0 (w'.heap[gb183]? = some (.cells #[.int .i64 a2_0, .int .i64 a2_1] 29 (0, 0))) ∧ Aside0 (Below w.heap.size w w'))
  case atStart => exact ⟨(0), (0), (by first | rfl | (simp; done) | (simp [*]; done)), (by first | rfl | (simp; done) | (simp [*]; done)), H', ⟨Nat.le_refl _⟩, ⟨by (with_reducible repeat (first | refine blk_drewN ?_ _ | refine blk_drew ?_ | refine blk_alloc ?_ _)); exact BK183.out⟩, ⟨by repeat (first | (with_reducible first | exact HB.out | apply below_alloc | apply pw_below_drewN | apply below_drew1 | refine below_set ?_ GE183.out) | exact HB.out)⟩⟩
  case round =>
    clear H'
    try clear c1
    try clear p2
    obtain ⟨x7_1, x12_1, rfl, rfl, HA, HK1, BK183, HB⟩ := hrel
    cases gk with
    | zero => exact absurd HA.out (by simp [impl_Covers.l0])
    | succ k1 =>
      have H := HA.out
      clear HA
      simp only [impl_Covers.l0] at H
      by_cases c5 : x12_1 < (l0.length : Int)
      · rw [if_pos c5] at H
        have c5b0 : decide (x12_1 < (l0.length : Int)) = true := decide_eq_true c5
        clear c5
        by_cases c6 : 0 ≤ x12_1
        · rw [if_pos c6] at H
          have c6b0 : decide (0 ≤ x12_1) = true := decide_eq_true c6
          clear c6
          by_cases c7 : x12_1 < (l0.length : Int)
          · rw [if_pos c7] at H
            have c7b0 : decide (x12_1 < (l0.length : Int)) = true := decide_eq_true c7
            clear c7
            replace H := Option.bind_eq_some_iff.mp H
            obtain ⟨t185, A80, H⟩ := H
            replace H : (impl_Covers.l0 k1 a1 (wrap64 (x7_1 + t185)) l0 (l0.length : Int) (wrap64 (x12_1 + 1)) a2_0 a2_1) = some r := H
            have A8 := Aside0.mk A80
            clear A80
            have H' := Aside0.mk H
            clear H
            have p184 : 0 ≤ (x12_1 : Int) := of_decide_eq_true (by first | (with_reducible assumption) | assumption)
            have q184 : x12_1 < (l0.length : Int) := of_decide_eq_true (by first | (with_reducible assumption) | assumption)
            obtain ⟨ad184, A184_0, c184_0, e184, hx184_0, hl184_0, hi184_0⟩ := at_L3 HR0.out x12_1 p184 q184
            cases e184
            replace hx184_0 := (HB.out.cell (World.block_lt_of_cell? w _ hx184_0)).trans hx184_0
            have HR184_0 := Aside0.mk hi184_0
            have HC184_0 := Aside0.mk hl184_0
            clear hi184_0 hl184_0
            replace p184 := eq_true p184
            replace q184 := eq_true q184
            have hcz9_0 : wr.cell? ⟨gb183, 0, none⟩ = some (.int .i64 a2_0) := (blk_cell BK183.out 0).trans rfl
            have hcz9_1 : wr.cell? ⟨gb183, 1, none⟩ = some (.int .i64 a2_1) := (blk_cell BK183.out 1).trans rfl
            have hfz9_0 := blk_frozen BK183.out 0
            have hfz9_1 := blk_frozen BK183.out 1
            go_wp2_with (first | ((with_reducible refine gate_callee (f := 10) rfl ?_); refine goesL_ (some 19) rfl rfl Try.func10 (by kernel_rfl) rfl #[.slice A184_0 (rd_L3 l0 x12_1).length c184_0, .agg #[.int .i64 a2_0, .int .i64 a2_1]] rfl (by (try simp only [List.map_toArray, List.map_cons, List.map_nil]); first | done | rfl | (simp only [List.length_drop, List.length_take]; rfl)) ?_; (with_reducible refine (impl_WindOf.calls k1 _ _ (rd_L3 l0 x12_1) a2_0 a2_1 t185 _ ?side1 ?side2 A8.out).mono ?_); (case side1 => repeat (first | exact (Kd.C_below HR184_0.out HB.out) | (with_reducible refine Kd.C_alloc ?_ _) | (with_reducible refine Kd.C_drewN ?_ _) | (with_reducible refine Kd.C_drew ?_))); (case side2 => exact HC184_0.out); rintro e w10 ⟨rfl, hb⟩; refine ⟨_, rfl, ?_⟩; have n0_ := Aside0.mk (blk_below (g := gb183) (o := .cells #[.int .i64 a2_0, .int .i64 a2_1] 29 (0, 0)) (by (with_reducible repeat (first | refine blk_drewN ?_ _ | refine blk_drew ?_ | refine blk_alloc ?_ _)); exact BK183.out) hb); have n1_ := Aside0.mk (below_step (by repeat (first | (with_reducible first | exact HB.out | apply below_alloc | apply pw_below_drewN | apply below_drew1 | refine below_set ?_ GE183.out) | exact HB.out)) hb); clear BK183; clear HB; have BK183 := n0_; have HB := n1_; clear n0_ n1_; (try clear hb); (try clear hb2); (try clear hk); (try clear hi)))
            go_roundg k1
            case measure => have := HK1.out; omega
            case rel => exact ⟨(wrap64 (x7_1 + t185)), (wrap64 (x12_1 + 1)), (by first | rfl | (simp; done) | (simp [*]; done)), (by first | rfl | (simp; done) | (simp [*]; done)), H', ⟨by have := HK1.out; omega⟩, ⟨by (with_reducible repeat (first | refine blk_drewN ?_ _ | refine blk_drew ?_ | refine blk_alloc ?_ _)); exact BK183.out⟩, ⟨by repeat (first | (with_reducible first | exact HB.out | apply below_alloc | apply pw_below_drewN | apply below_drew1 | refine below_set ?_ GE183.out) | exact HB.out)⟩⟩
          · rw [if_neg c7] at H
            exact absurd H (by simp)
        · rw [if_neg c6] at H
          exact absurd H (by simp)
      · rw [if_neg c5] at H
        have c5b0 : decide (x12_1 < (l0.length : Int)) = false := decide_eq_false c5
        clear c5
        by_cases c11 : a1 = true
        · subst c11
          have H1 : (some ((Int.tmod x7_1 2) != 0)) = some r := by rw [if_pos rfl] at H; exact H
          clear H
          have H := H1
          clear H1
          obtain rfl := Option.some.inj H
          simp only [Option.some.injEq, Prod.mk.injEq] at H
          obtain ⟨rfl⟩ := H
          go_wp2
          go_ret
          exact ⟨by first | rfl | (simp [errW_none, errW_some] <;> rfl) | (simp [*, errW_none, errW_some] <;> rfl), by repeat (first | (with_reducible first | exact HB.out | apply below_alloc | apply pw_below_drewN | apply below_drew1 | refine below_set ?_ GE183.out) | exact HB.out)⟩
        · replace c11 := Bool.eq_false_iff.mpr c11
          subst c11
          have H1 : (some (x7_1 != 0)) = some r := by rw [if_neg (show ¬ (false = true) by decide)] at H; exact H
          clear H
          have H := H1
          clear H1
          obtain rfl := Option.some.inj H
          simp only [Option.some.injEq, Prod.mk.injEq] at H
          obtain ⟨rfl⟩ := H
          go_wp2
          go_ret
          exact ⟨by first | rfl | (simp [errW_none, errW_some] <;> rfl) | (simp [*, errW_none, errW_some] <;> rfl), by repeat (first | (with_reducible first | exact HB.out | apply below_alloc | apply pw_below_drewN | apply below_drew1 | refine below_set ?_ GE183.out) | exact HB.out)⟩

/-! ### impl_CountOf: function 13 -/
def impl_CountOf.f (a0 : Int) : Option (Int) := (impl_inRange.f a0 0 15).bind fun t186 => (if t186 = true then (some (wrap64 ((wrap64 ((wrap64 ((Go.bits .and .i64 a0 1) + (Go.bits .and .i64 (a0 / 2) 1))) + (Go.bits .and .i64 (a0 / 4) 1))) + (a0 / 8)))) else (some 0))
set_option maxHeartbeats 8000000 in
set_option maxRecDepth 100000 in
theorem impl_CountOf.calls (a0 : Int) (r : Int) (w : World) (h : impl_CountOf.f a0 = some r) :
    Calls Try.prog 13 #[.int .i64 a0] w fun e w' => e = .returned (.int .i64 r) ∧ Drawn0 w w' := by
  have H : ((impl_inRange.f a0 0 15).bind fun t186 => (if t186 = true then (some (wrap64 ((wrap64 ((wrap64 ((Go.bits .and .i64 a0 1) + (Go.bits .and .i64 (a0 / 2) 1))) + (Go.bits .and .i64 (a0 / 4) 1))) + (a0 / 8)))) else (some 0))) = some r := h
  clear h
  replace H := Option.bind_eq_some_iff.mp H
  obtain ⟨t186, A20, H⟩ := H
  replace H : (if t186 = true then (some (wrap64 ((wrap64 ((wrap64 ((Go.bits .and .i64 a0 1) + (Go.bits .and .i64 (a0 / 2) 1))) + (Go.bits .and .i64 (a0 / 4) 1))) + (a0 / 8)))) else (some 0)) = some r := H
  have A2 := Aside0.mk A20
  clear A20
  by_cases c3 : t186 = true
  · subst c3
    have H1 : (some (wrap64 ((wrap64 ((wrap64 ((Go.bits .and .i64 a0 1) + (Go.bits .and .i64 (a0 / 2) 1))) + (Go.bits .and .i64 (a0 / 4) 1))) + (a0 / 8)))) = some r := by rw [if_pos rfl] at H; exact H
    clear H
    have H := H1
    clear H1
    obtain rfl := Option.some.inj H
    simp only [Option.some.injEq, Prod.mk.injEq] at H
    obtain ⟨rfl⟩ := H
    go_enter Try.func13, Try.ntmps13
    go_wp2_with (first | ((with_reducible refine gate_callee (f := 17) rfl ?_); refine goesL_ (some 4) rfl rfl Try.func17 (by kernel_rfl) rfl #[.int .i64 a0, .int .i64 0, .int .i64 15] rfl (by (try simp only [List.map_toArray, List.map_cons, List.map_nil]); first | done | rfl | (simp only [List.length_drop, List.length_take]; rfl)) ?_; (with_reducible refine (impl_inRange.calls a0 0 15 true _ A2.out).mono ?_); rintro e w' ⟨rfl, ⟨nd, rfl⟩⟩; refine ⟨_, rfl, ?_⟩))
    go_ret
    exact ⟨by first | rfl | (simp; done) | (simp [*]; done), by repeat (first | exact Drawn0.refl _ | apply Drawn0.step)⟩
  · replace c3 := Bool.eq_false_iff.mpr c3
    subst c3
    have H1 : (some 0) = some r := by rw [if_neg (show ¬ (false = true) by decide)] at H; exact H
    clear H
    have H := H1
    clear H1
    obtain rfl := Option.some.inj H
    simp only [Option.some.injEq, Prod.mk.injEq] at H
    obtain ⟨rfl⟩ := H
    go_enter Try.func13, Try.ntmps13
    go_wp2_with (first | ((with_reducible refine gate_callee (f := 17) rfl ?_); refine goesL_ (some 4) rfl rfl Try.func17 (by kernel_rfl) rfl #[.int .i64 a0, .int .i64 0, .int .i64 15] rfl (by (try simp only [List.map_toArray, List.map_cons, List.map_nil]); first | done | rfl | (simp only [List.length_drop, List.length_take]; rfl)) ?_; (with_reducible refine (impl_inRange.calls a0 0 15 false _ A2.out).mono ?_); rintro e w' ⟨rfl, ⟨nd, rfl⟩⟩; refine ⟨_, rfl, ?_⟩))
    go_ret
    exact ⟨by first | rfl | (simp; done) | (simp [*]; done), by repeat (first | exact Drawn0.refl _ | apply Drawn0.step)⟩

/-! ### laws_FnWinds: function 4 -/
def laws_FnWinds.l0 : Nat → List (S29) → List Int → List (S29) → Int → Int → Int → Option (Bool)
  | 0, _, _, _, _, _, _ => none
  | k + 1, x3, x4, x6, x7, x197000, x197001 => if x7 ≥ 0 then (if 0 ≤ x7 then (if x7 < (x3.length : Int) then (if x6.length < 8796093022208 then (laws_FnWinds.l0 k x3 x4 (x6 ++ [(⟨(rd_T29 x3 x7).f0, (rd_T29 x3 x7).f1⟩ : S29)]) (wrap64 (x7 - 1)) x197000 x197001) else (none)) else (none)) else (none)) else ((impl_WindOf.f k x3 x197000 x197001).bind fun t204 => (if 2 < (x4.length : Int) then ((impl_WindOf.f k x6 x197000 x197001).bind fun t206 => (if t204 = (wrap64 (-t206)) then ((spec_WindOf.f k x3 x197000 x197001).bind fun t207 => (if t204 = t207 then ((impl_Covers.f k (([x3, x3] : List (List (S29)))) false x197000 x197001).bind fun t211 => (if (t211 == (t204 != 0)) = true then ((impl_Covers.f k (([x3, x3] : List (List (S29)))) true x197000 x197001).bind fun t215 => (if t215 = true then (some false) else ((impl_Covers.f k (([x3, x6] : List (List (S29)))) false x197000 x197001).bind fun t219 => (if t219 = true then (some false) else ((impl_CountOf.f (Int.tmod (rd x4 2) 16)).bind fun t220 => (some (t220 == (wrap64 ((wrap64 ((wrap64 ((Int.tmod (Int.tmod (rd x4 2) 16) 2) + (Int.tmod (wrap64 (Int.tdiv (Int.tmod (rd x4 2) 16) 2)) 2))) + (Int.tmod (wrap64 (Int.tdiv (Int.tmod (rd x4 2) 16) 4)) 2))) + (wrap64 (Int.tdiv (Int.tmod (rd x4 2) 16) 8))))))))))) else (some false))) else (some false))) else (some false))) else (none)))
def laws_FnWinds.f (k : Nat) (l0 : List Int) : Option (Bool) := (laws_big.f l0).bind fun t187 => (if t187 = true then (some true) else ((spec_DrawPoints.f k l0).bind fun t188 => ((spec_DrawPlaces.f k l0).bind fun t191 => (if 0 < (t191.length : Int) then (if 1 < (t191.length : Int) then (laws_FnWinds.l0 k t188 t191 (([] : List (S29))) (wrap64 ((t188.length : Int) - 1)) (wrap64 ((Int.tmod (rd t191 0) 3600) - 300)) (wrap64 ((Int.tmod (rd t191 1) 3600) - 300))) else (none)) else (none)))))
theorem laws_FnWinds.mono_l : ∀ k, (∀ y0 y1 y2 y3 y4 y5, LeO (laws_FnWinds.l0 k y0 y1 y2 y3 y4 y5) (laws_FnWinds.l0 (k + 1) y0 y1 y2 y3 y4 y5))
  | 0 => fun _ _ _ _ _ _ r h => by simp [laws_FnWinds.l0] at h
  | k + 1 => by
    have ih0 := laws_FnWinds.mono_l k
    · intro y0 y1 y2 y3 y4 y5
      unfold laws_FnWinds.l0
      repeat' first
      | (with_reducible exact ih0 _ _ _ _ _ _)
      | (with_reducible exact impl_Covers.mono _ _ _ _ _)
      | (with_reducible exact impl_WindOf.mono _ _ _ _)
      | (with_reducible exact spec_DrawPlaces.mono _ _)
      | (with_reducible exact spec_DrawPoints.mono _ _)
      | (with_reducible exact spec_WindOf.mono _ _ _ _)
      | (with_reducible exact LeO.refl _)
      | (with_reducible exact LeO.none _)
      | (with_reducible refine LeO.ite ?_ ?_)
      | (with_reducible refine LeO.bind ?_ (fun _ => ?_))
      | exact ih0 _ _ _ _ _ _
      | exact impl_Covers.mono _ _ _ _ _
      | exact impl_WindOf.mono _ _ _ _
      | exact spec_DrawPlaces.mono _ _
      | exact spec_DrawPoints.mono _ _
      | exact spec_WindOf.mono _ _ _ _
      | exact LeO.none _
      | refine LeO.ite ?_ ?_
      | refine LeO.bind ?_ (fun _ => ?_)
theorem laws_FnWinds.mono : ∀ a0 k, LeO (laws_FnWinds.f k a0) (laws_FnWinds.f (k + 1) a0) := by
  intro a0 k
  have ih0 := laws_FnWinds.mono_l k
  unfold laws_FnWinds.f
  repeat' first
      | (with_reducible exact ih0 _ _ _ _ _ _)
      | (with_reducible exact impl_Covers.mono _ _ _ _ _)
      | (with_reducible exact impl_WindOf.mono _ _ _ _)
      | (with_reducible exact spec_DrawPlaces.mono _ _)
      | (with_reducible exact spec_DrawPoints.mono _ _)
      | (with_reducible exact spec_WindOf.mono _ _ _ _)
      | (with_reducible exact LeO.refl _)
      | (with_reducible exact LeO.none _)
      | (with_reducible refine LeO.ite ?_ ?_)
      | (with_reducible refine LeO.bind ?_ (fun _ => ?_))
      | exact ih0 _ _ _ _ _ _
      | exact impl_Covers.mono _ _ _ _ _
      | exact impl_WindOf.mono _ _ _ _
      | exact spec_DrawPlaces.mono _ _
      | exact spec_DrawPoints.mono _ _
      | exact spec_WindOf.mono _ _ _ _
      | exact LeO.none _
      | refine LeO.ite ?_ ?_
      | refine LeO.bind ?_ (fun _ => ?_)
def laws_FnWinds.T5 : Bool × List (List Nat × List Nat) := (true, [([], []), ([0], [0]), ([1], [1]), ([2], [2]), ([3], [3]), ([], []), ([5], [5]), ([6], [6]), ([7], [7]), ([8], [8]), ([4, 9], [4, 9]), ([], []), ([11, 10, 0, 1, 2, 3, 4, 5, 6, 7, 8, 9, 10, 11], [10, 11])])
def laws_FnWinds.B5 : List Nat := [0, 1, 3, 7, 15, 0, 32, 96, 224, 480, 1023, 0, 4095]
theorem laws_FnWinds.tab5 : rtab .any (opsOf Try.f4 5) = laws_FnWinds.T5 := by kernel_rfl
theorem laws_FnWinds.bits5 : waitsOk laws_FnWinds.T5.2 laws_FnWinds.B5 = true := by kernel_rfl
set_option maxHeartbeats 8000000 in
set_option maxRecDepth 100000 in
theorem laws_FnWinds.calls (k : Nat) (A0 : Option Addr) (c0 : Nat) (l0 : List Int) (r : Bool) (w : World) (hr0 : Kd.C (Kd.int .u8) w A0 l0.length l0) (hc0 : l0.length ≤ c0) (hT : r = true) (h : laws_FnWinds.f k l0 = some r) :
    Calls Try.prog 4 #[.slice A0 l0.length c0] w fun e w' => e = .returned (.bool r) ∧ Below w.heap.size w w' := by
  have hu29 := Try.underlying29
  have HR0 := Aside0.mk hr0
  have HC0 := Aside0.mk hc0
  clear hr0 hc0
  have HB := Aside0.mk (Below.refl w.heap.size w)
  have H : ((laws_big.f l0).bind fun t187 => (if t187 = true then (some true) else ((spec_DrawPoints.f k l0).bind fun t188 => ((spec_DrawPlaces.f k l0).bind fun t191 => (if 0 < (t191.length : Int) then (if 1 < (t191.length : Int) then (laws_FnWinds.l0 k t188 t191 (([] : List (S29))) (wrap64 ((t188.length : Int) - 1)) (wrap64 ((Int.tmod (rd t191 0) 3600) - 300)) (wrap64 ((Int.tmod (rd t191 1) 3600) - 300))) else (none)) else (none)))))) = some r := h
  clear h
  replace H := Option.bind_eq_some_iff.mp H
  obtain ⟨t187, A20, H⟩ := H
  replace H : (if t187 = true then (some true) else ((spec_DrawPoints.f k l0).bind fun t188 => ((spec_DrawPlaces.f k l0).bind fun t191 => (if 0 < (t191.length : Int) then (if 1 < (t191.length : Int) then (laws_FnWinds.l0 k t188 t191 (([] : List (S29))) (wrap64 ((t188.length : Int) - 1)) (wrap64 ((Int.tmod (rd t191 0) 3600) - 300)) (wrap64 ((Int.tmod (rd t191 1) 3600) - 300))) else (none)) else (none))))) = some r := H
  have A2 := Aside0.mk A20
  clear A20
  by_cases c3 : t187 = true
  · subst c3
    have H1 : (some true) = some r := by rw [if_pos rfl] at H; exact H
    clear H
    have H := H1
    clear H1
    obtain rfl := Option.some.inj H
    simp only [Option.some.injEq, Prod.mk.injEq] at H
    obtain ⟨rfl⟩ := H
    go_enter Try.func4, Try.ntmps4
    go_wp2_with (first | ((with_reducible refine gate_callee (f := 5) rfl ?_); refine goesL_ (some 11) rfl rfl Try.func5 (by kernel_rfl) rfl #[.slice A0 l0.length c0] rfl (by (try simp only [List.map_toArray, List.map_cons, List.map_nil]); first | done | rfl | (simp only [List.length_drop, List.length_take]; rfl)) ?_; (with_reducible refine (laws_big.calls _ _ l0 true _ ?side1 ?side2 A2.out).mono ?_); (case side1 => repeat (first | exact HR0.out | (with_reducible refine Kd.C_alloc ?_ _) | (with_reducible refine Kd.C_drewN ?_ _) | (with_reducible refine Kd.C_drew ?_))); (case side2 => exact HC0.out); rintro e w' ⟨rfl, ⟨nd, rfl⟩⟩; refine ⟨_, rfl, ?_⟩))
    go_ret
    exact ⟨by first | rfl | (simp [errW_none, errW_some] <;> rfl) | (simp [*, errW_none, errW_some] <;> rfl), by repeat (first | (with_reducible first | exact HB.out | apply below_alloc | apply pw_below_drewN | apply below_drew1) | exact HB.out)⟩
  · replace c3 := Bool.eq_false_iff.mpr c3
    subst c3
    have H1 : ((spec_DrawPoints.f k l0).bind fun t188 => ((spec_DrawPlaces.f k l0).bind fun t191 => (if 0 < (t191.length : Int) then (if 1 < (t191.length : Int) then (laws_FnWinds.l0 k t188 t191 (([] : List (S29))) (wrap64 ((t188.length : Int) - 1)) (wrap64 ((Int.tmod (rd t191 0) 3600) - 300)) (wrap64 ((Int.tmod (rd t191 1) 3600) - 300))) else (none)) else (none)))) = some r := by rw [if_neg (show ¬ (false = true) by decide)] at H; exact H
    clear H
    have H := H1
    clear H1
    replace H := Option.bind_eq_some_iff.mp H
    obtain ⟨t188, A40, H⟩ := H
    replace H : ((spec_DrawPlaces.f k l0).bind fun t191 => (if 0 < (t191.length : Int) then (if 1 < (t191.length : Int) then (laws_FnWinds.l0 k t188 t191 (([] : List (S29))) (wrap64 ((t188.length : Int) - 1)) (wrap64 ((Int.tmod (rd t191 0) 3600) - 300)) (wrap64 ((Int.tmod (rd t191 1) 3600) - 300))) else (none)) else (none))) = some r := H
    have A4 := Aside0.mk A40
    clear A40
    replace H := Option.bind_eq_some_iff.mp H
    obtain ⟨t191, A50, H⟩ := H
    replace H : (if 0 < (t191.length : Int) then (if 1 < (t191.length : Int) then (laws_FnWinds.l0 k t188 t191 (([] : List (S29))) (wrap64 ((t188.length : Int) - 1)) (wrap64 ((Int.tmod (rd t191 0) 3600) - 300)) (wrap64 ((Int.tmod (rd t191 1) 3600) - 300))) else (none)) else (none)) = some r := H
    have A5 := Aside0.mk A50
    clear A50
    by_cases c6 : 0 < (t191.length : Int)
    · rw [if_pos c6] at H
      have c6b0 : decide (0 < (t191.length : Int)) = true := decide_eq_true c6
      have c6b1 : decide (0 < t191.length) = true := decide_eq_true (by omega)
      clear c6
      by_cases c7 : 1 < (t191.length : Int)
      · rw [if_pos c7] at H
        have c7b0 : decide (1 < (t191.length : Int)) = true := decide_eq_true c7
        have c7b1 : decide (1 < t191.length) = true := decide_eq_true (by omega)
        clear c7
        obtain ⟨y197, hy197⟩ : ∃ y_ : List (S29), y_ = (([] : List (S29))) := ⟨_, rfl⟩
        replace H : (laws_FnWinds.l0 k t188 t191 y197 (wrap64 ((t188.length : Int) - 1)) (wrap64 ((Int.tmod (rd t191 0) 3600) - 300)) (wrap64 ((Int.tmod (rd t191 1) 3600) - 300))) = some r := by first | (rw [hy197]; with_reducible exact H) | (have H2_ := (Option.bind_some _ _).symm.trans H; rw [hy197]; with_reducible exact H2_) | (have H2_ := (Option.bind_some _ _).symm.trans H; with_reducible exact H2_) | with_reducible exact H | (rw [hy197]; exact H) | exact H
        have Ny197 := Aside0.mk hy197
        clear hy197
        have H' := Aside0.mk H
        clear H
        go_enter Try.func4, Try.ntmps4
        try go_wp2_with (first | ((with_reducible refine gate_callee (f := 5) rfl ?_); refine goesL_ (some 11) rfl rfl Try.func5 (by kernel_rfl) rfl #[.slice A0 l0.length c0] rfl (by (try simp only [List.map_toArray, List.map_cons, List.map_nil]); first | done | rfl | (simp only [List.length_drop, List.length_take]; rfl)) ?_; (with_reducible refine (laws_big.calls _ _ l0 false _ ?side1 ?side2 A2.out).mono ?_); (case side1 => repeat (first | exact HR0.out | (with_reducible refine Kd.C_alloc ?_ _) | (with_reducible refine Kd.C_drewN ?_ _) | (with_reducible refine Kd.C_drew ?_))); (case side2 => exact HC0.out); rintro e w' ⟨rfl, ⟨nd, rfl⟩⟩; refine ⟨_, rfl, ?_⟩) | ((with_reducible refine gate_callee (f := 9) rfl ?_); refine goesL_ (some 13) rfl rfl Try.func9 (by kernel_rfl) rfl #[.slice A0 l0.length c0] rfl (by (try simp only [List.map_toArray, List.map_cons, List.map_nil]); first | done | rfl | (simp only [List.length_drop, List.length_take]; rfl)) ?_; (with_reducible refine (spec_DrawPoints.calls k _ _ l0 t188 _ ?side1 ?side2 A4.out).mono ?_); (case side1 => repeat (first | exact HR0.out | (with_reducible refine Kd.C_alloc ?_ _) | (with_reducible refine Kd.C_drewN ?_ _) | (with_reducible refine Kd.C_drew ?_))); (case side2 => exact HC0.out); rintro e w8 ⟨v189, rfl, ho0, hb⟩; refine ⟨_, rfl, ?_⟩; have n0_ := Aside0.mk (Kd.R_lower ho0 (below_size (by repeat (first | (with_reducible first | exact HB.out | apply below_alloc | apply pw_below_drewN | apply below_drew1) | exact HB.out)))); have n1_ := Aside0.mk (below_step (by repeat (first | (with_reducible first | exact HB.out | apply below_alloc | apply pw_below_drewN | apply below_drew1) | exact HB.out)) hb); clear HB; have HO190 := n0_; have HB := n1_; clear n0_ n1_; (try clear hb); (try clear hb2); (try clear hk); (try clear hi); (try clear ho0)) | ((with_reducible refine gate_callee (f := 6) rfl ?_); refine goesL_ (some 15) rfl rfl Try.func6 (by kernel_rfl) rfl #[.slice A0 l0.length c0] rfl (by (try simp only [List.map_toArray, List.map_cons, List.map_nil]); first | done | rfl | (simp only [List.length_drop, List.length_take]; rfl)) ?_; (with_reducible refine (spec_DrawPlaces.calls k _ _ l0 t191 _ ?side1 ?side2 A5.out).mono ?_); (case side1 => repeat (first | exact (Kd.C_below HR0.out HB.out) | (with_reducible refine Kd.C_alloc ?_ _) | (with_reducible refine Kd.C_drewN ?_ _) | (with_reducible refine Kd.C_drew ?_))); (case side2 => exact HC0.out); rintro e w9 ⟨v192, rfl, ho0, hb⟩; refine ⟨_, rfl, ?_⟩; have n0_ := Aside0.mk (Kd.R_below (by (with_reducible repeat (first | apply Kd.R_alloc | apply Kd.R_drewN | apply Kd.R_drew)); exact HO190.out) hb); have n1_ := Aside0.mk (Kd.R_lower ho0 (below_size (by repeat (first | (with_reducible first | exact HB.out | apply below_alloc | apply pw_below_drewN | apply below_drew1) | exact HB.out)))); have n2_ := Aside0.mk (below_step (by repeat (first | (with_reducible first | exact HB.out | apply below_alloc | apply pw_below_drewN | apply below_drew1) | exact HB.out)) hb); clear HO190; clear HB; have HO190 := n0_; have HO193 := n1_; have HB := n2_; clear n0_ n1_ n2_; (try clear hb); (try clear hb2); (try clear hk); (try clear hi); (try clear ho0)))
        have n0_ := Aside0.mk (Kd.R_drew HO190.out)
        have n1_ := Aside0.mk (Kd.R_drew HO193.out)
        have n2_ := Aside0.mk (below_drew1 HB.out)
        clear HO190
        clear HO193
        clear HB
        have HO190 := n0_
        have HO193 := n1_
        have HB := n2_
        clear n0_ n1_ n2_
        obtain ⟨Ao11, co11, eo11⟩ := Kd.R_slice HO193.out
        (first | subst eo11 | (injection eo11 with f1_ f2_ f3_; have f4_ := f1_.symm; have f5_ := f3_.symm; clear f1_ f2_ f3_; subst f4_; subst f5_))
        have p194 : 0 ≤ (0 : Int) := (by omega)
        have q194 : 0 < (t191.length : Int) := of_decide_eq_true (by first | (with_reducible assumption) | assumption)
        obtain ⟨ad194, e194, hx194_0⟩ := Kd.at_int (Kd.R_reads' HO193.out).2.2 0 p194 q194
        cases e194
        have qi194 : (0 < t191.length) = True := eq_true (by omega)
        (try rw [show ((0 : Int)).toNat = 0 from rfl] at hx194_0)
        (try rw [Addr.add_zero'] at hx194_0)
        replace p194 := eq_true p194
        replace q194 := eq_true q194
        have p195 : 0 ≤ (1 : Int) := (by omega)
        have q195 : 1 < (t191.length : Int) := of_decide_eq_true (by first | (with_reducible assumption) | assumption)
        obtain ⟨ad195, e195, hx195_0⟩ := Kd.at_int (Kd.R_reads' HO193.out).2.2 1 p195 q195
        obtain rfl : ad194 = ad195 := (by injection e195)
        (try simp only [show (1 : Int).toNat = 1 from rfl, Nat.reduceMul, Nat.reduceEqDiff, Go.Addr.add, ↓reduceIte] at hx195_0)
        have qi195 : (1 < t191.length) = True := eq_true (by omega)
        (try rw [show ((1 : Int)).toNat = 1 from rfl] at hx195_0)
        replace p195 := eq_true p195
        replace q195 := eq_true q195
        refine start_ (n := 13) (S := fun w' => w'.cell? ad194 = some (.int .i64 (rd t191 0)) ∧ w'.cell? ⟨ad194.block, ad194.off + 1, none⟩ = some (.int .i64 (rd t191 1))) (ds := []) #[false, false, false, false, false, false, false, false, false, false, false, false, false] (by kernel_rfl) rfl rfl ⟨hx194_0, hx195_0⟩ (fun hHeld => ?_); refine with_tabW laws_FnWinds.tab5 laws_FnWinds.bits5 (fun HT_ HW_ => ?_)
        generalize w9.drew = w10 at HO190 HO193 HB hx194_0 hx195_0 hHeld ⊢
        refine pure_ (i := 0) (N := some 16) (v := ?_) (a' := ?_) #[true, false, false, false, false, false, false, false, false, false, false, false, false] rfl rfl (any_of HT_.out (by kernel_rfl)) (fun _ _ _ h => h) (Or.inl ⟨by rfl, ?_⟩) ?_ ?_
        rotate_left
        · intro w'
          go_simp
          with_reducible rfl
        rotate_left
        · simp only [Act.put, List.setIfInBounds_toArray, List.set_cons_zero, List.set_cons_succ, i64_w, i32_w]
          rfl
        refine pure_ (i := 1) (N := some 17) (v := ?_) (a' := ?_) #[true, true, false, false, false, false, false, false, false, false, false, false, false] rfl rfl (any_of HT_.out (by kernel_rfl)) (fun _ _ _ h => h) (Or.inl ⟨by rfl, ?_⟩) ?_ ?_
        rotate_left
        · intro w'
          go_simp
          with_reducible rfl
        rotate_left
        · simp only [Act.put, List.setIfInBounds_toArray, List.set_cons_zero, List.set_cons_succ, i64_w, i32_w]
          rfl
        refine pure_ (i := 5) (N := some 21) (v := ?_) (a' := ?_) #[true, true, false, false, false, true, false, false, false, false, false, false, false] rfl rfl (any_of HT_.out (by kernel_rfl)) (fun _ _ _ h => h) (Or.inl ⟨by rfl, ?_⟩) ?_ ?_
        rotate_left
        · intro w'
          go_simp
          with_reducible rfl
        rotate_left
        · simp only [Act.put, List.setIfInBounds_toArray, List.set_cons_zero, List.set_cons_succ, i64_w, i32_w]
          rfl
        refine pure_ (i := 6) (N := some 22) (v := ?_) (a' := ?_) #[true, true, false, false, false, true, true, false, false, false, false, false, false] rfl rfl (any_of HT_.out (by kernel_rfl)) (fun _ _ _ h => h) (Or.inl ⟨by rfl, ?_⟩) ?_ ?_
        rotate_left
        · intro w'
          go_simp
          with_reducible rfl
        rotate_left
        · simp only [Act.put, List.setIfInBounds_toArray, List.set_cons_zero, List.set_cons_succ, i64_w, i32_w]
          rfl
        refine take_ (i := 2) (N := some 18) (v := ?_) (a' := ?_) #[true, true, true, false, false, true, true, false, false, false, false, false, false] rfl rfl (take_ofW HT_.out HW_.out (by kernel_rfl)) (fun _ _ _ h => h) (Or.inl ⟨by rfl, ?_⟩) hHeld ?_ ?_
        rotate_left
        · rintro w' ⟨s0, s1⟩
          go_simp
          with_reducible rfl
        rotate_left
        · simp only [Act.put, List.setIfInBounds_toArray, List.set_cons_zero, List.set_cons_succ, i64_w, i32_w]
          rfl
        refine pure_ (i := 3) (N := some 19) (v := ?_) (a' := ?_) #[true, true, true, true, false, true, true, false, false, false, false, false, false] rfl rfl (any_of HT_.out (by kernel_rfl)) (fun _ _ _ h => h) (Or.inl ⟨by rfl, ?_⟩) ?_ ?_
        rotate_left
        · intro w'
          go_simp
          with_reducible rfl
        rotate_left
        · simp only [Act.put, List.setIfInBounds_toArray, List.set_cons_zero, List.set_cons_succ, i64_w, i32_w]
          rfl
        refine pure_ (i := 4) (N := some 20) (v := ?_) (a' := ?_) #[true, true, true, true, true, true, true, false, false, false, false, false, false] rfl rfl (any_of HT_.out (by kernel_rfl)) (fun _ _ _ h => h) (Or.inl ⟨by rfl, ?_⟩) ?_ ?_
        rotate_left
        · intro w'
          go_simp
          with_reducible rfl
        rotate_left
        · simp only [Act.put, List.setIfInBounds_toArray, List.set_cons_zero, List.set_cons_succ, i64_w, i32_w]
          rfl
        refine take_ (i := 7) (N := some 23) (v := ?_) (a' := ?_) #[true, true, true, true, true, true, true, true, false, false, false, false, false] rfl rfl (take_ofW HT_.out HW_.out (by kernel_rfl)) (fun _ _ _ h => h) (Or.inl ⟨by rfl, ?_⟩) hHeld ?_ ?_
        rotate_left
        · rintro w' ⟨s0, s1⟩
          go_simp
          with_reducible rfl
        rotate_left
        · simp only [Act.put, List.setIfInBounds_toArray, List.set_cons_zero, List.set_cons_succ, i64_w, i32_w]
          rfl
        refine pure_ (i := 8) (N := some 24) (v := ?_) (a' := ?_) #[true, true, true, true, true, true, true, true, true, false, false, false, false] rfl rfl (any_of HT_.out (by kernel_rfl)) (fun _ _ _ h => h) (Or.inl ⟨by rfl, ?_⟩) ?_ ?_
        rotate_left
        · intro w'
          go_simp
          with_reducible rfl
        rotate_left
        · simp only [Act.put, List.setIfInBounds_toArray, List.set_cons_zero, List.set_cons_succ, i64_w, i32_w]
          rfl
        refine pure_ (i := 9) (N := some 25) (v := ?_) (a' := ?_) #[true, true, true, true, true, true, true, true, true, true, false, false, false] rfl rfl (any_of HT_.out (by kernel_rfl)) (fun _ _ _ h => h) (Or.inl ⟨by rfl, ?_⟩) ?_ ?_
        rotate_left
        · intro w'
          go_simp
          with_reducible rfl
        rotate_left
        · simp only [Act.put, List.setIfInBounds_toArray, List.set_cons_zero, List.set_cons_succ, i64_w, i32_w]
          rfl
        refine pure_ (i := 10) (N := some 26) (v := ?_) (a' := ?_) #[true, true, true, true, true, true, true, true, true, true, true, false, false] rfl rfl (any_of HT_.out (by kernel_rfl)) (fun _ _ _ h => h) (Or.inl ⟨by rfl, ?_⟩) ?_ ?_
        rotate_left
        · intro w'
          go_simp
          with_reducible rfl
        rotate_left
        · simp only [Act.put, List.setIfInBounds_toArray, List.set_cons_zero, List.set_cons_succ, i64_w, i32_w]
          rfl
        refine one_ (i := 11) (N := some 5) #[true, true, true, true, true, true, true, true, true, true, true, true, false] rfl rfl (one_of HT_.out (by kernel_rfl)) (by decide) (fun K hK => ?_)
        refine box_step ?hg (N := 5) ?hd (cs := #[.int .i64 0, .int .i64 0]) (t := 29) ?hr ?_; (case hd => rfl); (case hg => rfl); (case hr => first | (go_simp; done) | (go_simp; rfl))
        intro gb196 hg w12 hbox hb
        have HS0_ := (hb.cell (World.block_lt_of_cell? _ _ (hHeld.1))).trans (hHeld.1)
        have HS1_ := (hb.cell (World.block_lt_of_cell? _ _ (hHeld.2))).trans (hHeld.2)
        have n0_ := Aside0.mk (Kd.R_below (Kd.R_elderB (by (with_reducible repeat (first | apply Kd.R_alloc | apply Kd.R_drewN | apply Kd.R_drew)); exact HO190.out) gb196 (Nat.le_of_eq hg.symm)) hb)
        have n1_ := Aside0.mk (Kd.R_below (by (with_reducible repeat (first | apply Kd.R_alloc | apply Kd.R_drewN | apply Kd.R_drew)); exact HO193.out) hb)
        have n2_ := Aside0.mk (below_step (by repeat (first | (with_reducible first | exact HB.out | apply below_alloc | apply pw_below_drewN | apply below_drew1) | exact HB.out)) hb)
        have n3_ := Aside0.mk (hbox)
        have n4_ := Aside0.mk ((by rw [hg]; exact (below_size (by repeat (first | (with_reducible first | exact HB.out | apply below_alloc | apply pw_below_drewN | apply below_drew1) | exact HB.out))) : w.heap.size ≤ gb196))
        have n5_ := Aside0.mk ((by rw [hg]; exact (below_size (by repeat (first | (with_reducible first | exact HB.out | apply below_alloc | apply pw_below_drewN | apply below_drew1) | exact HB.out))) : w.heap.size ≤ gb196))
        clear HO190
        clear HO193
        clear HB
        have HO190 := n0_
        have HO193 := n1_
        have HB := n2_
        have BK196 := n3_
        have GW196 := n4_
        have GE196 := n5_
        clear n0_ n1_ n2_ n3_ n4_ n5_
        clear hb hbox hg
        refine hK.out _ _ ⟨HS0_, HS1_⟩ (fun hHeld => ?_)
        clear hK K
        refine norm_ (a' := ?_) ?_ ?_
        rotate_left
        · show Act.put _ (some 5) _ = _
          simp only [Act.put, List.setIfInBounds_toArray, List.set_cons_zero, List.set_cons_succ, i64_w, i32_w]
          rfl
        refine one_ (i := 12) (N := none) #[true, true, true, true, true, true, true, true, true, true, true, true, true] rfl rfl (one_of HT_.out (by kernel_rfl)) (by decide) (fun K hK => ?_)
        have hs13 : w12.cell? ⟨gb196, 0, none⟩ = some (.int .i64 0) := (blk_cell BK196.out 0).trans rfl
        have hfs13 := blk_frozen BK196.out 0
        have hs14 : w12.cell? ⟨gb196, 1, none⟩ = some (.int .i64 0) := (blk_cell BK196.out 1).trans rfl
        have hfs14 := blk_frozen BK196.out 1
        refine skip_ (w1 := ?_) (by rfl) rfl ?_ ?_
        rotate_left
        · go_simp
          rfl
        refine hK.out _ _ ⟨((cell_far (p := ⟨gb196, _, none⟩) (by first | exact Kd.own_blk (Kd.R_ne HO193.out BK196.out (by decide)) | (rw [add_block]; exact Kd.own_blk (Kd.R_ne HO193.out BK196.out (by decide))) | (show (Addr.add _ _).block ≠ _; rw [add_block]; exact Kd.own_blk (Kd.R_ne HO193.out BK196.out (by decide))) | (dsimp only; exact Kd.own_blk (Kd.R_ne HO193.out BK196.out (by decide)))) _).trans (((cell_far (p := ⟨gb196, _, none⟩) (by first | exact Kd.own_blk (Kd.R_ne HO193.out BK196.out (by decide)) | (rw [add_block]; exact Kd.own_blk (Kd.R_ne HO193.out BK196.out (by decide))) | (show (Addr.add _ _).block ≠ _; rw [add_block]; exact Kd.own_blk (Kd.R_ne HO193.out BK196.out (by decide))) | (dsimp only; exact Kd.own_blk (Kd.R_ne HO193.out BK196.out (by decide)))) _).trans (hHeld.1)))), ((cell_far (p := ⟨gb196, _, none⟩) (by first | exact Kd.own_blk (Kd.R_ne HO193.out BK196.out (by decide)) | (rw [add_block]; exact Kd.own_blk (Kd.R_ne HO193.out BK196.out (by decide))) | (show (Addr.add _ _).block ≠ _; rw [add_block]; exact Kd.own_blk (Kd.R_ne HO193.out BK196.out (by decide))) | (dsimp only; exact Kd.own_blk (Kd.R_ne HO193.out BK196.out (by decide)))) _).trans (((cell_far (p := ⟨gb196, _, none⟩) (by first | exact Kd.own_blk (Kd.R_ne HO193.out BK196.out (by decide)) | (rw [add_block]; exact Kd.own_blk (Kd.R_ne HO193.out BK196.out (by decide))) | (show (Addr.add _ _).block ≠ _; rw [add_block]; exact Kd.own_blk (Kd.R_ne HO193.out BK196.out (by decide))) | (dsimp only; exact Kd.own_blk (Kd.R_ne HO193.out BK196.out (by decide)))) _).trans (hHeld.2))))⟩ (fun hHeld => ?_)
        clear hK K
        refine done_ (done_of HT_.out (by kernel_rfl)) ?_
        try go_wp2_with (first | ((with_reducible refine gate_dst (N := 27) rfl ?_); (try (refine gate_guard (by rfl) ?_; dsimp only)); refine Kd.R_lit k29 _ 29 ?hg (N := 27) ?hd (xs := ([] : List (S29))) (inner := []) (ok := fun _ => True) (okp := fun _ => True) ?hr ?hp (fun _ hk => hk) trivial (Below.refl _ _) (Nat.le_refl _) (by simp) ?_; (case hd => rfl); (case hg => rfl); (case hr => first | (go_simp; done) | (go_simp; rfl)); (case hp => exact (Reps.none _ _)); intro v198 w15 ho16 hb hg_ hnew_; clear hg_ hnew_; (first | rw [← Ny197.out] at ho16 | (simp only [Int.reduceToNat] at ho16; rw [← Ny197.out] at ho16)); have n0_ := Aside0.mk (Kd.R_elder' (by (with_reducible repeat (first | apply Kd.R_alloc | apply Kd.R_drewN | apply Kd.R_drew)); exact (Kd.R_mono (Kd.R_far (p := ⟨gb196, 1, none⟩) (Kd.R_far (p := ⟨gb196, 0, none⟩) (Kd.R_mono HO190.out (fun k_ hk => (⟨hk, hk.2⟩ : _ ∧ k_ ≠ gb196))) (fun _ hk => hk.2) (.int .i64 (wrap64 ((Int.tmod (rd t191 0) 3600) - 300)))) (fun _ hk => hk.2) (.int .i64 (wrap64 ((Int.tmod (rd t191 1) 3600) - 300)))) (fun _ h_ => h_.1))) (Kd.R_base ho16) hb); have n1_ := Aside0.mk (Kd.R_below (by (with_reducible repeat (first | apply Kd.R_alloc | apply Kd.R_drewN | apply Kd.R_drew)); exact (Kd.R_mono (Kd.R_far (p := ⟨gb196, 1, none⟩) (Kd.R_far (p := ⟨gb196, 0, none⟩) (Kd.R_types HO193.out BK196.out (by decide)) (fun _ hk => hk.2) (.int .i64 (wrap64 ((Int.tmod (rd t191 0) 3600) - 300)))) (fun _ hk => hk.2) (.int .i64 (wrap64 ((Int.tmod (rd t191 1) 3600) - 300)))) (fun _ h_ => h_.1))) hb); have n2_ := Aside0.mk (Kd.R_lower (Kd.R_newB (Kd.R_new' ho16 (Kd.R_lt (by (with_reducible repeat (first | apply Kd.R_alloc | apply Kd.R_drewN | apply Kd.R_drew)); exact (Kd.R_mono (Kd.R_far (p := ⟨gb196, 1, none⟩) (Kd.R_far (p := ⟨gb196, 0, none⟩) (Kd.R_mono HO190.out (fun k_ hk => (⟨hk, hk.2⟩ : _ ∧ k_ ≠ gb196))) (fun _ hk => hk.2) (.int .i64 (wrap64 ((Int.tmod (rd t191 0) 3600) - 300)))) (fun _ hk => hk.2) (.int .i64 (wrap64 ((Int.tmod (rd t191 1) 3600) - 300)))) (fun _ h_ => h_.1))))) (g := gb196) (o := .cells #[.int .i64 (wrap64 ((Int.tmod (rd t191 0) 3600) - 300)), .int .i64 (wrap64 ((Int.tmod (rd t191 1) 3600) - 300))] 29 (0, 0)) (by apply blk_fin; (focus ((with_reducible repeat (first | apply blk_putQ | refine blk_drewN ?_ _ | refine blk_drew ?_ | refine blk_alloc ?_ _)); exact BK196.out)); first | (simp only [List.setIfInBounds_toArray, List.set_cons_zero, List.set_cons_succ]; done) | rfl)) (below_size (by repeat (first | (with_reducible first | exact HB.out | apply below_alloc | apply pw_below_drewN | apply below_drew1 | refine below_set ?_ GE196.out) | exact HB.out)))); have n3_ := Aside0.mk (blk_below (g := gb196) (o := .cells #[.int .i64 (wrap64 ((Int.tmod (rd t191 0) 3600) - 300)), .int .i64 (wrap64 ((Int.tmod (rd t191 1) 3600) - 300))] 29 (0, 0)) (by apply blk_fin; (focus ((with_reducible repeat (first | apply blk_putQ | refine blk_drewN ?_ _ | refine blk_drew ?_ | refine blk_alloc ?_ _)); exact BK196.out)); first | (simp only [List.setIfInBounds_toArray, List.set_cons_zero, List.set_cons_succ]; done) | rfl) hb); have n4_ := Aside0.mk (below_step (by repeat (first | (with_reducible first | exact HB.out | apply below_alloc | apply pw_below_drewN | apply below_drew1 | refine below_set ?_ GE196.out) | exact HB.out)) hb); clear HO190; clear HO193; clear BK196; clear HB; have HO190 := n0_; have HO193 := n1_; have HO199 := n2_; have BK196 := n3_; have HB := n4_; clear n0_ n1_ n2_ n3_ n4_; clear hb ho16; obtain ⟨Ao17, co17, eo17⟩ := Kd.R_slice HO190.out; subst eo17))
        go_loopg [6, 7] k (fun kq v6 v7 w' => ∃ (x6_1 : List (S29)) (x7_1 : Int), v7 = .int .i64 x7_1 ∧ Aside0 (laws_FnWinds.l0 kq t188 t191 x6_1 x7_1 (wrap64 ((Int.tmod (rd t191 0) 3600) - 300)) (wrap64 ((Int.tmod (rd t191 1) 3600) - 300)) = some r) ∧ Aside0 (kq ≤ k) ∧ Aside0 (Kd.R k29 29 w' w.heap.size (fun k_ => some k_ ≠ (v6 : Value).ownBlock ∧ k_ ≠ gb196) (.slice Ao17 t188.length co17) t188) ∧ Aside0 (Kd.R (Kd.int .i64) 3 w' w.heap.size (fun _ => True) (.slice (some ad194) t191.length co11) t191) ∧ Aside0 (Kd.R k29 29 w' w.heap.size (fun k_ => some k_ ≠ ((.slice Ao17 t188.length co17) : Value).ownBlock ∧ k_ ≠ gb196) v6 x6_1) ∧ Aside0 (w'.heap[gb196]? = some (.cells #[.int .i64 (wrap64 ((Int.tmod (rd t191 0) 3600) - 300)), .int .i64 (wrap64 ((Int.tmod (rd t191 1) 3600) - 300))] 29 (0, 0))) ∧ Aside0 (Below w.heap.size w w'))
        case atStart => exact ⟨(y197), (wrap64 ((t188.length : Int) - 1)), (by first | rfl | (simp; done) | (simp [*]; done)), H', ⟨Nat.le_refl _⟩, ⟨by (with_reducible repeat (first | apply Kd.R_alloc | apply Kd.R_drewN | apply Kd.R_drew)); exact Kd.R_mono HO190.out (fun _ hk => ⟨hk.2, hk.1.2⟩)⟩, ⟨by (with_reducible repeat (first | apply Kd.R_alloc | apply Kd.R_drewN | apply Kd.R_drew)); exact HO193.out⟩, ⟨by (with_reducible repeat (first | apply Kd.R_alloc | apply Kd.R_drewN | apply Kd.R_drew)); exact Kd.R_mono HO199.out (fun _ hk => ⟨hk.1.2, hk.2⟩)⟩, ⟨by (with_reducible repeat (first | refine blk_drewN ?_ _ | refine blk_drew ?_ | refine blk_alloc ?_ _)); exact BK196.out⟩, ⟨by repeat (first | (with_reducible first | exact HB.out | apply below_alloc | apply pw_below_drewN | apply below_drew1 | refine below_set ?_ GE196.out) | exact HB.out)⟩⟩
        case round =>
          clear H'
          try clear p1
          try clear q1
          try clear hx1
          try clear qi1
          try clear p2
          try clear c3
          try clear c4
          try clear c5
          try clear c6
          try clear c6b0
          try clear c6b1
          try clear p6
          try clear c7
          try clear c7b0
          try clear c7b1
          try clear c9
          try clear hx194_0
          try clear hx195_0
          try clear p194
          try clear p195
          try clear q194
          try clear q195
          obtain ⟨x6_1, x7_1, rfl, HA, HK1, HO_3, HO_4, HO_6, BK196, HB⟩ := hrel
          cases gk with
          | zero => exact absurd HA.out (by simp [laws_FnWinds.l0])
          | succ k1 =>
            have H := HA.out
            clear HA
            simp only [laws_FnWinds.l0] at H
            by_cases c18 : x7_1 ≥ 0
            · rw [if_pos c18] at H
              have c18b0 : decide (0 ≤ x7_1) = true := decide_eq_true c18
              clear c18
              by_cases c19 : 0 ≤ x7_1
              · rw [if_pos c19] at H
                have c19b0 : decide (0 ≤ x7_1) = true := decide_eq_true c19
                clear c19
                by_cases c20 : x7_1 < (t188.length : Int)
                · rw [if_pos c20] at H
                  have c20b0 : decide (x7_1 < (t188.length : Int)) = true := decide_eq_true c20
                  clear c20
                  by_cases c21 : x6_1.length < 8796093022208
                  · rw [if_pos c21] at H
                    have LMc21 := Aside0.mk c21
                    clear c21
                    obtain ⟨y201, hy201⟩ : ∃ y_ : List (S29), y_ = (x6_1 ++ [(⟨(rd_T29 t188 x7_1).f0, (rd_T29 t188 x7_1).f1⟩ : S29)]) := ⟨_, rfl⟩
                    replace H : (laws_FnWinds.l0 k1 t188 t191 y201 (wrap64 (x7_1 - 1)) (wrap64 ((Int.tmod (rd t191 0) 3600) - 300)) (wrap64 ((Int.tmod (rd t191 1) 3600) - 300))) = some r := by first | (rw [hy201]; with_reducible exact H) | (have H2_ := (Option.bind_some _ _).symm.trans H; rw [hy201]; with_reducible exact H2_) | (have H2_ := (Option.bind_some _ _).symm.trans H; with_reducible exact H2_) | with_reducible exact H | (rw [hy201]; exact H) | exact H
                    have Ny201 := Aside0.mk hy201
                    clear hy201
                    have H' := Aside0.mk H
                    clear H
                    have p200 : 0 ≤ (x7_1 : Int) := of_decide_eq_true (by first | (with_reducible assumption) | assumption)
                    have q200 : x7_1 < (t188.length : Int) := of_decide_eq_true (by first | (with_reducible assumption) | assumption)
                    (try (obtain ⟨Aq200, cq200, eq200⟩ := Kd.R_slice HO_3.out; subst eq200))
                    obtain ⟨ad200, e200, hx200_0, hx200_1⟩ := at_T29 (Kd.R_reads' HO_3.out).2.2 x7_1 p200 q200
                    cases e200
                    replace p200 := eq_true p200
                    replace q200 := eq_true q200
                    go_wp2_with (first | ((with_reducible refine gate_builtin (b := .append) (xs := #[.tmp 35, .tmp 40]) rfl ?_); (try (refine gate_guard (by rfl) ?_; dsimp only)); at_builtin; refine Kd.R_append k29 (w0 := w) w.heap.size rfl (.tmp 35) (.tmp 40) 30 29 (.agg #[(.int .i64 0), (.int .i64 0)]) 16 rfl Try.underlying30 info29 rfl (by decide) (by omega) u6 x6_1 (⟨(rd_T29 t188 x7_1).f0, (rd_T29 t188 x7_1).f1⟩ : S29) [.int .i64 ((rd_T29 t188 x7_1).f0), .int .i64 ((rd_T29 t188 x7_1).f1)] (fun k_ => some k_ ≠ (.slice (some ad200) t188.length co17 : Value).ownBlock ∧ k_ ≠ gb196) (fun _ => False) rfl rfl ?aP (fun _ hk => hk.elim) ?aF ?aO ?aB ?aS ?aL ?_; (case aP => exact k29_mkM _ _ _ (⟨(rd_T29 t188 x7_1).f0, (rd_T29 t188 x7_1).f1⟩ : S29)); (case aB => exact (by repeat (first | (with_reducible first | exact HB.out | apply below_alloc | apply pw_below_drewN | apply below_drew1 | refine below_set ?_ GE196.out) | exact HB.out))); (case aF => exact (fun k_ hk => ⟨Kd.fresh' (Kd.R_lt (by (with_reducible repeat (first | apply Kd.R_alloc | apply Kd.R_drewN | apply Kd.R_drew)); exact HO_3.out)) k_ hk, Kd.freshB (g := gb196) (o := .cells #[.int .i64 (wrap64 ((Int.tmod (rd t191 0) 3600) - 300)), .int .i64 (wrap64 ((Int.tmod (rd t191 1) 3600) - 300))] 29 (0, 0)) (by (with_reducible repeat (first | refine blk_drewN ?_ _ | refine blk_drew ?_ | refine blk_alloc ?_ _)); exact BK196.out) k_ hk⟩)); (case aO => exact (by (with_reducible repeat (first | apply Kd.R_alloc | apply Kd.R_drewN | apply Kd.R_drew)); exact HO_6.out)); (case aS => exact (below_size (by repeat (first | (with_reducible first | exact HB.out | apply below_alloc | apply pw_below_drewN | apply below_drew1 | refine below_set ?_ GE196.out) | exact HB.out)))); (case aL => have := LMc21.out; omega); intro v202 w22 ho hb hg hat; rw [← Ny201.out] at ho; have n0_ := Aside0.mk (Kd.R_after (ok := (fun k_ => k_ ≠ gb196)) (by (with_reducible repeat (first | apply Kd.R_alloc | apply Kd.R_drewN | apply Kd.R_drew)); exact Kd.R_mono HO_3.out (fun _ hk => ⟨hk.2, hk.1⟩)) hg hat); have n1_ := Aside0.mk (Kd.R_over' (by (with_reducible repeat (first | apply Kd.R_alloc | apply Kd.R_drewN | apply Kd.R_drew)); exact HO_4.out) (Kd.R_typed (by (with_reducible repeat (first | apply Kd.R_alloc | apply Kd.R_drewN | apply Kd.R_drew)); exact HO_6.out)) (by decide) hg); have n2_ := Aside0.mk (blk_grown (g := gb196) (o := .cells #[.int .i64 (wrap64 ((Int.tmod (rd t191 0) 3600) - 300)), .int .i64 (wrap64 ((Int.tmod (rd t191 1) 3600) - 300))] 29 (0, 0)) (by (with_reducible repeat (first | refine blk_drewN ?_ _ | refine blk_drew ?_ | refine blk_alloc ?_ _)); exact BK196.out) hg (Kd.R_away HO_6.out (fun _ hk => hk.2))); have n3_ := Aside0.mk (hb); have n4_ := Aside0.mk (ho); clear HO_3; clear HO_4; clear BK196; clear HB; clear HO_6; have HO_3 := n0_; have HO_4 := n1_; have BK196 := n2_; have HB := n3_; have HO203 := n4_; clear n0_ n1_ n2_ n3_ n4_; clear ho hb hg hat))
                    go_roundg k1
                    case measure => have := HK1.out; omega
                    case rel => exact ⟨(y201), (wrap64 (x7_1 - 1)), (by first | rfl | (simp; done) | (simp [*]; done)), H', ⟨by have := HK1.out; omega⟩, ⟨by (with_reducible repeat (first | apply Kd.R_alloc | apply Kd.R_drewN | apply Kd.R_drew)); exact Kd.R_mono HO_3.out (fun _ hk => ⟨hk.2, hk.1⟩)⟩, ⟨by (with_reducible repeat (first | apply Kd.R_alloc | apply Kd.R_drewN | apply Kd.R_drew)); exact HO_4.out⟩, ⟨by (with_reducible repeat (first | apply Kd.R_alloc | apply Kd.R_drewN | apply Kd.R_drew)); exact HO203.out⟩, ⟨by (with_reducible repeat (first | refine blk_drewN ?_ _ | refine blk_drew ?_ | refine blk_alloc ?_ _)); exact BK196.out⟩, ⟨by repeat (first | (with_reducible first | exact HB.out | apply below_alloc | apply pw_below_drewN | apply below_drew1 | refine below_set ?_ GE196.out) | exact HB.out)⟩⟩
                  · rw [if_neg c21] at H
                    exact absurd H (by simp)
                · rw [if_neg c20] at H
                  exact absurd H (by simp)
              · rw [if_neg c19] at H
                exact absurd H (by simp)
            · rw [if_neg c18] at H
              have c18b0 : decide (0 ≤ x7_1) = false := decide_eq_false c18
              clear c18
              replace H := Option.bind_eq_some_iff.mp H
              obtain ⟨t204, A230, H⟩ := H
              replace H : (if 2 < (t191.length : Int) then ((impl_WindOf.f k1 x6_1 (wrap64 ((Int.tmod (rd t191 0) 3600) - 300)) (wrap64 ((Int.tmod (rd t191 1) 3600) - 300))).bind fun t206 => (if t204 = (wrap64 (-t206)) then ((spec_WindOf.f k1 t188 (wrap64 ((Int.tmod (rd t191 0) 3600) - 300)) (wrap64 ((Int.tmod (rd t191 1) 3600) - 300))).bind fun t207 => (if t204 = t207 then ((impl_Covers.f k1 (([t188, t188] : List (List (S29)))) false (wrap64 ((Int.tmod (rd t191 0) 3600) - 300)) (wrap64 ((Int.tmod (rd t191 1) 3600) - 300))).bind fun t211 => (if (t211 == (t204 != 0)) = true then ((impl_Covers.f k1 (([t188, t188] : List (List (S29)))) true (wrap64 ((Int.tmod (rd t191 0) 3600) - 300)) (wrap64 ((Int.tmod (rd t191 1) 3600) - 300))).bind fun t215 => (if t215 = true then (some false) else ((impl_Covers.f k1 (([t188, x6_1] : List (List (S29)))) false (wrap64 ((Int.tmod (rd t191 0) 3600) - 300)) (wrap64 ((Int.tmod (rd t191 1) 3600) - 300))).bind fun t219 => (if t219 = true then (some false) else ((impl_CountOf.f (Int.tmod (rd t191 2) 16)).bind fun t220 => (some (t220 == (wrap64 ((wrap64 ((wrap64 ((Int.tmod (Int.tmod (rd t191 2) 16) 2) + (Int.tmod (wrap64 (Int.tdiv (Int.tmod (rd t191 2) 16) 2)) 2))) + (Int.tmod (wrap64 (Int.tdiv (Int.tmod (rd t191 2) 16) 4)) 2))) + (wrap64 (Int.tdiv (Int.tmod (rd t191 2) 16) 8))))))))))) else (some false))) else (some false))) else (some false))) else (none)) = some r := H
              have A23 := Aside0.mk A230
              clear A230
              by_cases c24 : 2 < (t191.length : Int)
              · rw [if_pos c24] at H
                have c24b0 : decide (2 < (t191.length : Int)) = true := decide_eq_true c24
                have c24b1 : decide (2 < t191.length) = true := decide_eq_true (by omega)
                clear c24
                replace H := Option.bind_eq_some_iff.mp H
                obtain ⟨t206, A250, H⟩ := H
                replace H : (if t204 = (wrap64 (-t206)) then ((spec_WindOf.f k1 t188 (wrap64 ((Int.tmod (rd t191 0) 3600) - 300)) (wrap64 ((Int.tmod (rd t191 1) 3600) - 300))).bind fun t207 => (if t204 = t207 then ((impl_Covers.f k1 (([t188, t188] : List (List (S29)))) false (wrap64 ((Int.tmod (rd t191 0) 3600) - 300)) (wrap64 ((Int.tmod (rd t191 1) 3600) - 300))).bind fun t211 => (if (t211 == (t204 != 0)) = true then ((impl_Covers.f k1 (([t188, t188] : List (List (S29)))) true (wrap64 ((Int.tmod (rd t191 0) 3600) - 300)) (wrap64 ((Int.tmod (rd t191 1) 3600) - 300))).bind fun t215 => (if t215 = true then (some false) else ((impl_Covers.f k1 (([t188, x6_1] : List (List (S29)))) false (wrap64 ((Int.tmod (rd t191 0) 3600) - 300)) (wrap64 ((Int.tmod (rd t191 1) 3600) - 300))).bind fun t219 => (if t219 = true then (some false) else ((impl_CountOf.f (Int.tmod (rd t191 2) 16)).bind fun t220 => (some (t220 == (wrap64 ((wrap64 ((wrap64 ((Int.tmod (Int.tmod (rd t191 2) 16) 2) + (Int.tmod (wrap64 (Int.tdiv (Int.tmod (rd t191 2) 16) 2)) 2))) + (Int.tmod (wrap64 (Int.tdiv (Int.tmod (rd t191 2) 16) 4)) 2))) + (wrap64 (Int.tdiv (Int.tmod (rd t191 2) 16) 8))))))))))) else (some false))) else (some false))) else (some false)) = some r := H
                have A25 := Aside0.mk A250
                clear A250
                by_cases c26 : t204 = (wrap64 (-t206))
                · rw [if_pos c26] at H
                  have c26b0 : (t204 == (wrap64 (-t206))) = true := beq_iff_eq.mpr c26
                  have c26b1 : (t204 != (wrap64 (-t206))) = false := bne_eq_false_iff_eq.mpr c26
                  clear c26
                  replace H := Option.bind_eq_some_iff.mp H
                  obtain ⟨t207, A270, H⟩ := H
                  replace H : (if t204 = t207 then ((impl_Covers.f k1 (([t188, t188] : List (List (S29)))) false (wrap64 ((Int.tmod (rd t191 0) 3600) - 300)) (wrap64 ((Int.tmod (rd t191 1) 3600) - 300))).bind fun t211 => (if (t211 == (t204 != 0)) = true then ((impl_Covers.f k1 (([t188, t188] : List (List (S29)))) true (wrap64 ((Int.tmod (rd t191 0) 3600) - 300)) (wrap64 ((Int.tmod (rd t191 1) 3600) - 300))).bind fun t215 => (if t215 = true then (some false) else ((impl_Covers.f k1 (([t188, x6_1] : List (List (S29)))) false (wrap64 ((Int.tmod (rd t191 0) 3600) - 300)) (wrap64 ((Int.tmod (rd t191 1) 3600) - 300))).bind fun t219 => (if t219 = true then (some false) else ((impl_CountOf.f (Int.tmod (rd t191 2) 16)).bind fun t220 => (some (t220 == (wrap64 ((wrap64 ((wrap64 ((Int.tmod (Int.tmod (rd t191 2) 16) 2) + (Int.tmod (wrap64 (Int.tdiv (Int.tmod (rd t191 2) 16) 2)) 2))) + (Int.tmod (wrap64 (Int.tdiv (Int.tmod (rd t191 2) 16) 4)) 2))) + (wrap64 (Int.tdiv (Int.tmod (rd t191 2) 16) 8))))))))))) else (some false))) else (some false)) = some r := H
                  have A27 := Aside0.mk A270
                  clear A270
                  by_cases c28 : t204 = t207
                  · rw [if_pos c28] at H
                    have c28b0 : (t204 == t207) = true := beq_iff_eq.mpr c28
                    have c28b1 : (t204 != t207) = false := bne_eq_false_iff_eq.mpr c28
                    clear c28
                    obtain ⟨y208, hy208⟩ : ∃ y_ : List (List (S29)), y_ = (([t188, t188] : List (List (S29)))) := ⟨_, rfl⟩
                    replace H : ((impl_Covers.f k1 y208 false (wrap64 ((Int.tmod (rd t191 0) 3600) - 300)) (wrap64 ((Int.tmod (rd t191 1) 3600) - 300))).bind fun t211 => (if (t211 == (t204 != 0)) = true then ((impl_Covers.f k1 (([t188, t188] : List (List (S29)))) true (wrap64 ((Int.tmod (rd t191 0) 3600) - 300)) (wrap64 ((Int.tmod (rd t191 1) 3600) - 300))).bind fun t215 => (if t215 = true then (some false) else ((impl_Covers.f k1 (([t188, x6_1] : List (List (S29)))) false (wrap64 ((Int.tmod (rd t191 0) 3600) - 300)) (wrap64 ((Int.tmod (rd t191 1) 3600) - 300))).bind fun t219 => (if t219 = true then (some false) else ((impl_CountOf.f (Int.tmod (rd t191 2) 16)).bind fun t220 => (some (t220 == (wrap64 ((wrap64 ((wrap64 ((Int.tmod (Int.tmod (rd t191 2) 16) 2) + (Int.tmod (wrap64 (Int.tdiv (Int.tmod (rd t191 2) 16) 2)) 2))) + (Int.tmod (wrap64 (Int.tdiv (Int.tmod (rd t191 2) 16) 4)) 2))) + (wrap64 (Int.tdiv (Int.tmod (rd t191 2) 16) 8))))))))))) else (some false))) = some r := by first | (rw [hy208]; with_reducible exact H) | (have H2_ := (Option.bind_some _ _).symm.trans H; rw [hy208]; with_reducible exact H2_) | (have H2_ := (Option.bind_some _ _).symm.trans H; with_reducible exact H2_) | with_reducible exact H | (rw [hy208]; exact H) | exact H
                    have Ny208 := Aside0.mk hy208
                    clear hy208
                    replace H := Option.bind_eq_some_iff.mp H
                    obtain ⟨t211, A290, H⟩ := H
                    replace H : (if (t211 == (t204 != 0)) = true then ((impl_Covers.f k1 (([t188, t188] : List (List (S29)))) true (wrap64 ((Int.tmod (rd t191 0) 3600) - 300)) (wrap64 ((Int.tmod (rd t191 1) 3600) - 300))).bind fun t215 => (if t215 = true then (some false) else ((impl_Covers.f k1 (([t188, x6_1] : List (List (S29)))) false (wrap64 ((Int.tmod (rd t191 0) 3600) - 300)) (wrap64 ((Int.tmod (rd t191 1) 3600) - 300))).bind fun t219 => (if t219 = true then (some false) else ((impl_CountOf.f (Int.tmod (rd t191 2) 16)).bind fun t220 => (some (t220 == (wrap64 ((wrap64 ((wrap64 ((Int.tmod (Int.tmod (rd t191 2) 16) 2) + (Int.tmod (wrap64 (Int.tdiv (Int.tmod (rd t191 2) 16) 2)) 2))) + (Int.tmod (wrap64 (Int.tdiv (Int.tmod (rd t191 2) 16) 4)) 2))) + (wrap64 (Int.tdiv (Int.tmod (rd t191 2) 16) 8))))))))))) else (some false)) = some r := H
                    have A29 := Aside0.mk A290
                    clear A290
                    by_cases c30 : (t211 == (t204 != 0)) = true
                    · rw [if_pos c30] at H
                      have c30b0 : (t211 == (t204 != 0)) = true := c30
                      (try (have c30b1 : decide (t211 = (t204 != 0)) = true := by simpa using c30))
                      (try (have c30b2 : (t211 == (t204 != 0)) = true := by simpa using c30))
                      clear c30
                      obtain ⟨y212, hy212⟩ : ∃ y_ : List (List (S29)), y_ = (([t188, t188] : List (List (S29)))) := ⟨_, rfl⟩
                      replace H : ((impl_Covers.f k1 y212 true (wrap64 ((Int.tmod (rd t191 0) 3600) - 300)) (wrap64 ((Int.tmod (rd t191 1) 3600) - 300))).bind fun t215 => (if t215 = true then (some false) else ((impl_Covers.f k1 (([t188, x6_1] : List (List (S29)))) false (wrap64 ((Int.tmod (rd t191 0) 3600) - 300)) (wrap64 ((Int.tmod (rd t191 1) 3600) - 300))).bind fun t219 => (if t219 = true then (some false) else ((impl_CountOf.f (Int.tmod (rd t191 2) 16)).bind fun t220 => (some (t220 == (wrap64 ((wrap64 ((wrap64 ((Int.tmod (Int.tmod (rd t191 2) 16) 2) + (Int.tmod (wrap64 (Int.tdiv (Int.tmod (rd t191 2) 16) 2)) 2))) + (Int.tmod (wrap64 (Int.tdiv (Int.tmod (rd t191 2) 16) 4)) 2))) + (wrap64 (Int.tdiv (Int.tmod (rd t191 2) 16) 8))))))))))) = some r := by first | (rw [hy212]; with_reducible exact H) | (have H2_ := (Option.bind_some _ _).symm.trans H; rw [hy212]; with_reducible exact H2_) | (have H2_ := (Option.bind_some _ _).symm.trans H; with_reducible exact H2_) | with_reducible exact H | (rw [hy212]; exact H) | exact H
                      have Ny212 := Aside0.mk hy212
                      clear hy212
                      replace H := Option.bind_eq_some_iff.mp H
                      obtain ⟨t215, A310, H⟩ := H
                      replace H : (if t215 = true then (some false) else ((impl_Covers.f k1 (([t188, x6_1] : List (List (S29)))) false (wrap64 ((Int.tmod (rd t191 0) 3600) - 300)) (wrap64 ((Int.tmod (rd t191 1) 3600) - 300))).bind fun t219 => (if t219 = true then (some false) else ((impl_CountOf.f (Int.tmod (rd t191 2) 16)).bind fun t220 => (some (t220 == (wrap64 ((wrap64 ((wrap64 ((Int.tmod (Int.tmod (rd t191 2) 16) 2) + (Int.tmod (wrap64 (Int.tdiv (Int.tmod (rd t191 2) 16) 2)) 2))) + (Int.tmod (wrap64 (Int.tdiv (Int.tmod (rd t191 2) 16) 4)) 2))) + (wrap64 (Int.tdiv (Int.tmod (rd t191 2) 16) 8)))))))))) = some r := H
                      have A31 := Aside0.mk A310
                      clear A310
                      by_cases c32 : t215 = true
                      · subst c32
                        have H1 : (some false) = some r := by rw [if_pos rfl] at H; exact H
                        clear H
                        have H := H1
                        clear H1
                        obtain rfl := Option.some.inj H
                        exact absurd hT Bool.false_ne_true
                      · replace c32 := Bool.eq_false_iff.mpr c32
                        subst c32
                        have H1 : ((impl_Covers.f k1 (([t188, x6_1] : List (List (S29)))) false (wrap64 ((Int.tmod (rd t191 0) 3600) - 300)) (wrap64 ((Int.tmod (rd t191 1) 3600) - 300))).bind fun t219 => (if t219 = true then (some false) else ((impl_CountOf.f (Int.tmod (rd t191 2) 16)).bind fun t220 => (some (t220 == (wrap64 ((wrap64 ((wrap64 ((Int.tmod (Int.tmod (rd t191 2) 16) 2) + (Int.tmod (wrap64 (Int.tdiv (Int.tmod (rd t191 2) 16) 2)) 2))) + (Int.tmod (wrap64 (Int.tdiv (Int.tmod (rd t191 2) 16) 4)) 2))) + (wrap64 (Int.tdiv (Int.tmod (rd t191 2) 16) 8))))))))) = some r := by rw [if_neg (show ¬ (false = true) by decide)] at H; exact H
                        clear H
                        have H := H1
                        clear H1
                        obtain ⟨y216, hy216⟩ : ∃ y_ : List (List (S29)), y_ = (([t188, x6_1] : List (List (S29)))) := ⟨_, rfl⟩
                        replace H : ((impl_Covers.f k1 y216 false (wrap64 ((Int.tmod (rd t191 0) 3600) - 300)) (wrap64 ((Int.tmod (rd t191 1) 3600) - 300))).bind fun t219 => (if t219 = true then (some false) else ((impl_CountOf.f (Int.tmod (rd t191 2) 16)).bind fun t220 => (some (t220 == (wrap64 ((wrap64 ((wrap64 ((Int.tmod (Int.tmod (rd t191 2) 16) 2) + (Int.tmod (wrap64 (Int.tdiv (Int.tmod (rd t191 2) 16) 2)) 2))) + (Int.tmod (wrap64 (Int.tdiv (Int.tmod (rd t191 2) 16) 4)) 2))) + (wrap64 (Int.tdiv (Int.tmod (rd t191 2) 16) 8))))))))) = some r := by first | (rw [hy216]; with_reducible exact H) | (have H2_ := (Option.bind_some _ _).symm.trans H; rw [hy216]; with_reducible exact H2_) | (have H2_ := (Option.bind_some _ _).symm.trans H; with_reducible exact H2_) | with_reducible exact H | (rw [hy216]; exact H) | exact H
                        have Ny216 := Aside0.mk hy216
                        clear hy216
                        replace H := Option.bind_eq_some_iff.mp H
                        obtain ⟨t219, A330, H⟩ := H
                        replace H : (if t219 = true then (some false) else ((impl_CountOf.f (Int.tmod (rd t191 2) 16)).bind fun t220 => (some (t220 == (wrap64 ((wrap64 ((wrap64 ((Int.tmod (Int.tmod (rd t191 2) 16) 2) + (Int.tmod (wrap64 (Int.tdiv (Int.tmod (rd t191 2) 16) 2)) 2))) + (Int.tmod (wrap64 (Int.tdiv (Int.tmod (rd t191 2) 16) 4)) 2))) + (wrap64 (Int.tdiv (Int.tmod (rd t191 2) 16) 8)))))))) = some r := H
                        have A33 := Aside0.mk A330
                        clear A330
                        by_cases c34 : t219 = true
                        · subst c34
                          have H1 : (some false) = some r := by rw [if_pos rfl] at H; exact H
                          clear H
                          have H := H1
                          clear H1
                          obtain rfl := Option.some.inj H
                          exact absurd hT Bool.false_ne_true
                        · replace c34 := Bool.eq_false_iff.mpr c34
                          subst c34
                          have H1 : ((impl_CountOf.f (Int.tmod (rd t191 2) 16)).bind fun t220 => (some (t220 == (wrap64 ((wrap64 ((wrap64 ((Int.tmod (Int.tmod (rd t191 2) 16) 2) + (Int.tmod (wrap64 (Int.tdiv (Int.tmod (rd t191 2) 16) 2)) 2))) + (Int.tmod (wrap64 (Int.tdiv (Int.tmod (rd t191 2) 16) 4)) 2))) + (wrap64 (Int.tdiv (Int.tmod (rd t191 2) 16) 8))))))) = some r := by rw [if_neg (show ¬ (false = true) by decide)] at H; exact H
                          clear H
                          have H := H1
                          clear H1
                          replace H := Option.bind_eq_some_iff.mp H
                          obtain ⟨t220, A350, H⟩ := H
                          replace H : (some (t220 == (wrap64 ((wrap64 ((wrap64 ((Int.tmod (Int.tmod (rd t191 2) 16) 2) + (Int.tmod (wrap64 (Int.tdiv (Int.tmod (rd t191 2) 16) 2)) 2))) + (Int.tmod (wrap64 (Int.tdiv (Int.tmod (rd t191 2) 16) 4)) 2))) + (wrap64 (Int.tdiv (Int.tmod (rd t191 2) 16) 8)))))) = some r := H
                          have A35 := Aside0.mk A350
                          clear A350
                          obtain rfl := Option.some.inj H
                          simp only [Option.some.injEq, Prod.mk.injEq] at H
                          obtain ⟨rfl⟩ := H
                          have hcz36_0 : wr.cell? ⟨gb196, 0, none⟩ = some (.int .i64 (wrap64 ((Int.tmod (rd t191 0) 3600) - 300))) := (blk_cell BK196.out 0).trans rfl
                          have hcz36_1 : wr.cell? ⟨gb196, 1, none⟩ = some (.int .i64 (wrap64 ((Int.tmod (rd t191 1) 3600) - 300))) := (blk_cell BK196.out 1).trans rfl
                          have hfz36_0 := blk_frozen BK196.out 0
                          have hfz36_1 := blk_frozen BK196.out 1
                          go_wp2_with (first | ((with_reducible refine gate_callee (f := 10) rfl ?_); refine goesL_ (some 44) rfl rfl Try.func10 (by kernel_rfl) rfl #[.slice Ao17 t188.length co17, .agg #[.int .i64 (wrap64 ((Int.tmod (rd t191 0) 3600) - 300)), .int .i64 (wrap64 ((Int.tmod (rd t191 1) 3600) - 300))]] rfl (by (try simp only [List.map_toArray, List.map_cons, List.map_nil]); first | done | rfl | (simp only [List.length_drop, List.length_take]; rfl)) ?_; (with_reducible refine (impl_WindOf.calls k1 _ _ t188 (wrap64 ((Int.tmod (rd t191 0) 3600) - 300)) (wrap64 ((Int.tmod (rd t191 1) 3600) - 300)) t204 _ ?side1 ?side2 A23.out).mono ?_); (case side1 => repeat (first | exact (Kd.R_reads' HO_3.out).2.2 | (with_reducible refine Kd.C_alloc ?_ _) | (with_reducible refine Kd.C_drewN ?_ _) | (with_reducible refine Kd.C_drew ?_))); (case side2 => exact (Kd.R_reads' HO_3.out).2.1); rintro e w37 ⟨rfl, hb⟩; refine ⟨_, rfl, ?_⟩; have n0_ := Aside0.mk (Kd.R_below (by (with_reducible repeat (first | apply Kd.R_alloc | apply Kd.R_drewN | apply Kd.R_drew)); exact HO_3.out) hb); have n1_ := Aside0.mk (Kd.R_below (by (with_reducible repeat (first | apply Kd.R_alloc | apply Kd.R_drewN | apply Kd.R_drew)); exact HO_4.out) hb); have n2_ := Aside0.mk (Kd.R_below (by (with_reducible repeat (first | apply Kd.R_alloc | apply Kd.R_drewN | apply Kd.R_drew)); exact HO_6.out) hb); have n3_ := Aside0.mk (blk_below (g := gb196) (o := .cells #[.int .i64 (wrap64 ((Int.tmod (rd t191 0) 3600) - 300)), .int .i64 (wrap64 ((Int.tmod (rd t191 1) 3600) - 300))] 29 (0, 0)) (by (with_reducible repeat (first | refine blk_drewN ?_ _ | refine blk_drew ?_ | refine blk_alloc ?_ _)); exact BK196.out) hb); have n4_ := Aside0.mk (below_step (by repeat (first | (with_reducible first | exact HB.out | apply below_alloc | apply pw_below_drewN | apply below_drew1 | refine below_set ?_ GE196.out) | exact HB.out)) hb); clear HO_3; clear HO_4; clear HO_6; clear BK196; clear HB; have HO_3 := n0_; have HO_4 := n1_; have HO_6 := n2_; have BK196 := n3_; have HB := n4_; clear n0_ n1_ n2_ n3_ n4_; (try clear hb); (try clear hb2); (try clear hk); (try clear hi); have p205 : 0 ≤ (2 : Int) := (by omega); have q205 : 2 < (t191.length : Int) := of_decide_eq_true (by first | (with_reducible assumption) | assumption); obtain ⟨ad205, e205, hx205_0⟩ := Kd.at_int (Kd.R_reads' HO_4.out).2.2 2 p205 q205; obtain rfl : ad194 = ad205 := (by injection e205); (try simp only [show (2 : Int).toNat = 2 from rfl, Nat.reduceMul, Nat.reduceEqDiff, Go.Addr.add, ↓reduceIte] at hx205_0); have qi205 : (2 < t191.length) = True := eq_true (by omega); (try rw [show ((2 : Int)).toNat = 2 from rfl] at hx205_0); replace p205 := eq_true p205; replace q205 := eq_true q205; have hcz38_0 : w37.cell? ⟨gb196, 0, none⟩ = some (.int .i64 (wrap64 ((Int.tmod (rd t191 0) 3600) - 300))) := (blk_cell BK196.out 0).trans rfl; have hcz38_1 : w37.cell? ⟨gb196, 1, none⟩ = some (.int .i64 (wrap64 ((Int.tmod (rd t191 1) 3600) - 300))) := (blk_cell BK196.out 1).trans rfl; have hfz38_0 := blk_frozen BK196.out 0; have hfz38_1 := blk_frozen BK196.out 1; obtain ⟨Ao39, co39, eo39⟩ := Kd.R_slice HO_6.out; subst eo39) | ((with_reducible refine gate_callee (f := 10) rfl ?_); refine goesL_ (some 52) rfl rfl Try.func10 (by kernel_rfl) rfl #[.slice Ao39 x6_1.length co39, .agg #[.int .i64 (wrap64 ((Int.tmod (rd t191 0) 3600) - 300)), .int .i64 (wrap64 ((Int.tmod (rd t191 1) 3600) - 300))]] rfl (by (try simp only [List.map_toArray, List.map_cons, List.map_nil]); first | done | rfl | (simp only [List.length_drop, List.length_take]; rfl)) ?_; (with_reducible refine (impl_WindOf.calls k1 _ _ x6_1 (wrap64 ((Int.tmod (rd t191 0) 3600) - 300)) (wrap64 ((Int.tmod (rd t191 1) 3600) - 300)) t206 _ ?side1 ?side2 A25.out).mono ?_); (case side1 => repeat (first | exact (Kd.R_reads' HO_6.out).2.2 | (with_reducible refine Kd.C_alloc ?_ _) | (with_reducible refine Kd.C_drewN ?_ _) | (with_reducible refine Kd.C_drew ?_))); (case side2 => exact (Kd.R_reads' HO_6.out).2.1); rintro e w40 ⟨rfl, hb⟩; refine ⟨_, rfl, ?_⟩; have n0_ := Aside0.mk (Kd.R_below (by (with_reducible repeat (first | apply Kd.R_alloc | apply Kd.R_drewN | apply Kd.R_drew)); exact HO_3.out) hb); have n1_ := Aside0.mk (Kd.R_below (by (with_reducible repeat (first | apply Kd.R_alloc | apply Kd.R_drewN | apply Kd.R_drew)); exact HO_4.out) hb); have n2_ := Aside0.mk (Kd.R_below (by (with_reducible repeat (first | apply Kd.R_alloc | apply Kd.R_drewN | apply Kd.R_drew)); exact HO_6.out) hb); have n3_ := Aside0.mk (blk_below (g := gb196) (o := .cells #[.int .i64 (wrap64 ((Int.tmod (rd t191 0) 3600) - 300)), .int .i64 (wrap64 ((Int.tmod (rd t191 1) 3600) - 300))] 29 (0, 0)) (by (with_reducible repeat (first | refine blk_drewN ?_ _ | refine blk_drew ?_ | refine blk_alloc ?_ _)); exact BK196.out) hb); have n4_ := Aside0.mk (below_step (by repeat (first | (with_reducible first | exact HB.out | apply below_alloc | apply pw_below_drewN | apply below_drew1 | refine below_set ?_ GE196.out) | exact HB.out)) hb); clear HO_3; clear HO_4; clear HO_6; clear BK196; clear HB; have HO_3 := n0_; have HO_4 := n1_; have HO_6 := n2_; have BK196 := n3_; have HB := n4_; clear n0_ n1_ n2_ n3_ n4_; (try clear hb); (try clear hb2); (try clear hk); (try clear hi); have hcz41_0 : w40.cell? ⟨gb196, 0, none⟩ = some (.int .i64 (wrap64 ((Int.tmod (rd t191 0) 3600) - 300))) := (blk_cell BK196.out 0).trans rfl; have hcz41_1 : w40.cell? ⟨gb196, 1, none⟩ = some (.int .i64 (wrap64 ((Int.tmod (rd t191 1) 3600) - 300))) := (blk_cell BK196.out 1).trans rfl; have hfz41_0 := blk_frozen BK196.out 0; have hfz41_1 := blk_frozen BK196.out 1) | (go_at_call 11; (with_reducible refine (spec_WindOf.calls k1 _ _ t188 (wrap64 ((Int.tmod (rd t191 0) 3600) - 300)) (wrap64 ((Int.tmod (rd t191 1) 3600) - 300)) t207 _ ?side1 ?side2 A27.out).mono ?_); (case side1 => repeat (first | exact (Kd.R_reads' HO_3.out).2.2 | (with_reducible refine Kd.C_alloc ?_ _) | (with_reducible refine Kd.C_drewN ?_ _) | (with_reducible refine Kd.C_drew ?_))); (case side2 => exact (Kd.R_reads' HO_3.out).2.1); rintro e w42 ⟨rfl, hb⟩; have n0_ := Aside0.mk (Kd.R_below (by (with_reducible repeat (first | apply Kd.R_alloc | apply Kd.R_drewN | apply Kd.R_drew)); exact HO_3.out) hb); have n1_ := Aside0.mk (Kd.R_below (by (with_reducible repeat (first | apply Kd.R_alloc | apply Kd.R_drewN | apply Kd.R_drew)); exact HO_4.out) hb); have n2_ := Aside0.mk (Kd.R_below (by (with_reducible repeat (first | apply Kd.R_alloc | apply Kd.R_drewN | apply Kd.R_drew)); exact HO_6.out) hb); have n3_ := Aside0.mk (blk_below (g := gb196) (o := .cells #[.int .i64 (wrap64 ((Int.tmod (rd t191 0) 3600) - 300)), .int .i64 (wrap64 ((Int.tmod (rd t191 1) 3600) - 300))] 29 (0, 0)) (by (with_reducible repeat (first | refine blk_drewN ?_ _ | refine blk_drew ?_ | refine blk_alloc ?_ _)); exact BK196.out) hb); have n4_ := Aside0.mk (below_step (by repeat (first | (with_reducible first | exact HB.out | apply below_alloc | apply pw_below_drewN | apply below_drew1 | refine below_set ?_ GE196.out) | exact HB.out)) hb); clear HO_3; clear HO_4; clear HO_6; clear BK196; clear HB; have HO_3 := n0_; have HO_4 := n1_; have HO_6 := n2_; have BK196 := n3_; have HB := n4_; clear n0_ n1_ n2_ n3_ n4_; (try clear hb); (try clear hb2); (try clear hk); (try clear hi); have n_ := Aside0.mk (Kd.R_V (base' := w.heap.size) HO_3.out); clear HO_3; have HO_3 := n_; clear n_) | ((with_reducible refine gate_dst (N := 65) rfl ?_); (try (refine gate_guard (by rfl) ?_; dsimp only)); refine Kd.N_lit (Kd.slice 29 k29) _ 30 ?hg (N' := 65) ?hd (xs := ([t188, t188] : List (List (S29)))) (inner := [.slice Ao17 t188.length co17, .slice Ao17 t188.length co17]) (ok := (fun k_ => some k_ ≠ (.slice Ao39 x6_1.length co39 : Value).ownBlock ∧ k_ ≠ gb196)) (okp := (fun k_ => some k_ ≠ (.slice Ao39 x6_1.length co39 : Value).ownBlock ∧ k_ ≠ gb196)) ?hr ?hp (fun _ hk => hk) ((show ∀ k_, w42.heap.size ≤ k_ → (fun k_ => some k_ ≠ (.slice Ao39 x6_1.length co39 : Value).ownBlock ∧ k_ ≠ gb196) k_ from fun k_ hk => ⟨Kd.fresh' (Kd.R_lt (by (with_reducible repeat (first | apply Kd.R_alloc | apply Kd.R_drewN | apply Kd.R_drew)); exact HO_6.out)) k_ hk, Kd.freshB (g := gb196) (o := .cells #[.int .i64 (wrap64 ((Int.tmod (rd t191 0) 3600) - 300)), .int .i64 (wrap64 ((Int.tmod (rd t191 1) 3600) - 300))] 29 (0, 0)) (by (with_reducible repeat (first | refine blk_drewN ?_ _ | refine blk_drew ?_ | refine blk_alloc ?_ _)); exact BK196.out) k_ hk⟩) _ (Nat.le_refl _)) (Below.refl _ _) (Nat.le_refl _) (by simp) ?_; (case hd => rfl); (case hg => rfl); (case hr => first | (go_simp; done) | (go_simp; rfl)); (case hp => exact (Reps.one (show Kd.FK (Kd.slice 29 k29) _ _ t188 [.slice Ao17 t188.length co17] from (Kd.FK_slice_mk (Kd.V_reads' (Kd.V_mono (ok' := (fun k_ => some k_ ≠ (.slice Ao39 x6_1.length co39 : Value).ownBlock ∧ k_ ≠ gb196)) (HO_3.out) (fun k_ hk => ⟨hk.1, hk.2⟩))).2.1 (Kd.V_F (by (with_reducible repeat (first | apply Kd.V_alloc | apply Kd.V_drewN | apply Kd.V_drew)); exact (Kd.V_mono (ok' := (fun k_ => some k_ ≠ (.slice Ao39 x6_1.length co39 : Value).ownBlock ∧ k_ ≠ gb196)) (HO_3.out) (fun k_ hk => ⟨hk.1, hk.2⟩)))))) (Reps.one (show Kd.FK (Kd.slice 29 k29) _ _ t188 [.slice Ao17 t188.length co17] from (Kd.FK_slice_mk (Kd.V_reads' (Kd.V_mono (ok' := (fun k_ => some k_ ≠ (.slice Ao39 x6_1.length co39 : Value).ownBlock ∧ k_ ≠ gb196)) (HO_3.out) (fun k_ hk => ⟨hk.1, hk.2⟩))).2.1 (Kd.V_F (by (with_reducible repeat (first | apply Kd.V_alloc | apply Kd.V_drewN | apply Kd.V_drew)); exact (Kd.V_mono (ok' := (fun k_ => some k_ ≠ (.slice Ao39 x6_1.length co39 : Value).ownBlock ∧ k_ ≠ gb196)) (HO_3.out) (fun k_ hk => ⟨hk.1, hk.2⟩)))))) (Reps.none _ _)))); intro v209 w43 ho44 hb hg_ hnew_; clear hg_ hnew_; (first | rw [← Ny208.out] at ho44 | (simp only [Int.reduceToNat] at ho44; rw [← Ny208.out] at ho44)); have n0_ := Aside0.mk (Kd.V_elder' (by (with_reducible repeat (first | apply Kd.V_alloc | apply Kd.V_drewN | apply Kd.V_drew)); exact HO_3.out) (Kd.N_base ho44) hb); have n1_ := Aside0.mk (Kd.R_below (by (with_reducible repeat (first | apply Kd.R_alloc | apply Kd.R_drewN | apply Kd.R_drew)); exact HO_4.out) hb); have n2_ := Aside0.mk (Kd.R_below (by (with_reducible repeat (first | apply Kd.R_alloc | apply Kd.R_drewN | apply Kd.R_drew)); exact HO_6.out) hb); have n3_ := Aside0.mk (Kd.N_lower ho44 (below_size (by repeat (first | (with_reducible first | exact HB.out | apply below_alloc | apply pw_below_drewN | apply below_drew1 | refine below_set ?_ GE196.out) | exact HB.out)))); have n4_ := Aside0.mk (blk_below (g := gb196) (o := .cells #[.int .i64 (wrap64 ((Int.tmod (rd t191 0) 3600) - 300)), .int .i64 (wrap64 ((Int.tmod (rd t191 1) 3600) - 300))] 29 (0, 0)) (by (with_reducible repeat (first | refine blk_drewN ?_ _ | refine blk_drew ?_ | refine blk_alloc ?_ _)); exact BK196.out) hb); have n5_ := Aside0.mk (below_step (by repeat (first | (with_reducible first | exact HB.out | apply below_alloc | apply pw_below_drewN | apply below_drew1 | refine below_set ?_ GE196.out) | exact HB.out)) hb); clear HO_3; clear HO_4; clear HO_6; clear BK196; clear HB; have HO_3 := n0_; have HO_4 := n1_; have HO_6 := n2_; have HO210 := n3_; have BK196 := n4_; have HB := n5_; clear n0_ n1_ n2_ n3_ n4_ n5_; clear hb ho44; have hcz45_0 : w43.cell? ⟨gb196, 0, none⟩ = some (.int .i64 (wrap64 ((Int.tmod (rd t191 0) 3600) - 300))) := (blk_cell BK196.out 0).trans rfl; have hcz45_1 : w43.cell? ⟨gb196, 1, none⟩ = some (.int .i64 (wrap64 ((Int.tmod (rd t191 1) 3600) - 300))) := (blk_cell BK196.out 1).trans rfl; have hfz45_0 := blk_frozen BK196.out 0; have hfz45_1 := blk_frozen BK196.out 1; obtain ⟨Ao46, co46, eo46⟩ := Kd.N_slice HO210.out; subst eo46) | (go_at_call 12; (with_reducible refine (impl_Covers.calls k1 _ _ y208 false (wrap64 ((Int.tmod (rd t191 0) 3600) - 300)) (wrap64 ((Int.tmod (rd t191 1) 3600) - 300)) t211 _ ?side1 ?side2 A29.out).mono ?_); (case side1 => repeat (first | exact (Kd.N_reads' HO210.out).2.2 | (with_reducible refine Kd.C_alloc ?_ _) | (with_reducible refine Kd.C_drewN ?_ _) | (with_reducible refine Kd.C_drew ?_))); (case side2 => exact (Kd.N_reads' HO210.out).2.1); rintro e w47 ⟨rfl, hb⟩; have n0_ := Aside0.mk (Kd.V_below (by (with_reducible repeat (first | apply Kd.V_alloc | apply Kd.V_drewN | apply Kd.V_drew)); exact HO_3.out) hb); have n1_ := Aside0.mk (Kd.R_below (by (with_reducible repeat (first | apply Kd.R_alloc | apply Kd.R_drewN | apply Kd.R_drew)); exact HO_4.out) hb); have n2_ := Aside0.mk (Kd.R_below (by (with_reducible repeat (first | apply Kd.R_alloc | apply Kd.R_drewN | apply Kd.R_drew)); exact HO_6.out) hb); have n3_ := Aside0.mk (Kd.N_below (by (with_reducible repeat (first | apply Kd.N_alloc | apply Kd.N_drewN | apply Kd.N_drew)); exact HO210.out) hb); have n4_ := Aside0.mk (blk_below (g := gb196) (o := .cells #[.int .i64 (wrap64 ((Int.tmod (rd t191 0) 3600) - 300)), .int .i64 (wrap64 ((Int.tmod (rd t191 1) 3600) - 300))] 29 (0, 0)) (by (with_reducible repeat (first | refine blk_drewN ?_ _ | refine blk_drew ?_ | refine blk_alloc ?_ _)); exact BK196.out) hb); have n5_ := Aside0.mk (below_step (by repeat (first | (with_reducible first | exact HB.out | apply below_alloc | apply pw_below_drewN | apply below_drew1 | refine below_set ?_ GE196.out) | exact HB.out)) hb); clear HO_3; clear HO_4; clear HO_6; clear HO210; clear BK196; clear HB; have HO_3 := n0_; have HO_4 := n1_; have HO_6 := n2_; have HO210 := n3_; have BK196 := n4_; have HB := n5_; clear n0_ n1_ n2_ n3_ n4_ n5_; (try clear hb); (try clear hb2); (try clear hk); (try clear hi)) | ((with_reducible refine gate_dst (N := 75) rfl ?_); (try (refine gate_guard (by rfl) ?_; dsimp only)); refine Kd.N_lit (Kd.slice 29 k29) _ 30 ?hg (N' := 75) ?hd (xs := ([t188, t188] : List (List (S29)))) (inner := [.slice Ao17 t188.length co17, .slice Ao17 t188.length co17]) (ok := (fun k_ => some k_ ≠ (.slice Ao39 x6_1.length co39 : Value).ownBlock ∧ some k_ ≠ (.slice Ao46 y208.length co46 : Value).ownBlock ∧ k_ ≠ gb196)) (okp := (fun k_ => some k_ ≠ (.slice Ao39 x6_1.length co39 : Value).ownBlock ∧ some k_ ≠ (.slice Ao46 y208.length co46 : Value).ownBlock ∧ k_ ≠ gb196)) ?hr ?hp (fun _ hk => hk) ((show ∀ k_, w47.heap.size ≤ k_ → (fun k_ => some k_ ≠ (.slice Ao39 x6_1.length co39 : Value).ownBlock ∧ some k_ ≠ (.slice Ao46 y208.length co46 : Value).ownBlock ∧ k_ ≠ gb196) k_ from fun k_ hk => ⟨Kd.fresh' (Kd.R_lt (by (with_reducible repeat (first | apply Kd.R_alloc | apply Kd.R_drewN | apply Kd.R_drew)); exact HO_6.out)) k_ hk, Kd.fresh' (Kd.N_lt (by (with_reducible repeat (first | apply Kd.N_alloc | apply Kd.N_drewN | apply Kd.N_drew)); exact HO210.out)) k_ hk, Kd.freshB (g := gb196) (o := .cells #[.int .i64 (wrap64 ((Int.tmod (rd t191 0) 3600) - 300)), .int .i64 (wrap64 ((Int.tmod (rd t191 1) 3600) - 300))] 29 (0, 0)) (by (with_reducible repeat (first | refine blk_drewN ?_ _ | refine blk_drew ?_ | refine blk_alloc ?_ _)); exact BK196.out) k_ hk⟩) _ (Nat.le_refl _)) (Below.refl _ _) (Nat.le_refl _) (by simp) ?_; (case hd => rfl); (case hg => rfl); (case hr => first | (go_simp; done) | (go_simp; rfl)); (case hp => exact (Reps.one (show Kd.FK (Kd.slice 29 k29) _ _ t188 [.slice Ao17 t188.length co17] from (Kd.FK_slice_mk (Kd.V_reads' (Kd.V_mono (ok' := (fun k_ => some k_ ≠ (.slice Ao39 x6_1.length co39 : Value).ownBlock ∧ some k_ ≠ (.slice Ao46 y208.length co46 : Value).ownBlock ∧ k_ ≠ gb196)) (HO_3.out) (fun k_ hk => ⟨hk.1.1, ⟨hk.2, hk.1.2⟩⟩))).2.1 (Kd.V_F (by (with_reducible repeat (first | apply Kd.V_alloc | apply Kd.V_drewN | apply Kd.V_drew)); exact (Kd.V_mono (ok' := (fun k_ => some k_ ≠ (.slice Ao39 x6_1.length co39 : Value).ownBlock ∧ some k_ ≠ (.slice Ao46 y208.length co46 : Value).ownBlock ∧ k_ ≠ gb196)) (HO_3.out) (fun k_ hk => ⟨hk.1.1, ⟨hk.2, hk.1.2⟩⟩)))))) (Reps.one (show Kd.FK (Kd.slice 29 k29) _ _ t188 [.slice Ao17 t188.length co17] from (Kd.FK_slice_mk (Kd.V_reads' (Kd.V_mono (ok' := (fun k_ => some k_ ≠ (.slice Ao39 x6_1.length co39 : Value).ownBlock ∧ some k_ ≠ (.slice Ao46 y208.length co46 : Value).ownBlock ∧ k_ ≠ gb196)) (HO_3.out) (fun k_ hk => ⟨hk.1.1, ⟨hk.2, hk.1.2⟩⟩))).2.1 (Kd.V_F (by (with_reducible repeat (first | apply Kd.V_alloc | apply Kd.V_drewN | apply Kd.V_drew)); exact (Kd.V_mono (ok' := (fun k_ => some k_ ≠ (.slice Ao39 x6_1.length co39 : Value).ownBlock ∧ some k_ ≠ (.slice Ao46 y208.length co46 : Value).ownBlock ∧ k_ ≠ gb196)) (HO_3.out) (fun k_ hk => ⟨hk.1.1, ⟨hk.2, hk.1.2⟩⟩)))))) (Reps.none _ _)))); intro v213 w48 ho49 hb hg_ hnew_; clear hg_ hnew_; (first | rw [← Ny212.out] at ho49 | (simp only [Int.reduceToNat] at ho49; rw [← Ny212.out] at ho49)); have n0_ := Aside0.mk (Kd.V_elder' (by (with_reducible repeat (first | apply Kd.V_alloc | apply Kd.V_drewN | apply Kd.V_drew)); exact HO_3.out) (Kd.N_base ho49) hb); have n1_ := Aside0.mk (Kd.R_below (by (with_reducible repeat (first | apply Kd.R_alloc | apply Kd.R_drewN | apply Kd.R_drew)); exact HO_4.out) hb); have n2_ := Aside0.mk (Kd.R_below (by (with_reducible repeat (first | apply Kd.R_alloc | apply Kd.R_drewN | apply Kd.R_drew)); exact HO_6.out) hb); have n3_ := Aside0.mk (Kd.N_elder' (by (with_reducible repeat (first | apply Kd.N_alloc | apply Kd.N_drewN | apply Kd.N_drew)); exact HO210.out) (Kd.N_base ho49) hb); have n4_ := Aside0.mk (Kd.N_lower ho49 (below_size (by repeat (first | (with_reducible first | exact HB.out | apply below_alloc | apply pw_below_drewN | apply below_drew1 | refine below_set ?_ GE196.out) | exact HB.out)))); have n5_ := Aside0.mk (blk_below (g := gb196) (o := .cells #[.int .i64 (wrap64 ((Int.tmod (rd t191 0) 3600) - 300)), .int .i64 (wrap64 ((Int.tmod (rd t191 1) 3600) - 300))] 29 (0, 0)) (by (with_reducible repeat (first | refine blk_drewN ?_ _ | refine blk_drew ?_ | refine blk_alloc ?_ _)); exact BK196.out) hb); have n6_ := Aside0.mk (below_step (by repeat (first | (with_reducible first | exact HB.out | apply below_alloc | apply pw_below_drewN | apply below_drew1 | refine below_set ?_ GE196.out) | exact HB.out)) hb); clear HO_3; clear HO_4; clear HO_6; clear HO210; clear BK196; clear HB; have HO_3 := n0_; have HO_4 := n1_; have HO_6 := n2_; have HO210 := n3_; have HO214 := n4_; have BK196 := n5_; have HB := n6_; clear n0_ n1_ n2_ n3_ n4_ n5_ n6_; clear hb ho49; have hcz50_0 : w48.cell? ⟨gb196, 0, none⟩ = some (.int .i64 (wrap64 ((Int.tmod (rd t191 0) 3600) - 300))) := (blk_cell BK196.out 0).trans rfl; have hcz50_1 : w48.cell? ⟨gb196, 1, none⟩ = some (.int .i64 (wrap64 ((Int.tmod (rd t191 1) 3600) - 300))) := (blk_cell BK196.out 1).trans rfl; have hfz50_0 := blk_frozen BK196.out 0; have hfz50_1 := blk_frozen BK196.out 1; obtain ⟨Ao51, co51, eo51⟩ := Kd.N_slice HO214.out; subst eo51) | (go_at_call 12; (with_reducible refine (impl_Covers.calls k1 _ _ y212 true (wrap64 ((Int.tmod (rd t191 0) 3600) - 300)) (wrap64 ((Int.tmod (rd t191 1) 3600) - 300)) false _ ?side1 ?side2 A31.out).mono ?_); (case side1 => repeat (first | exact (Kd.N_reads' HO214.out).2.2 | (with_reducible refine Kd.C_alloc ?_ _) | (with_reducible refine Kd.C_drewN ?_ _) | (with_reducible refine Kd.C_drew ?_))); (case side2 => exact (Kd.N_reads' HO214.out).2.1); rintro e w52 ⟨rfl, hb⟩; have n0_ := Aside0.mk (Kd.V_below (by (with_reducible repeat (first | apply Kd.V_alloc | apply Kd.V_drewN | apply Kd.V_drew)); exact HO_3.out) hb); have n1_ := Aside0.mk (Kd.R_below (by (with_reducible repeat (first | apply Kd.R_alloc | apply Kd.R_drewN | apply Kd.R_drew)); exact HO_4.out) hb); have n2_ := Aside0.mk (Kd.R_below (by (with_reducible repeat (first | apply Kd.R_alloc | apply Kd.R_drewN | apply Kd.R_drew)); exact HO_6.out) hb); have n3_ := Aside0.mk (Kd.N_below (by (with_reducible repeat (first | apply Kd.N_alloc | apply Kd.N_drewN | apply Kd.N_drew)); exact HO210.out) hb); have n4_ := Aside0.mk (Kd.N_below (by (with_reducible repeat (first | apply Kd.N_alloc | apply Kd.N_drewN | apply Kd.N_drew)); exact HO214.out) hb); have n5_ := Aside0.mk (blk_below (g := gb196) (o := .cells #[.int .i64 (wrap64 ((Int.tmod (rd t191 0) 3600) - 300)), .int .i64 (wrap64 ((Int.tmod (rd t191 1) 3600) - 300))] 29 (0, 0)) (by (with_reducible repeat (first | refine blk_drewN ?_ _ | refine blk_drew ?_ | refine blk_alloc ?_ _)); exact BK196.out) hb); have n6_ := Aside0.mk (below_step (by repeat (first | (with_reducible first | exact HB.out | apply below_alloc | apply pw_below_drewN | apply below_drew1 | refine below_set ?_ GE196.out) | exact HB.out)) hb); clear HO_3; clear HO_4; clear HO_6; clear HO210; clear HO214; clear BK196; clear HB; have HO_3 := n0_; have HO_4 := n1_; have HO_6 := n2_; have HO210 := n3_; have HO214 := n4_; have BK196 := n5_; have HB := n6_; clear n0_ n1_ n2_ n3_ n4_ n5_ n6_; (try clear hb); (try clear hb2); (try clear hk); (try clear hi); have n_ := Aside0.mk (Kd.R_V (base' := w.heap.size) HO_6.out); clear HO_6; have HO_6 := n_; clear n_) | ((with_reducible refine gate_dst (N := 83) rfl ?_); (try (refine gate_guard (by rfl) ?_; dsimp only)); refine Kd.N_lit (Kd.slice 29 k29) _ 30 ?hg (N' := 83) ?hd (xs := ([t188, x6_1] : List (List (S29)))) (inner := [.slice Ao17 t188.length co17, .slice Ao39 x6_1.length co39]) (ok := (fun k_ => k_ ≠ gb196)) (okp := (fun k_ => k_ ≠ gb196)) ?hr ?hp (fun _ hk => hk) ((show ∀ k_, w52.heap.size ≤ k_ → (fun k_ => k_ ≠ gb196) k_ from fun k_ hk => Kd.freshB (g := gb196) (o := .cells #[.int .i64 (wrap64 ((Int.tmod (rd t191 0) 3600) - 300)), .int .i64 (wrap64 ((Int.tmod (rd t191 1) 3600) - 300))] 29 (0, 0)) (by (with_reducible repeat (first | refine blk_drewN ?_ _ | refine blk_drew ?_ | refine blk_alloc ?_ _)); exact BK196.out) k_ hk) _ (Nat.le_refl _)) (Below.refl _ _) (Nat.le_refl _) (by simp) ?_; (case hd => rfl); (case hg => rfl); (case hr => first | (go_simp; done) | (go_simp; rfl)); (case hp => exact (Reps.one (show Kd.FK (Kd.slice 29 k29) _ _ t188 [.slice Ao17 t188.length co17] from (Kd.FK_slice_mk (Kd.V_reads' (Kd.V_mono (ok' := (fun k_ => k_ ≠ gb196)) (HO_3.out) (fun k_ hk => hk.1.1.2))).2.1 (Kd.V_F (by (with_reducible repeat (first | apply Kd.V_alloc | apply Kd.V_drewN | apply Kd.V_drew)); exact (Kd.V_mono (ok' := (fun k_ => k_ ≠ gb196)) (HO_3.out) (fun k_ hk => hk.1.1.2)))))) (Reps.one (show Kd.FK (Kd.slice 29 k29) _ _ x6_1 [.slice Ao39 x6_1.length co39] from (Kd.FK_slice_mk (Kd.V_reads' (Kd.V_mono (ok' := (fun k_ => k_ ≠ gb196)) (HO_6.out) (fun k_ hk => hk.2))).2.1 (Kd.V_F (by (with_reducible repeat (first | apply Kd.V_alloc | apply Kd.V_drewN | apply Kd.V_drew)); exact (Kd.V_mono (ok' := (fun k_ => k_ ≠ gb196)) (HO_6.out) (fun k_ hk => hk.2)))))) (Reps.none _ _)))); intro v217 w53 ho54 hb hg_ hnew_; clear hg_ hnew_; (first | rw [← Ny216.out] at ho54 | (simp only [Int.reduceToNat] at ho54; rw [← Ny216.out] at ho54)); have n0_ := Aside0.mk (Kd.V_elder' (by (with_reducible repeat (first | apply Kd.V_alloc | apply Kd.V_drewN | apply Kd.V_drew)); exact HO_3.out) (Kd.N_base ho54) hb); have n1_ := Aside0.mk (Kd.R_below (by (with_reducible repeat (first | apply Kd.R_alloc | apply Kd.R_drewN | apply Kd.R_drew)); exact HO_4.out) hb); have n2_ := Aside0.mk (Kd.V_elder' (by (with_reducible repeat (first | apply Kd.V_alloc | apply Kd.V_drewN | apply Kd.V_drew)); exact HO_6.out) (Kd.N_base ho54) hb); have n3_ := Aside0.mk (Kd.N_elder' (by (with_reducible repeat (first | apply Kd.N_alloc | apply Kd.N_drewN | apply Kd.N_drew)); exact HO210.out) (Kd.N_base ho54) hb); have n4_ := Aside0.mk (Kd.N_elder' (by (with_reducible repeat (first | apply Kd.N_alloc | apply Kd.N_drewN | apply Kd.N_drew)); exact HO214.out) (Kd.N_base ho54) hb); have n5_ := Aside0.mk (Kd.N_lower ho54 (below_size (by repeat (first | (with_reducible first | exact HB.out | apply below_alloc | apply pw_below_drewN | apply below_drew1 | refine below_set ?_ GE196.out) | exact HB.out)))); have n6_ := Aside0.mk (blk_below (g := gb196) (o := .cells #[.int .i64 (wrap64 ((Int.tmod (rd t191 0) 3600) - 300)), .int .i64 (wrap64 ((Int.tmod (rd t191 1) 3600) - 300))] 29 (0, 0)) (by (with_reducible repeat (first | refine blk_drewN ?_ _ | refine blk_drew ?_ | refine blk_alloc ?_ _)); exact BK196.out) hb); have n7_ := Aside0.mk (below_step (by repeat (first | (with_reducible first | exact HB.out | apply below_alloc | apply pw_below_drewN | apply below_drew1 | refine below_set ?_ GE196.out) | exact HB.out)) hb); clear HO_3; clear HO_4; clear HO_6; clear HO210; clear HO214; clear BK196; clear HB; have HO_3 := n0_; have HO_4 := n1_; have HO_6 := n2_; have HO210 := n3_; have HO214 := n4_; have HO218 := n5_; have BK196 := n6_; have HB := n7_; clear n0_ n1_ n2_ n3_ n4_ n5_ n6_ n7_; clear hb ho54; have hcz55_0 : w53.cell? ⟨gb196, 0, none⟩ = some (.int .i64 (wrap64 ((Int.tmod (rd t191 0) 3600) - 300))) := (blk_cell BK196.out 0).trans rfl; have hcz55_1 : w53.cell? ⟨gb196, 1, none⟩ = some (.int .i64 (wrap64 ((Int.tmod (rd t191 1) 3600) - 300))) := (blk_cell BK196.out 1).trans rfl; have hfz55_0 := blk_frozen BK196.out 0; have hfz55_1 := blk_frozen BK196.out 1; obtain ⟨Ao56, co56, eo56⟩ := Kd.N_slice HO218.out; subst eo56) | (go_at_call 12; (with_reducible refine (impl_Covers.calls k1 _ _ y216 false (wrap64 ((Int.tmod (rd t191 0) 3600) - 300)) (wrap64 ((Int.tmod (rd t191 1) 3600) - 300)) false _ ?side1 ?side2 A33.out).mono ?_); (case side1 => repeat (first | exact (Kd.N_reads' HO218.out).2.2 | (with_reducible refine Kd.C_alloc ?_ _) | (with_reducible refine Kd.C_drewN ?_ _) | (with_reducible refine Kd.C_drew ?_))); (case side2 => exact (Kd.N_reads' HO218.out).2.1); rintro e w57 ⟨rfl, hb⟩; have n0_ := Aside0.mk (Kd.V_below (by (with_reducible repeat (first | apply Kd.V_alloc | apply Kd.V_drewN | apply Kd.V_drew)); exact HO_3.out) hb); have n1_ := Aside0.mk (Kd.R_below (by (with_reducible repeat (first | apply Kd.R_alloc | apply Kd.R_drewN | apply Kd.R_drew)); exact HO_4.out) hb); have n2_ := Aside0.mk (Kd.V_below (by (with_reducible repeat (first | apply Kd.V_alloc | apply Kd.V_drewN | apply Kd.V_drew)); exact HO_6.out) hb); have n3_ := Aside0.mk (Kd.N_below (by (with_reducible repeat (first | apply Kd.N_alloc | apply Kd.N_drewN | apply Kd.N_drew)); exact HO210.out) hb); have n4_ := Aside0.mk (Kd.N_below (by (with_reducible repeat (first | apply Kd.N_alloc | apply Kd.N_drewN | apply Kd.N_drew)); exact HO214.out) hb); have n5_ := Aside0.mk (Kd.N_below (by (with_reducible repeat (first | apply Kd.N_alloc | apply Kd.N_drewN | apply Kd.N_drew)); exact HO218.out) hb); have n6_ := Aside0.mk (blk_below (g := gb196) (o := .cells #[.int .i64 (wrap64 ((Int.tmod (rd t191 0) 3600) - 300)), .int .i64 (wrap64 ((Int.tmod (rd t191 1) 3600) - 300))] 29 (0, 0)) (by (with_reducible repeat (first | refine blk_drewN ?_ _ | refine blk_drew ?_ | refine blk_alloc ?_ _)); exact BK196.out) hb); have n7_ := Aside0.mk (below_step (by repeat (first | (with_reducible first | exact HB.out | apply below_alloc | apply pw_below_drewN | apply below_drew1 | refine below_set ?_ GE196.out) | exact HB.out)) hb); clear HO_3; clear HO_4; clear HO_6; clear HO210; clear HO214; clear HO218; clear BK196; clear HB; have HO_3 := n0_; have HO_4 := n1_; have HO_6 := n2_; have HO210 := n3_; have HO214 := n4_; have HO218 := n5_; have BK196 := n6_; have HB := n7_; clear n0_ n1_ n2_ n3_ n4_ n5_ n6_ n7_; (try clear hb); (try clear hb2); (try clear hk); (try clear hi)) | (go_at_call 13; (with_reducible refine (impl_CountOf.calls (Int.tmod (rd t191 2) 16) t220 _ A35.out).mono ?_); rintro e w' ⟨rfl, ⟨nd, rfl⟩⟩))
                          go_ret
                          exact ⟨by first | rfl | (simp [errW_none, errW_some] <;> rfl) | (simp [*, errW_none, errW_some] <;> rfl), by repeat (first | (with_reducible first | exact HB.out | apply below_alloc | apply pw_below_drewN | apply below_drew1 | refine below_set ?_ GE196.out) | exact HB.out)⟩
                    · rw [if_neg c30] at H
                      have c30b0 : (t211 == (t204 != 0)) = false := by simpa using c30
                      (try (have c30b1 : decide (t211 = (t204 != 0)) = false := by simpa using c30))
                      (try (have c30b2 : (t211 == (t204 != 0)) = false := by simpa using c30))
                      (try (have c30b3 : ¬ (t211 = (t204 != 0)) := by simpa using c30))
                      clear c30
                      obtain rfl := Option.some.inj H
                      exact absurd hT Bool.false_ne_true
                  · rw [if_neg c28] at H
                    have c28b0 : (t204 == t207) = false := beq_eq_false_iff_ne.mpr c28
                    have c28b1 : (t204 != t207) = true := bne_iff_ne.mpr c28
                    obtain rfl := Option.some.inj H
                    exact absurd hT Bool.false_ne_true
                · rw [if_neg c26] at H
                  have c26b0 : (t204 == (wrap64 (-t206))) = false := beq_eq_false_iff_ne.mpr c26
                  have c26b1 : (t204 != (wrap64 (-t206))) = true := bne_iff_ne.mpr c26
                  obtain rfl := Option.some.inj H
                  exact absurd hT Bool.false_ne_true
              · rw [if_neg c24] at H
                exact absurd H (by simp)
      · rw [if_neg c7] at H
        exact absurd H (by simp)
    · rw [if_neg c6] at H
      exact absurd H (by simp)

/-- THE ONE PURE STATEMENT of laws_FnWinds: yours. -/
def laws_FnWinds.Pure : Prop := ∀ (l0 : List Int), l0.length ≤ maxLen → l0.length * 1 ≤ 140737488351232 → (∀ x ∈ l0, (Lit.int .u8 x).wf = true) → ∃ k, laws_FnWinds.f k l0 = some true
theorem laws_FnWinds.walk (P : laws_FnWinds.Pure) (a0 : Option Addr) (len0 cap0 : Nat) (z0 : List Int) (w : World) (w0 : (a0 = none ∧ len0 = 0 ∧ cap0 = 0 ∧ z0 = []) ∨ ∃ x, a0 = some x ∧ len0 ≤ cap0 ∧ cap0 ≤ maxLen ∧ z0.length = cap0 ∧ (∀ i, i < z0.length → w.cell? (x.add i) = some (.int .u8 (z0.getD i 0))) ∧ ∀ n ∈ z0, (Lit.int .u8 n).wf = true) (y0 : len0 * 1 ≤ 140737488351232) :
    Calls Try.prog 4 #[.slice a0 len0 cap0] w fun e w' => e = .returned (.bool true) ∧ Below w.heap.size w w' := by
  obtain ⟨l0, rfl, hr0, hm0, hw0, hc0⟩ := ReadsInt.ofRowC w0
  obtain ⟨k, h⟩ := P l0 hm0 y0 hw0
  refine (laws_FnWinds.calls k _ _ l0 true w (Kd.C_of_reads (d := (0 : Int)) (h1 := fun _ => rfl) hr0) hc0 rfl h).mono ?_
  rintro e w' ⟨rfl, hd⟩
  exact ⟨rfl, hd⟩

end Go.Proofs.Ytmgbefpidnaeoaa.MFnWinds
