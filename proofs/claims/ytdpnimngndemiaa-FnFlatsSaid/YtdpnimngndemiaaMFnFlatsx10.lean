/- Functions of the program as Lean functions, and the proof that a call comes to just these: machine text of this session's own program (myprint.py). -/
import Derived.Test.YtdpnimngndemiaaMFnFlatsx0
import Derived.Test.YtdpnimngndemiaaMFnFlatsx2
namespace Go.Proofs.Ytdpnimngndemiaa.MFnFlats
open Go.RowKit Go.Proofs.YtdpnimngndemiaaW.PrintWords Go.Proofs.YtdpnimngndemiaaW.PrintLast Go.Proofs.YtdpnimngndemiaaW.PrintMore
attribute [local go_sem] max2_int min2_int max_two min_two max_three min_three max_four min_four   -- for this text's walks alone
set_option linter.unusedVariables false
set_option linter.unusedSimpArgs false

theorem z10_0 {P : Prop} (h : P := by repeat (first | (with_reducible first | exact HB.out | apply below_alloc | apply pw_below_drewN | apply below_drew1 | refine below_set ?_ GE352.out | refine below_set ?_ GE353.out) | exact HB.out)) : P := h
theorem z10_1 {P : Prop} (h : P := by repeat (first | (with_reducible first | exact HK.out | apply KeepBut.set_ | apply keep_drewN | apply keep_drew | apply keep_alloc) | exact HK.out)) : P := h
theorem z10_2 {P : Prop} (h : P := by repeat (first | (with_reducible first | exact HB.out | apply below_alloc | apply pw_below_drewN | apply below_drew1) | exact HB.out)) : P := h
theorem z10_3 {P : Prop} (h : P := by repeat (first | (with_reducible first | exact HB.out | apply below_alloc | apply pw_below_drewN | apply below_drew1 | refine below_set ?_ GE352.out) | exact HB.out)) : P := h
theorem z10_4 {P : Prop} (h : P := by (try simp only [List.map_toArray, List.map_cons, List.map_nil]); first | done | rfl | (simp only [List.length_drop, List.length_take]; rfl)) : P := h
theorem z10_5 {P : Prop} (h : P := by first | rfl | (simp [errW_none, errW_some] <;> rfl) | (simp [*, errW_none, errW_some] <;> rfl)) : P := h
theorem z10_6 {P : Prop} (h : P := by repeat (first | (with_reducible first | exact HB.out | apply below_alloc | apply pw_below_drewN | apply below_drew1 | refine below_set ?_ (IsS78.ge HI0.out)) | exact HB.out)) : P := h
theorem z10_7 {P : Prop} (h : P := by repeat (first | (with_reducible first | exact HI0.out | apply IsS78.alloc | apply IsS78.drewN | apply IsS78.drew | apply IsS78.set_1 | apply IsS78.set_2) | exact HI0.out)) : P := h
theorem z10_8 {P : Prop} (h : P := by repeat (first | (with_reducible first | exact HB.out | apply below_alloc | apply pw_below_drewN | apply below_drew1 | refine below_set ?_ (IsS78.ge HI0.out)) | exact HB.out)) : P := h
theorem z10_9 {P : Prop} (h : P := by repeat (first | (with_reducible first | exact HI0.out | apply IsS78.alloc | apply IsS78.drewN | apply IsS78.drew | apply IsS78.set_1 | apply IsS78.set_2) | exact HI0.out)) : P := h
theorem z10_10 {P : Prop} (h : P := by apply blk_fin; (focus ((with_reducible repeat (first | apply blk_putQ | refine blk_drewN ?_ _ | refine blk_drew ?_ | refine blk_alloc ?_ _)); exact BK353.out)); first | (simp only [List.setIfInBounds_toArray, List.set_cons_zero, List.set_cons_succ]; done) | rfl) : P := h
theorem z10_11 {P : Prop} (h : P := by first | exact Kd.R_nil _ _ _ _ _ | exact Kd.N_nil _ _ _ _ _ | exact Kd.V_nil _ _ _ _ _ | exact Kd.Q_nil _ _ _ _ _ | exact Kd.S_nil _ _ _ _ _) : P := h
theorem z10_12 {P : Prop} (h : P := by repeat (first | (with_reducible first | exact HK.out | apply KeepBut.set_ | apply keep_drewN | apply keep_drew | apply keep_alloc | refine keep_far ?_ GW369.out _) | exact HK.out)) : P := h
theorem z10_13 {P : Prop} (h : P := by first | (rw [hy_]; with_reducible exact H) | (have H2_ := (Option.bind_some _ _).symm.trans H; rw [hy_]; with_reducible exact H2_) | (have H2_ := (Option.bind_some _ _).symm.trans H; with_reducible exact H2_) | with_reducible exact H | (rw [hy_]; exact H) | exact H) : P := h
theorem z10_14 {P : Prop} (h : P := by repeat (first | (with_reducible first | exact HB.out | apply below_alloc | apply pw_below_drewN | apply below_drew1 | refine below_set ?_ (IsS78.ge HI0.out) | refine below_set ?_ GE369.out) | exact HB.out)) : P := h
theorem z10_15 {P : Prop} (h : P := by repeat (first | (with_reducible first | exact HI0.out | apply IsS78.alloc | apply IsS78.drewN | apply IsS78.drew | apply IsS78.set_1 | apply IsS78.set_2 | apply IsS78.farB NB0_369.out) | exact HI0.out)) : P := h
theorem z10_16 {P : Prop} (h : P := by repeat (first | (with_reducible first | exact HB.out | apply below_alloc | apply pw_below_drewN | apply below_drew1 | refine below_set ?_ GE351.out) | exact HB.out)) : P := h
/-! ### laws_big: function 14 -/
def laws_big.f (l0 : List Int) : Option (Bool) := some (decide ((l0.length : Int) > 1048576))
set_option maxHeartbeats 8000000 in
set_option maxRecDepth 100000 in
theorem laws_big.calls (A0 : Option Addr) (c0 : Nat) (l0 : List Int) (r : Bool) (w : World) (hr0 : Kd.C (Kd.int .u8) w A0 l0.length l0) (hc0 : l0.length ≤ c0) (h : laws_big.f l0 = some r) :
  Calls Try.prog 14 #[.slice A0 l0.length c0] w fun e w' => e = .returned (.bool r) ∧ Drawn0 w w' := by
 have HR0 := mk0 hr0
 have HC0 := mk0 hc0
 clear hr0 hc0
 have H : (some (decide ((l0.length : Int) > 1048576))) = some r := h
 clear h
 obtain rfl := Option.some.inj H
 simp only [Option.some.injEq, Prod.mk.injEq] at H
 obtain ⟨rfl⟩ := H
 go_enter Try.func14, Try.ntmps14
 go_wp2
 go_ret
 exact ⟨rs0, (by repeat (first | exact Drawn0.refl _ | apply Drawn0.step))⟩

/-- A state of type 78 at block g of W; what its slices lead to came in by w0. -/
def IsS78 (w0 W : World) (g : Nat) (f0 : List Int) (f1 : Int) (f2 : Int) : Prop := ∃ A0 c0, W.heap[g]? = some (.cells #[.slice A0 f0.length c0, .int .i64 f1, .int .i64 f2] 78 (0, 0)) ∧ w0.heap.size ≤ g ∧ Kd.C (Kd.int .u8) w0 A0 f0.length f0
theorem IsS78.grown {w0 W : World} {g : Nat} {f0 : List Int} {f1 : Int} {f2 : Int} {W1 : World} {row : Option Nat} (h : IsS78 w0 W g f0 f1 f2) (hw : W.grownBy W1 row) (hne : some g ≠ row) : IsS78 w0 W1 g f0 f1 f2 := by
 obtain ⟨A0, c0, hb, hg, hr0⟩ := h
 exact ⟨A0, c0, blk_grown hb hw hne, hg, hr0⟩
theorem IsS78.own_neN {w0 W : World} {g : Nat} {f0 : List Int} {f1 : Int} {f2 : Int} {α : Type} {d : Kd α} {e : Nat} {base : Nat} {ok : Nat → Prop} {v : Value} {xs : List α} (h : IsS78 w0 W g f0 f1 f2) (ho : Kd.N d e W base ok v xs) (ht : e ≠ 78) : some g ≠ v.ownBlock := by
 obtain ⟨A0, c0, hb, hg, hr0⟩ := h
 exact Kd.N_ne ho hb ht
theorem IsS78.fresh {w0 W : World} {g : Nat} {f0 : List Int} {f1 : Int} {f2 : Int} (h : IsS78 w0 W g f0 f1 f2) : ∀ k, W.heap.size ≤ k → k ≠ g := by
 obtain ⟨A0, c0, hb, hg, hr0⟩ := h
 exact Kd.freshB hb
theorem IsS78.kept {w0 W : World} {g : Nat} {f0 : List Int} {f1 : Int} {f2 : Int} {W1 : World} {S : Nat → Prop} (h : IsS78 w0 W g f0 f1 f2) (hk : Kept W W1 S) (hne : ¬ S g) : IsS78 w0 W1 g f0 f1 f2 := by
 obtain ⟨A0, c0, hb, hg, hr0⟩ := h
 exact ⟨A0, c0, blk_kept hb hk hne, hg, hr0⟩
theorem IsS78.below {w0 W : World} {g : Nat} {f0 : List Int} {f1 : Int} {f2 : Int} {W1 : World} (h : IsS78 w0 W g f0 f1 f2) (hw : Below W.heap.size W W1) : IsS78 w0 W1 g f0 f1 f2 := h.grown (grown_of_below hw none) (by simp)
theorem IsS78.alloc {w0 W : World} {g : Nat} {f0 : List Int} {f1 : Int} {f2 : Int} (h : IsS78 w0 W g f0 f1 f2) (o : Obj) : IsS78 w0 (W.alloc o) g f0 f1 f2 := h.below (below_alloc (Below.refl _ _) o)
theorem IsS78.drewN {w0 W : World} {g : Nat} {f0 : List Int} {f1 : Int} {f2 : Int} (h : IsS78 w0 W g f0 f1 f2) (m : Nat) : IsS78 w0 (W.drewN m) g f0 f1 f2 := h
theorem IsS78.drew {w0 W : World} {g : Nat} {f0 : List Int} {f1 : Int} {f2 : Int} (h : IsS78 w0 W g f0 f1 f2) : IsS78 w0 W.drew g f0 f1 f2 := h
theorem IsS78.at_ {w0 W : World} {g : Nat} {f0 : List Int} {f1 : Int} {f2 : Int} {w' : World} {m : Nat} (hq : W.drewN m = w') (h : IsS78 w0 W g f0 f1 f2) : IsS78 w0 w' g f0 f1 f2 := by subst hq; exact IsS78.drewN h m
theorem IsS78.apart {w0 W : World} {g : Nat} {f0 : List Int} {f1 : Int} {f2 : Int} {α : Type} {d : Kd α} {e : Nat} {base : Nat} {ok : Nat → Prop} {v : Value} {xs : List α} (h : IsS78 w0 W g f0 f1 f2) (ho : d.R e W base ok v xs) (ht : ∀ q, q ∈ e :: d.E → q ≠ 78) : d.R e W base (fun k => ok k ∧ k ≠ g) v xs := by
 obtain ⟨A0, c0, hb, hg, hr0⟩ := h
 exact Kd.R_types ho hb ht
theorem IsS78.own_ne {w0 W : World} {g : Nat} {f0 : List Int} {f1 : Int} {f2 : Int} {α : Type} {d : Kd α} {e : Nat} {base : Nat} {ok : Nat → Prop} {v : Value} {xs : List α} (h : IsS78 w0 W g f0 f1 f2) (ho : d.R e W base ok v xs) (ht : e ≠ 78) : some g ≠ v.ownBlock := by
 obtain ⟨A0, c0, hb, hg, hr0⟩ := h
 exact Kd.R_ne ho hb ht
theorem IsS78.apartQ {w0 W : World} {g : Nat} {f0 : List Int} {f1 : Int} {f2 : Int} {α : Type} {d : Kd α} {e : Nat} {base : Nat} {ok : Nat → Prop} {v : Value} {xs : List α} (h : IsS78 w0 W g f0 f1 f2) (ho : d.Q e W base ok v xs) (ht : ∀ q, q ∈ e :: d.E → q ≠ 78) : d.Q e W base (fun k => ok k ∧ k ≠ g) v xs := by
 obtain ⟨A0, c0, hb, hg, hr0⟩ := h
 exact Kd.Q_types ho hb ht
theorem IsS78.own_neQ {w0 W : World} {g : Nat} {f0 : List Int} {f1 : Int} {f2 : Int} {α : Type} {d : Kd α} {e : Nat} {base : Nat} {ok : Nat → Prop} {v : Value} {xs : List α} (h : IsS78 w0 W g f0 f1 f2) (ho : d.Q e W base ok v xs) (ht : e ≠ 78) : some g ≠ v.ownBlock := by
 obtain ⟨A0, c0, hb, hg, hr0⟩ := h
 exact Kd.Q_ne ho hb ht
theorem IsS78.apartS {w0 W : World} {g : Nat} {f0 : List Int} {f1 : Int} {f2 : Int} {α : Type} {d : Kd α} {e : Nat} {base : Nat} {ok : Nat → Prop} {v : Value} {xs : List α} (h : IsS78 w0 W g f0 f1 f2) (ho : d.S e W base ok v xs) (ht : ∀ q, q ∈ e :: d.E → q ≠ 78) : d.S e W base (fun k => ok k ∧ k ≠ g) v xs := by
 obtain ⟨A0, c0, hb, hg, hr0⟩ := h
 exact Kd.S_types ho hb ht
theorem IsS78.own_neS {w0 W : World} {g : Nat} {f0 : List Int} {f1 : Int} {f2 : Int} {α : Type} {d : Kd α} {e : Nat} {base : Nat} {ok : Nat → Prop} {v : Value} {xs : List α} (h : IsS78 w0 W g f0 f1 f2) (ho : d.S e W base ok v xs) (ht : e ≠ 78) : some g ≠ v.ownBlock := by
 obtain ⟨A0, c0, hb, hg, hr0⟩ := h
 exact Kd.S_ne ho hb ht
theorem IsS78.lt {w0 W : World} {g : Nat} {f0 : List Int} {f1 : Int} {f2 : Int} (h : IsS78 w0 W g f0 f1 f2) : g < W.heap.size := by
 obtain ⟨A0, c0, hb, hg, hr0⟩ := h
 exact blk_lt hb
theorem IsS78.ge {w0 W : World} {g : Nat} {f0 : List Int} {f1 : Int} {f2 : Int} (h : IsS78 w0 W g f0 f1 f2) : w0.heap.size ≤ g := by
 obtain ⟨A0, c0, hb, hg, hr0⟩ := h
 exact hg
theorem IsS78.ne_blk {w0 W : World} {g : Nat} {f0 : List Int} {f1 : Int} {f2 : Int} {a : Nat} {cs : Array Value} {t : TypeId} {fr : Nat × Nat} (h : IsS78 w0 W g f0 f1 f2) (hb2 : W.heap[a]? = some (.cells cs t fr)) (ht : t ≠ 78) : g ≠ a := by
 obtain ⟨A0, c0, hb, hg, hr0⟩ := h
 rintro rfl
 rw [hb] at hb2
 injection hb2 with hb2
 injection hb2 with _ ht2
 exact ht ht2.symm
theorem IsS78.far {w0 W : World} {g : Nat} {f0 : List Int} {f1 : Int} {f2 : Int} {p : Addr} (h : IsS78 w0 W g f0 f1 f2) (hne : g ≠ p.block) (u : Value) : IsS78 w0 (W.setCell p u) g f0 f1 f2 := by
 obtain ⟨A0, c0, hb, hg, hr0⟩ := h
 exact ⟨A0, c0, blk_far hb hne u, hg, hr0⟩
theorem IsS78.farB {w0 W : World} {g : Nat} {f0 : List Int} {f1 : Int} {f2 : Int} {b i : Nat} {u : Value} (n : g ≠ b) (h : IsS78 w0 W g f0 f1 f2) : IsS78 w0 (W.setCell ⟨b, i, none⟩ u) g f0 f1 f2 := h.far n u
theorem cellS78_0 {W : World} {g : Nat} {A0 : Option Addr} {c0 : Nat} {f0 : List Int} {f1 : Int} {f2 : Int} (h : W.heap[g]? = some (.cells #[.slice A0 f0.length c0, .int .i64 f1, .int .i64 f2] 78 (0, 0))) : W.cell? ⟨g, 0, none⟩ = some (.slice A0 f0.length c0) := (blk_cell h 0).trans rfl
theorem cellS78_1 {W : World} {g : Nat} {A0 : Option Addr} {c0 : Nat} {f0 : List Int} {f1 : Int} {f2 : Int} (h : W.heap[g]? = some (.cells #[.slice A0 f0.length c0, .int .i64 f1, .int .i64 f2] 78 (0, 0))) : W.cell? ⟨g, 1, none⟩ = some (.int .i64 f1) := (blk_cell h 1).trans rfl
theorem IsS78.set_1 {w0 W : World} {g : Nat} {f0 : List Int} {f1 : Int} {f2 : Int} (h : IsS78 w0 W g f0 f1 f2) (x : Int) : IsS78 w0 (W.setCell ⟨g, 1, none⟩ (.int .i64 x)) g f0 x f2 := by
 obtain ⟨A0, c0, hb, hg, hr0⟩ := h
 exact ⟨A0, c0, (by simpa using blk_set hb 1 (.int .i64 x)), hg, hr0⟩
theorem cellS78_2 {W : World} {g : Nat} {A0 : Option Addr} {c0 : Nat} {f0 : List Int} {f1 : Int} {f2 : Int} (h : W.heap[g]? = some (.cells #[.slice A0 f0.length c0, .int .i64 f1, .int .i64 f2] 78 (0, 0))) : W.cell? ⟨g, 2, none⟩ = some (.int .i64 f2) := (blk_cell h 2).trans rfl
theorem IsS78.set_2 {w0 W : World} {g : Nat} {f0 : List Int} {f1 : Int} {f2 : Int} (h : IsS78 w0 W g f0 f1 f2) (x : Int) : IsS78 w0 (W.setCell ⟨g, 2, none⟩ (.int .i64 x)) g f0 f1 x := by
 obtain ⟨A0, c0, hb, hg, hr0⟩ := h
 exact ⟨A0, c0, (by simpa using blk_set hb 2 (.int .i64 x)), hg, hr0⟩
theorem IsS78.new (w0 W : World) (A0 : Option Addr) (c0 : Nat) (f0 : List Int) (f1 : Int) (f2 : Int) (hB : Below w0.heap.size w0 W) (hr0 : Kd.C (Kd.int .u8) w0 A0 f0.length f0) : IsS78 w0 (W.alloc (.cells #[.slice A0 f0.length c0, .int .i64 f1, .int .i64 f2] 78)) W.heap.size f0 f1 f2 := ⟨A0, c0, by simpa using heap_alloc_new W _, hB.size, hr0⟩

/-! ### spec_l01Byte: function 59 -/
def spec_l01Byte.f (s0_0 : List Int) (s0_1 : Int) (s0_2 : Int) : Option (Int × Int × Int) := if s0_1 < (s0_0.length : Int) then (if 0 ≤ s0_1 then (some (Go.bits .and .i64 (wrap64 ((Go.bits .and .i64 (Go.bits .xor .i64 ((wrap64 ((wrap64 (s0_2 * 6364136223846793005)) + 1442695040888963407)) / 8589934592) ((wrap64 ((wrap64 (s0_2 * 6364136223846793005)) + 1442695040888963407)) / 35184372088832)) 255) + (wrap64 (rd s0_0 s0_1)))) 255, wrap64 (s0_1 + 1), wrap64 ((wrap64 (s0_2 * 6364136223846793005)) + 1442695040888963407))) else (none)) else (some (Go.bits .and .i64 (Go.bits .xor .i64 ((wrap64 ((wrap64 (s0_2 * 6364136223846793005)) + 1442695040888963407)) / 8589934592) ((wrap64 ((wrap64 (s0_2 * 6364136223846793005)) + 1442695040888963407)) / 35184372088832)) 255, s0_1, wrap64 ((wrap64 (s0_2 * 6364136223846793005)) + 1442695040888963407)))
set_option maxHeartbeats 8000000 in
set_option maxRecDepth 100000 in
theorem spec_l01Byte.calls (g : Nat) (s0_0 : List Int) (s0_1 : Int) (s0_2 : Int) (r1 : Int) (r2 : Int) (r3 : Int) (w0 w : World) (hI : IsS78 w0 w g s0_0 s0_1 s0_2) (hB : Below w0.heap.size w0 w) (h : spec_l01Byte.f s0_0 s0_1 s0_2 = some (r1, r2, r3)) :
  Calls Try.prog 59 #[.pointer (some ⟨g, 0, none⟩)] w fun e w' => e = .returned (.int .i64 r1) ∧ IsS78 w0 w' g s0_0 r2 r3 ∧ Below w0.heap.size w0 w' ∧ KeepBut w w' g none := by
 have HI0 := mk0 hI
 have HK := mk0 (KeepBut.refl w g none)
 have HL := mk0 hB.size
 clear hI
 have HW0 := mk0 hB.size
 have HB := mk0 hB
 clear hB
 have H : (if s0_1 < (s0_0.length : Int) then (if 0 ≤ s0_1 then (some (Go.bits .and .i64 (wrap64 ((Go.bits .and .i64 (Go.bits .xor .i64 ((wrap64 ((wrap64 (s0_2 * 6364136223846793005)) + 1442695040888963407)) / 8589934592) ((wrap64 ((wrap64 (s0_2 * 6364136223846793005)) + 1442695040888963407)) / 35184372088832)) 255) + (wrap64 (rd s0_0 s0_1)))) 255, wrap64 (s0_1 + 1), wrap64 ((wrap64 (s0_2 * 6364136223846793005)) + 1442695040888963407))) else (none)) else (some (Go.bits .and .i64 (Go.bits .xor .i64 ((wrap64 ((wrap64 (s0_2 * 6364136223846793005)) + 1442695040888963407)) / 8589934592) ((wrap64 ((wrap64 (s0_2 * 6364136223846793005)) + 1442695040888963407)) / 35184372088832)) 255, s0_1, wrap64 ((wrap64 (s0_2 * 6364136223846793005)) + 1442695040888963407)))) = some (r1, r2, r3) := h
 clear h
 by_cases c2 : s0_1 < (s0_0.length : Int)
 rotate_left
 ·rw [if_neg c2] at H
  have c2b0 := decide_eq_false c2
  clear c2
  simp only [Option.some.injEq, Prod.mk.injEq] at H
  obtain ⟨rfl, rfl, rfl⟩ := H
  obtain ⟨ASz5_0, cSz5_0, HGz5, hgz5, HSz5_0⟩ := HI0.out
  have hcz5_0 := cellS78_0 HGz5
  have hcz5_1 := cellS78_1 HGz5
  have hcz5_2 := cellS78_2 HGz5
  have hfz5_1 := blk_frozen HGz5 1
  have hfz5_2 := blk_frozen HGz5 2
  clear HGz5 hgz5
  go_enter Try.func59, Try.ntmps59
  go_wp2
  repeat (go_quiet (fail); try go_wp2)
  go_ret
  exact ⟨z10_5, z10_7, z10_6, z10_1⟩
 rw [if_pos c2] at H
 have c2b0 := decide_eq_true c2
 clear c2
 by_cases c3 : 0 ≤ s0_1
 rotate_left
 ·rw [if_neg c3] at H
  exact absurd H (by simp)
 rw [if_pos c3] at H
 have c3b0 := decide_eq_true c3
 clear c3
 simp only [Option.some.injEq, Prod.mk.injEq] at H
 obtain ⟨rfl, rfl, rfl⟩ := H
 obtain ⟨ASz4_0, cSz4_0, HGz4, hgz4, HSz4_0⟩ := HI0.out
 have hcz4_0 := cellS78_0 HGz4
 have hcz4_1 := cellS78_1 HGz4
 have hcz4_2 := cellS78_2 HGz4
 have hfz4_1 := blk_frozen HGz4 1
 have hfz4_2 := blk_frozen HGz4 2
 clear HGz4 hgz4
 have p332 : 0 ≤ (s0_1 : Int) := of_decide_eq_true (by first | (with_reducible assumption) | assumption)
 have q332 : s0_1 < (s0_0.length : Int) := of_decide_eq_true (by first | (with_reducible assumption) | assumption)
 obtain ⟨ad332, e332, hx332_0⟩ := Kd.at_int HSz4_0 s0_1 p332 q332
 cases e332
 have hn332_0 : ad332.block ≠ g := Nat.ne_of_lt (Nat.lt_of_lt_of_le (by have := World.block_lt_of_cell? _ _ hx332_0; first | rwa [add_block] at this | exact this) (IsS78.ge HI0.out))
 replace hx332_0 := pw_cell_below HB.out hx332_0
 replace hx332_0 := (cell_far (p := ⟨g, 2, none⟩) (by first | (rw [add_block]; exact hn332_0) | (show (Addr.add _ _).block ≠ _; rw [add_block]; exact hn332_0) | exact hn332_0) (.int .i64 (wrap64 ((wrap64 (s0_2 * 6364136223846793005)) + 1442695040888963407)))).trans hx332_0
 (try have hy332_0 := fun (n_ : Nat) => (show (((w.drewN n_).setCell ⟨g, 2, none⟩ (.int .i64 (wrap64 ((wrap64 (s0_2 * 6364136223846793005)) + 1442695040888963407))))).cell? _ = some _ from hx332_0))
 clear hn332_0
 replace p332 := eq_true p332
 replace q332 := eq_true q332
 go_enter Try.func59, Try.ntmps59
 go_wp2
 repeat (go_quiet (fail); try go_wp2)
 go_ret
 exact ⟨z10_5, z10_7, z10_6, z10_1⟩

/-! ### spec_l01Below: function 49 -/
def spec_l01Below.f (s0_0 : List Int) (s0_1 : Int) (s0_2 : Int) (a1 : Int) : Option (Int × Int × Int) := if a1 ≤ 0 then (some (0, s0_1, s0_2)) else (if a1 ≤ 256 then ((spec_l01Byte.f s0_0 s0_1 s0_2).bind fun bt333 => (if a1 = 0 then (none) else (some (Int.tmod bt333.1 a1, bt333.2.1, bt333.2.2)))) else ((spec_l01Byte.f s0_0 s0_1 s0_2).bind fun bt336 => ((spec_l01Byte.f s0_0 bt336.2.1 bt336.2.2).bind fun bt339 => ((spec_l01Byte.f s0_0 bt339.2.1 bt339.2.2).bind fun bt342 => ((spec_l01Byte.f s0_0 bt342.2.1 bt342.2.2).bind fun bt345 => (if a1 = 0 then (none) else (some (Int.tmod (wrap64 ((wrap64 ((wrap64 ((wrap64 (bt336.1 * 16777216)) + (wrap64 (bt339.1 * 65536)))) + (wrap64 (bt342.1 * 256)))) + bt345.1)) a1, bt345.2.1, bt345.2.2))))))))
set_option maxHeartbeats 8000000 in
set_option maxRecDepth 100000 in
theorem spec_l01Below.calls (g : Nat) (s0_0 : List Int) (s0_1 : Int) (s0_2 : Int) (a1 : Int) (r1 : Int) (r2 : Int) (r3 : Int) (w0 w : World) (hI : IsS78 w0 w g s0_0 s0_1 s0_2) (hB : Below w0.heap.size w0 w) (h : spec_l01Below.f s0_0 s0_1 s0_2 a1 = some (r1, r2, r3)) :
  Calls Try.prog 49 #[.pointer (some ⟨g, 0, none⟩), .int .i64 a1] w fun e w' => e = .returned (.int .i64 r1) ∧ IsS78 w0 w' g s0_0 r2 r3 ∧ Below w0.heap.size w0 w' ∧ KeepBut w w' g none := by
 have HI0 := mk0 hI
 have HK := mk0 (KeepBut.refl w g none)
 have HL := mk0 hB.size
 clear hI
 have HW0 := mk0 hB.size
 have HB := mk0 hB
 clear hB
 have H : (if a1 ≤ 0 then (some (0, s0_1, s0_2)) else (if a1 ≤ 256 then ((spec_l01Byte.f s0_0 s0_1 s0_2).bind fun bt333 => (if a1 = 0 then (none) else (some (Int.tmod bt333.1 a1, bt333.2.1, bt333.2.2)))) else ((spec_l01Byte.f s0_0 s0_1 s0_2).bind fun bt336 => ((spec_l01Byte.f s0_0 bt336.2.1 bt336.2.2).bind fun bt339 => ((spec_l01Byte.f s0_0 bt339.2.1 bt339.2.2).bind fun bt342 => ((spec_l01Byte.f s0_0 bt342.2.1 bt342.2.2).bind fun bt345 => (if a1 = 0 then (none) else (some (Int.tmod (wrap64 ((wrap64 ((wrap64 ((wrap64 (bt336.1 * 16777216)) + (wrap64 (bt339.1 * 65536)))) + (wrap64 (bt342.1 * 256)))) + bt345.1)) a1, bt345.2.1, bt345.2.2))))))))) = some (r1, r2, r3) := h
 clear h
 by_cases c3 : a1 ≤ 0
 ·rw [if_pos c3] at H
  have c3b0 := decide_eq_true c3
  clear c3
  simp only [Option.some.injEq, Prod.mk.injEq] at H
  obtain ⟨rfl, rfl, rfl⟩ := H
  go_enter Try.func49, Try.ntmps49
  go_wp2
  go_ret
  exact ⟨z10_5, z10_7, z10_6, z10_1⟩
 rw [if_neg c3] at H
 have c3b0 := decide_eq_false c3
 clear c3
 by_cases c4 : a1 ≤ 256
 ·rw [if_pos c4] at H
  have c4b0 := decide_eq_true c4
  clear c4
  replace H := Option.bind_eq_some_iff.mp H
  obtain ⟨⟨t333, t334, t335⟩, A50, H⟩ := H
  try dsimp only at H
  have A5 := mk0 A50
  clear A50
  by_cases c6 : a1 = 0
  ·rw [if_pos c6] at H
   exact absurd H (by simp)
  rw [if_neg c6] at H
  have c6b0 : (a1 == 0) = false := beq_eq_false_iff_ne.mpr c6
  have c6b1 : (a1 != 0) = true := bne_iff_ne.mpr c6
  simp only [Option.some.injEq, Prod.mk.injEq] at H
  obtain ⟨rfl, rfl, rfl⟩ := H
  go_enter Try.func49, Try.ntmps49
  go_wp2_with (first | ((with_reducible refine gate_callee (f := 59) rfl ?_); refine goesL_ (some 14) rfl rfl Try.func59 (by kernel_rfl) rfl #[.pointer (some ⟨g, 0, none⟩)] rfl z10_4 ?_; (with_reducible refine (spec_l01Byte.calls g s0_0 s0_1 s0_2 t333 t334 t335 w0 _ ?side1 ?side2 A5.out).mono ?_); (case side1 => exact z10_9); (case side2 => exact z10_8); rintro e w7 ⟨rfl, hi, hb, hk⟩; refine ⟨_, rfl, ?_⟩; have n0_ := mk0 (KeepBut.trans z10_1 hk (.inl rfl)); have n1_ := mk0 (hb); have n2_ := mk0 (hi); clear HK HB HI0; have HK := n0_; have HB := n1_; have HI0 := n2_; clear n0_ n1_ n2_; (try clear hb); (try clear hk); (try clear hi)))
  go_ret
  exact ⟨z10_5, z10_7, z10_6, z10_1⟩
 rw [if_neg c4] at H
 have c4b0 := decide_eq_false c4
 clear c4
 replace H := Option.bind_eq_some_iff.mp H
 obtain ⟨⟨t336, t337, t338⟩, A80, H⟩ := H
 try dsimp only at H
 have A8 := mk0 A80
 clear A80
 replace H := Option.bind_eq_some_iff.mp H
 obtain ⟨⟨t339, t340, t341⟩, A90, H⟩ := H
 try dsimp only at H
 have A9 := mk0 A90
 clear A90
 replace H := Option.bind_eq_some_iff.mp H
 obtain ⟨⟨t342, t343, t344⟩, A100, H⟩ := H
 try dsimp only at H
 have A10 := mk0 A100
 clear A100
 replace H := Option.bind_eq_some_iff.mp H
 obtain ⟨⟨t345, t346, t347⟩, A110, H⟩ := H
 try dsimp only at H
 have A11 := mk0 A110
 clear A110
 by_cases c12 : a1 = 0
 ·rw [if_pos c12] at H
  exact absurd H (by simp)
 rw [if_neg c12] at H
 have c12b0 : (a1 == 0) = false := beq_eq_false_iff_ne.mpr c12
 have c12b1 : (a1 != 0) = true := bne_iff_ne.mpr c12
 simp only [Option.some.injEq, Prod.mk.injEq] at H
 obtain ⟨rfl, rfl, rfl⟩ := H
 go_enter Try.func49, Try.ntmps49
 go_wp2_with (first | ((with_reducible refine gate_callee (f := 59) rfl ?_); refine goesL_ (some 18) rfl rfl Try.func59 (by kernel_rfl) rfl #[.pointer (some ⟨g, 0, none⟩)] rfl z10_4 ?_; (with_reducible refine (spec_l01Byte.calls g s0_0 s0_1 s0_2 t336 t337 t338 w0 _ ?side1 ?side2 A8.out).mono ?_); (case side1 => exact z10_9); (case side2 => exact z10_8); rintro e w13 ⟨rfl, hi, hb, hk⟩; refine ⟨_, rfl, ?_⟩; have n0_ := mk0 (KeepBut.trans z10_1 hk (.inl rfl)); have n1_ := mk0 (hb); have n2_ := mk0 (hi); clear HK HB HI0; have HK := n0_; have HB := n1_; have HI0 := n2_; clear n0_ n1_ n2_; (try clear hb); (try clear hk); (try clear hi)) | ((with_reducible refine gate_callee (f := 59) rfl ?_); refine goesL_ (some 20) rfl rfl Try.func59 (by kernel_rfl) rfl #[.pointer (some ⟨g, 0, none⟩)] rfl z10_4 ?_; (with_reducible refine (spec_l01Byte.calls g s0_0 t337 t338 t339 t340 t341 w0 _ ?side1 ?side2 A9.out).mono ?_); (case side1 => exact z10_9); (case side2 => exact z10_8); rintro e w14 ⟨rfl, hi, hb, hk⟩; refine ⟨_, rfl, ?_⟩; have n0_ := mk0 (KeepBut.trans z10_1 hk (.inl rfl)); have n1_ := mk0 (hb); have n2_ := mk0 (hi); clear HK HB HI0; have HK := n0_; have HB := n1_; have HI0 := n2_; clear n0_ n1_ n2_; (try clear hb); (try clear hk); (try clear hi)) | ((with_reducible refine gate_callee (f := 59) rfl ?_); refine goesL_ (some 22) rfl rfl Try.func59 (by kernel_rfl) rfl #[.pointer (some ⟨g, 0, none⟩)] rfl z10_4 ?_; (with_reducible refine (spec_l01Byte.calls g s0_0 t340 t341 t342 t343 t344 w0 _ ?side1 ?side2 A10.out).mono ?_); (case side1 => exact z10_9); (case side2 => exact z10_8); rintro e w15 ⟨rfl, hi, hb, hk⟩; refine ⟨_, rfl, ?_⟩; have n0_ := mk0 (KeepBut.trans z10_1 hk (.inl rfl)); have n1_ := mk0 (hb); have n2_ := mk0 (hi); clear HK HB HI0; have HK := n0_; have HB := n1_; have HI0 := n2_; clear n0_ n1_ n2_; (try clear hb); (try clear hk); (try clear hi)) | ((with_reducible refine gate_callee (f := 59) rfl ?_); refine goesL_ (some 24) rfl rfl Try.func59 (by kernel_rfl) rfl #[.pointer (some ⟨g, 0, none⟩)] rfl z10_4 ?_; (with_reducible refine (spec_l01Byte.calls g s0_0 t343 t344 t345 t346 t347 w0 _ ?side1 ?side2 A11.out).mono ?_); (case side1 => exact z10_9); (case side2 => exact z10_8); rintro e w16 ⟨rfl, hi, hb, hk⟩; refine ⟨_, rfl, ?_⟩; have n0_ := mk0 (KeepBut.trans z10_1 hk (.inl rfl)); have n1_ := mk0 (hb); have n2_ := mk0 (hi); clear HK HB HI0; have HK := n0_; have HB := n1_; have HI0 := n2_; clear n0_ n1_ n2_; (try clear hb); (try clear hk); (try clear hi)))
 go_ret
 exact ⟨z10_5, z10_7, z10_6, z10_1⟩

/-! ### spec_l01Once: function 48 -/
def spec_l01Once.f (s0_0 : List Int) (s0_1 : Int) (s0_2 : Int) (a1 : Int) : Option (Bool × Int × Int) := (spec_l01Below.f s0_0 s0_1 s0_2 a1).bind fun bt348 => (some ((bt348.1 == 0), bt348.2.1, bt348.2.2))
set_option maxHeartbeats 8000000 in
set_option maxRecDepth 100000 in
theorem spec_l01Once.calls (g : Nat) (s0_0 : List Int) (s0_1 : Int) (s0_2 : Int) (a1 : Int) (r1 : Bool) (r2 : Int) (r3 : Int) (w0 w : World) (hI : IsS78 w0 w g s0_0 s0_1 s0_2) (hB : Below w0.heap.size w0 w) (h : spec_l01Once.f s0_0 s0_1 s0_2 a1 = some (r1, r2, r3)) :
  Calls Try.prog 48 #[.pointer (some ⟨g, 0, none⟩), .int .i64 a1] w fun e w' => e = .returned (.bool r1) ∧ IsS78 w0 w' g s0_0 r2 r3 ∧ Below w0.heap.size w0 w' ∧ KeepBut w w' g none := by
 have HI0 := mk0 hI
 have HK := mk0 (KeepBut.refl w g none)
 have HL := mk0 hB.size
 clear hI
 have HW0 := mk0 hB.size
 have HB := mk0 hB
 clear hB
 have H : ((spec_l01Below.f s0_0 s0_1 s0_2 a1).bind fun bt348 => (some ((bt348.1 == 0), bt348.2.1, bt348.2.2))) = some (r1, r2, r3) := h
 clear h
 replace H := Option.bind_eq_some_iff.mp H
 obtain ⟨⟨t348, t349, t350⟩, A30, H⟩ := H
 try dsimp only at H
 have A3 := mk0 A30
 clear A30
 simp only [Option.some.injEq, Prod.mk.injEq] at H
 obtain ⟨rfl, rfl, rfl⟩ := H
 go_enter Try.func48, Try.ntmps48
 go_wp2_with (first | ((with_reducible refine gate_callee (f := 49) rfl ?_); refine goesL_ (some 7) rfl rfl Try.func49 (by kernel_rfl) rfl #[.pointer (some ⟨g, 0, none⟩), .int .i64 a1] rfl z10_4 ?_; (with_reducible refine (spec_l01Below.calls g s0_0 s0_1 s0_2 a1 t348 t349 t350 w0 _ ?side1 ?side2 A3.out).mono ?_); (case side1 => exact z10_9); (case side2 => exact z10_8); rintro e w4 ⟨rfl, hi, hb, hk⟩; refine ⟨_, rfl, ?_⟩; have n0_ := mk0 (KeepBut.trans z10_1 hk (.inl rfl)); have n1_ := mk0 (hb); have n2_ := mk0 (hi); clear HK HB HI0; have HK := n0_; have HB := n1_; have HI0 := n2_; clear n0_ n1_ n2_; (try clear hb); (try clear hk); (try clear hi)))
 go_ret
 exact ⟨z10_5, z10_7, z10_6, z10_1⟩

/-! ### spec_Empty: function 60 -/
def spec_Empty.f (a0_0 : Int) (a0_1 : Int) (a0_2 : Int) (a0_3 : Int) : Option (Bool) := if a0_0 ≥ a0_2 then (some true) else (some (decide (a0_1 ≥ a0_3)))
set_option maxHeartbeats 8000000 in
set_option maxRecDepth 100000 in
theorem spec_Empty.calls (a0_0 : Int) (a0_1 : Int) (a0_2 : Int) (a0_3 : Int) (r : Bool) (w : World) (h : spec_Empty.f a0_0 a0_1 a0_2 a0_3 = some r) :
  Calls Try.prog 60 #[.agg #[.int .i64 a0_0, .int .i64 a0_1, .int .i64 a0_2, .int .i64 a0_3]] w fun e w' => e = .returned (.bool r) ∧ Below w.heap.size w w' := by
 have hu42 := Try.underlying42
 have HB := mk0 (Below.refl w.heap.size w)
 have H : (if a0_0 ≥ a0_2 then (some true) else (some (decide (a0_1 ≥ a0_3)))) = some r := h
 clear h
 by_cases c2 : a0_0 ≥ a0_2
 ·rw [if_pos c2] at H
  have c2b0 := decide_eq_true c2
  clear c2
  obtain rfl := Option.some.inj H
  simp only [Option.some.injEq, Prod.mk.injEq] at H
  obtain ⟨rfl⟩ := H
  go_enter Try.func60, Try.ntmps60
  go_wp2_with (first | ((with_reducible refine gate_dst (N := 1) rfl ?_); refine boxz (cs := #[.int .i64 a0_0, .int .i64 a0_1, .int .i64 a0_2, .int .i64 a0_3]) (t := 42) rfl ?_; intro gb351 hg w3 hbox hb; have n0_ := mk0 (below_step z10_2 hb); have n1_ := mk0 (hbox); have GW351 := mk0 (ge_go (a := w.heap.size) hg (below_size z10_2)); have GE351 := GW351; clear HB; have HB := n0_; have BK351 := n1_; clear n0_ n1_ ; clear hb hbox hg; obtain ⟨_, _, _, _, _, _, _, _⟩ := be_4 BK351.out))
  go_ret
  exact ⟨z10_5, z10_16⟩
 rw [if_neg c2] at H
 have c2b0 := decide_eq_false c2
 clear c2
 obtain rfl := Option.some.inj H
 simp only [Option.some.injEq, Prod.mk.injEq] at H
 obtain ⟨rfl⟩ := H
 go_enter Try.func60, Try.ntmps60
 go_wp2_with (first | ((with_reducible refine gate_dst (N := 1) rfl ?_); refine boxz (cs := #[.int .i64 a0_0, .int .i64 a0_1, .int .i64 a0_2, .int .i64 a0_3]) (t := 42) rfl ?_; intro gb351 hg w5 hbox hb; have n0_ := mk0 (below_step z10_2 hb); have n1_ := mk0 (hbox); have GW351 := mk0 (ge_go (a := w.heap.size) hg (below_size z10_2)); have GE351 := GW351; clear HB; have HB := n0_; have BK351 := n1_; clear n0_ n1_ ; clear hb hbox hg; obtain ⟨_, _, _, _, _, _, _, _⟩ := be_4 BK351.out))
 go_ret
 exact ⟨z10_5, z10_16⟩

/-! ### spec_RectPath: function 50 -/
def spec_RectPath.f (a0_0 : Int) (a0_1 : Int) (a0_2 : Int) (a0_3 : Int) : Option (List Int × (List (S46))) := (some (([(⟨a0_0, a0_1⟩ : S46), (⟨a0_2, a0_1⟩ : S46), (⟨a0_2, a0_3⟩ : S46), (⟨a0_0, a0_3⟩ : S46)] : List (S46)) : List (S46))).bind fun y354 => ((spec_Empty.f a0_0 a0_1 a0_2 a0_3).bind fun t357 => (if t357 = true then (some (([] : List Int), ([] : List (S46)))) else (if 0 < (y354.length : Int) then ((spec_PointOk.f ((rd_T46 y354 0).f0) ((rd_T46 y354 0).f1)).bind fun t359 => (if t359 = true then (if 2 < (y354.length : Int) then ((spec_PointOk.f ((rd_T46 y354 2).f0) ((rd_T46 y354 2).f1)).bind fun t361 => (if t361 = true then (some ((([1, 2, 2, 2, 5] : List Int)), y354)) else (some (([] : List Int), ([] : List (S46)))))) else (none)) else (some (([] : List Int), ([] : List (S46)))))) else (none))))
set_option maxHeartbeats 8000000 in
set_option maxRecDepth 100000 in
theorem spec_RectPath.calls (a0_0 : Int) (a0_1 : Int) (a0_2 : Int) (a0_3 : Int) (r1 : List Int) (r2 : List (S46)) (w : World) (h : spec_RectPath.f a0_0 a0_1 a0_2 a0_3 = some (r1, r2)) :
  Calls Try.prog 50 #[.agg #[.int .i64 a0_0, .int .i64 a0_1, .int .i64 a0_2, .int .i64 a0_3]] w fun e w' => ∃ v0_ v1_ : Value, e = .returned (.agg #[v0_, v1_]) ∧ Kd.R (Kd.int .i64) 3 w' w.heap.size (fun _ => True) v0_ r1 ∧ Kd.R k46 46 w' w.heap.size (fun _ => True) v1_ r2 ∧ Below w.heap.size w w' := by
 have hu42 := Try.underlying42
 have hu31 := Try.underlying31
 have hu46 := Try.underlying46
 have HB := mk0 (Below.refl w.heap.size w)
 have H : ((some (([(⟨a0_0, a0_1⟩ : S46), (⟨a0_2, a0_1⟩ : S46), (⟨a0_2, a0_3⟩ : S46), (⟨a0_0, a0_3⟩ : S46)] : List (S46)) : List (S46))).bind fun y354 => ((spec_Empty.f a0_0 a0_1 a0_2 a0_3).bind fun t357 => (if t357 = true then (some (([] : List Int), ([] : List (S46)))) else (if 0 < (y354.length : Int) then ((spec_PointOk.f ((rd_T46 y354 0).f0) ((rd_T46 y354 0).f1)).bind fun t359 => (if t359 = true then (if 2 < (y354.length : Int) then ((spec_PointOk.f ((rd_T46 y354 2).f0) ((rd_T46 y354 2).f1)).bind fun t361 => (if t361 = true then (some ((([1, 2, 2, 2, 5] : List Int)), y354)) else (some (([] : List Int), ([] : List (S46)))))) else (none)) else (some (([] : List Int), ([] : List (S46)))))) else (none))))) = some (r1, r2) := h
 clear h
 obtain ⟨y354, hy_⟩ : ∃ y_ : List (S46), y_ = (([(⟨a0_0, a0_1⟩ : S46), (⟨a0_2, a0_1⟩ : S46), (⟨a0_2, a0_3⟩ : S46), (⟨a0_0, a0_3⟩ : S46)] : List (S46))) := ⟨_, rfl⟩
 replace H : ((spec_Empty.f a0_0 a0_1 a0_2 a0_3).bind fun t357 => (if t357 = true then (some (([] : List Int), ([] : List (S46)))) else (if 0 < (y354.length : Int) then ((spec_PointOk.f ((rd_T46 y354 0).f0) ((rd_T46 y354 0).f1)).bind fun t359 => (if t359 = true then (if 2 < (y354.length : Int) then ((spec_PointOk.f ((rd_T46 y354 2).f0) ((rd_T46 y354 2).f1)).bind fun t361 => (if t361 = true then (some ((([1, 2, 2, 2, 5] : List Int)), y354)) else (some (([] : List Int), ([] : List (S46)))))) else (none)) else (some (([] : List Int), ([] : List (S46)))))) else (none)))) = some (r1, r2) := z10_13
 have Ny354 := mk0 hy_
 clear hy_
 replace H := Option.bind_eq_some_iff.mp H
 obtain ⟨t357, A20, H⟩ := H
 try dsimp only at H
 have A2 := mk0 A20
 clear A20
 by_cases c3 : t357 = true
 ·subst c3
  rw [if_pos rfl] at H
  simp only [Option.some.injEq, Prod.mk.injEq] at H
  obtain ⟨rfl, rfl⟩ := H
  go_enter Try.func50, Try.ntmps50
  go_wp2_with (first | ((with_reducible refine gate_dst (N := 1) rfl ?_); refine boxz (cs := #[.int .i64 a0_0, .int .i64 a0_1, .int .i64 a0_2, .int .i64 a0_3]) (t := 42) rfl ?_; intro gb352 hg w4 hbox hb; have n0_ := mk0 (below_step z10_2 hb); have n1_ := mk0 (hbox); have GW352 := mk0 (ge_go (a := w.heap.size) hg (below_size z10_2)); have GE352 := GW352; clear HB; have HB := n0_; have BK352 := n1_; clear n0_ n1_ ; clear hb hbox hg) | ((with_reducible refine gate_dst (N := 2) rfl ?_); refine boxz (cs := #[.slice none 0 0, .slice none 0 0]) (t := 31) rfl ?_; intro gb353 hg w5 hbox hb; have n0_ := mk0 (blk_belowB BK352 (pkb BK352) hb); have n1_ := mk0 (below_step z10_3 hb); have n2_ := mk0 (hbox); have GW353 := mk0 (ge_go (a := w.heap.size) hg (below_size z10_3)); have GE353 := GW353; have NB352_353 := mk0 (nb_lt hg (blk_ltB BK352 (pkb BK352))); have NB353_352 := mk0 (nb_gt hg (blk_ltB BK352 (pkb BK352))); clear BK352 HB; have BK352 := n0_; have HB := n1_; have BK353 := n2_; clear n0_ n1_ n2_ ; clear hb hbox hg; have hnb6 := NB352_353.out; have hnc6 := NB353_352.out; obtain ⟨_, _, _, _, _, _, _, _⟩ := be_4 BK352.out) | ((with_reducible refine gate_dst (N := 24) rfl ?_); refine Kd.R_lit k46 _ 46 ?hg (N := 24) ?hd (xs := ([(⟨a0_0, a0_1⟩ : S46), (⟨a0_2, a0_1⟩ : S46), (⟨a0_2, a0_3⟩ : S46), (⟨a0_0, a0_3⟩ : S46)] : List (S46))) (inner := [.int .i64 a0_0, .int .i64 a0_1, .int .i64 a0_2, .int .i64 a0_1, .int .i64 a0_2, .int .i64 a0_3, .int .i64 a0_0, .int .i64 a0_3]) (ok := fun _ => True) (okp := fun _ => True) ?hr ?hp (fun _ hk => hk) trivial (Below.refl _ _) (Nat.le_refl _) (by simp) ?_; (case hd => rfl); (case hg => rfl); (case hr => first | (go_simp; done) | (go_simp; rfl)); (case hp => exact (Reps.c2 (show Kd.M k46 _ _ _ (⟨a0_0, a0_1⟩ : S46) [.int .i64 a0_0, .int .i64 a0_1] from (k46_mkM _ _ _ (⟨a0_0, a0_1⟩ : S46) )) (Reps.c2 (show Kd.M k46 _ _ _ (⟨a0_2, a0_1⟩ : S46) [.int .i64 a0_2, .int .i64 a0_1] from (k46_mkM _ _ _ (⟨a0_2, a0_1⟩ : S46) )) (Reps.c2 (show Kd.M k46 _ _ _ (⟨a0_2, a0_3⟩ : S46) [.int .i64 a0_2, .int .i64 a0_3] from (k46_mkM _ _ _ (⟨a0_2, a0_3⟩ : S46) )) (Reps.c2 (show Kd.M k46 _ _ _ (⟨a0_0, a0_3⟩ : S46) [.int .i64 a0_0, .int .i64 a0_3] from (k46_mkM _ _ _ (⟨a0_0, a0_3⟩ : S46) )) (Reps.none _ _)))))); intro v355 w8 ho9 hb hg_ hnew_; clear hg_ hnew_; (first | rw [← Ny354.out] at ho9 | (simp only [Int.reduceToNat] at ho9; rw [← Ny354.out] at ho9)); have n0_ := mk0 (Kd.R_lower ho9 (below_size z10_0)); have n1_ := mk0 (blk_belowB BK352 (pkb BK352) hb); have n2_ := mk0 (blk_belowB BK353 (pkb BK353) hb); have n3_ := mk0 (below_step z10_0 hb); clear BK352 BK353 HB; have HO356 := n0_; have BK352 := n1_; have BK353 := n2_; have HB := n3_; clear n0_ n1_ n2_ n3_ hb ho9; obtain ⟨_, _, _, _, _, _, _, _⟩ := be_4 BK352.out) | ((with_reducible refine gate_callee (f := 60) rfl ?_); refine goesL_ (some 26) rfl rfl Try.func60 (by kernel_rfl) rfl #[.agg #[.int .i64 a0_0, .int .i64 a0_1, .int .i64 a0_2, .int .i64 a0_3]] rfl z10_4 ?_; (with_reducible refine (spec_Empty.calls a0_0 a0_1 a0_2 a0_3 true _ A2.out).mono ?_); rintro e w11 ⟨rfl, hb⟩; refine ⟨_, rfl, ?_⟩; have n0_ := mk0 (Kd.R_below (pkR HO356) hb); have n1_ := mk0 (blk_belowB BK352 (pkb BK352) hb); have n2_ := mk0 (blk_belowB BK353 (pkb BK353) hb); have n3_ := mk0 (below_step z10_0 hb); clear HO356 BK352 BK353 HB; have HO356 := n0_; have BK352 := n1_; have BK353 := n2_; have HB := n3_; clear n0_ n1_ n2_ n3_; (try clear hb); (try clear hk); obtain ⟨_, _, _, _⟩ := be_2 BK353.out))
  refine bodyPost_ret (results_cell_row rfl _ _ gb353 31 #[.slice none 0 0, .slice none 0 0] (0, 0) _ rfl z10_10 Try.underlying31 rfl (by kernel_rfl)) rfl ?_
  exact ⟨_, _, z10_5, z10_11, z10_11, z10_0⟩
 replace c3 := Bool.eq_false_iff.mpr c3
 subst c3
 rw [if_neg (show ¬ (false = true) by decide)] at H
 by_cases c13 : 0 < (y354.length : Int)
 rotate_left
 ·rw [if_neg c13] at H
  exact absurd H (by simp)
 rw [if_pos c13] at H
 have c13b0 := decide_eq_true c13
 have c13b1 : decide (0 < y354.length) = true := decide_eq_true (by omega)
 clear c13
 replace H := Option.bind_eq_some_iff.mp H
 obtain ⟨t359, A140, H⟩ := H
 try dsimp only at H
 have A14 := mk0 A140
 clear A140
 by_cases c15 : t359 = true
 rotate_left
 ·replace c15 := Bool.eq_false_iff.mpr c15
  subst c15
  rw [if_neg (show ¬ (false = true) by decide)] at H
  simp only [Option.some.injEq, Prod.mk.injEq] at H
  obtain ⟨rfl, rfl⟩ := H
  go_enter Try.func50, Try.ntmps50
  go_wp2_with (first | ((with_reducible refine gate_dst (N := 1) rfl ?_); refine boxz (cs := #[.int .i64 a0_0, .int .i64 a0_1, .int .i64 a0_2, .int .i64 a0_3]) (t := 42) rfl ?_; intro gb352 hg w46 hbox hb; have n0_ := mk0 (below_step z10_2 hb); have n1_ := mk0 (hbox); have GW352 := mk0 (ge_go (a := w.heap.size) hg (below_size z10_2)); have GE352 := GW352; clear HB; have HB := n0_; have BK352 := n1_; clear n0_ n1_ ; clear hb hbox hg) | ((with_reducible refine gate_dst (N := 2) rfl ?_); refine boxz (cs := #[.slice none 0 0, .slice none 0 0]) (t := 31) rfl ?_; intro gb353 hg w47 hbox hb; have n0_ := mk0 (blk_belowB BK352 (pkb BK352) hb); have n1_ := mk0 (below_step z10_3 hb); have n2_ := mk0 (hbox); have GW353 := mk0 (ge_go (a := w.heap.size) hg (below_size z10_3)); have GE353 := GW353; have NB352_353 := mk0 (nb_lt hg (blk_ltB BK352 (pkb BK352))); have NB353_352 := mk0 (nb_gt hg (blk_ltB BK352 (pkb BK352))); clear BK352 HB; have BK352 := n0_; have HB := n1_; have BK353 := n2_; clear n0_ n1_ n2_ ; clear hb hbox hg; have hnb48 := NB352_353.out; have hnc48 := NB353_352.out; obtain ⟨_, _, _, _, _, _, _, _⟩ := be_4 BK352.out) | ((with_reducible refine gate_dst (N := 24) rfl ?_); refine Kd.R_lit k46 _ 46 ?hg (N := 24) ?hd (xs := ([(⟨a0_0, a0_1⟩ : S46), (⟨a0_2, a0_1⟩ : S46), (⟨a0_2, a0_3⟩ : S46), (⟨a0_0, a0_3⟩ : S46)] : List (S46))) (inner := [.int .i64 a0_0, .int .i64 a0_1, .int .i64 a0_2, .int .i64 a0_1, .int .i64 a0_2, .int .i64 a0_3, .int .i64 a0_0, .int .i64 a0_3]) (ok := fun _ => True) (okp := fun _ => True) ?hr ?hp (fun _ hk => hk) trivial (Below.refl _ _) (Nat.le_refl _) (by simp) ?_; (case hd => rfl); (case hg => rfl); (case hr => first | (go_simp; done) | (go_simp; rfl)); (case hp => exact (Reps.c2 (show Kd.M k46 _ _ _ (⟨a0_0, a0_1⟩ : S46) [.int .i64 a0_0, .int .i64 a0_1] from (k46_mkM _ _ _ (⟨a0_0, a0_1⟩ : S46) )) (Reps.c2 (show Kd.M k46 _ _ _ (⟨a0_2, a0_1⟩ : S46) [.int .i64 a0_2, .int .i64 a0_1] from (k46_mkM _ _ _ (⟨a0_2, a0_1⟩ : S46) )) (Reps.c2 (show Kd.M k46 _ _ _ (⟨a0_2, a0_3⟩ : S46) [.int .i64 a0_2, .int .i64 a0_3] from (k46_mkM _ _ _ (⟨a0_2, a0_3⟩ : S46) )) (Reps.c2 (show Kd.M k46 _ _ _ (⟨a0_0, a0_3⟩ : S46) [.int .i64 a0_0, .int .i64 a0_3] from (k46_mkM _ _ _ (⟨a0_0, a0_3⟩ : S46) )) (Reps.none _ _)))))); intro v355 w50 ho51 hb hg_ hnew_; clear hg_ hnew_; (first | rw [← Ny354.out] at ho51 | (simp only [Int.reduceToNat] at ho51; rw [← Ny354.out] at ho51)); have n0_ := mk0 (Kd.R_lower ho51 (below_size z10_0)); have n1_ := mk0 (blk_belowB BK352 (pkb BK352) hb); have n2_ := mk0 (blk_belowB BK353 (pkb BK353) hb); have n3_ := mk0 (below_step z10_0 hb); clear BK352 BK353 HB; have HO356 := n0_; have BK352 := n1_; have BK353 := n2_; have HB := n3_; clear n0_ n1_ n2_ n3_ hb ho51; obtain ⟨_, _, _, _, _, _, _, _⟩ := be_4 BK352.out) | ((with_reducible refine gate_callee (f := 60) rfl ?_); refine goesL_ (some 26) rfl rfl Try.func60 (by kernel_rfl) rfl #[.agg #[.int .i64 a0_0, .int .i64 a0_1, .int .i64 a0_2, .int .i64 a0_3]] rfl z10_4 ?_; (with_reducible refine (spec_Empty.calls a0_0 a0_1 a0_2 a0_3 false _ A2.out).mono ?_); rintro e w53 ⟨rfl, hb⟩; refine ⟨_, rfl, ?_⟩; have n0_ := mk0 (Kd.R_below (pkR HO356) hb); have n1_ := mk0 (blk_belowB BK352 (pkb BK352) hb); have n2_ := mk0 (blk_belowB BK353 (pkb BK353) hb); have n3_ := mk0 (below_step z10_0 hb); clear HO356 BK352 BK353 HB; have HO356 := n0_; have BK352 := n1_; have BK353 := n2_; have HB := n3_; clear n0_ n1_ n2_ n3_; (try clear hb); (try clear hk); obtain ⟨Ao54, co54, eo54⟩ := Kd.R_slice HO356.out; subst eo54; have p358 : 0 ≤ (0 : Int) := (by omega); have q358 : 0 < (y354.length : Int) := of_decide_eq_true (by first | (with_reducible assumption) | assumption); obtain ⟨ad358, e358, hx358_0, hx358_1⟩ := at_T46 (Kd.R_reads' HO356.out).2.2 0 p358 q358; cases e358; have qi358 : (0 < y354.length) = True := eq_true (by omega); (try rw [show ((0 : Int)).toNat = 0 from rfl] at hx358_0); (try rw [show 0 * 2 = 0 from rfl] at hx358_0); (try rw [Addr.add_zero'] at hx358_0); (try rw [show ((0 : Int)).toNat = 0 from rfl] at hx358_1); (try rw [show 0 * 2 = 0 from rfl] at hx358_1); (try rw [Addr.add_zero'] at hx358_1); replace p358 := eq_true p358; replace q358 := eq_true q358) | (go_at_call 39; (with_reducible refine (spec_PointOk.calls ((rd_T46 y354 0).f0) ((rd_T46 y354 0).f1) false _ A14.out).mono ?_); rintro e w55 ⟨rfl, hb⟩; have n0_ := mk0 (Kd.R_below (pkR HO356) hb); have n1_ := mk0 (blk_belowB BK352 (pkb BK352) hb); have n2_ := mk0 (blk_belowB BK353 (pkb BK353) hb); have n3_ := mk0 (below_step z10_0 hb); clear HO356 BK352 BK353 HB; have HO356 := n0_; have BK352 := n1_; have BK353 := n2_; have HB := n3_; clear n0_ n1_ n2_ n3_; (try clear hb); (try clear hk); obtain ⟨_, _, _, _⟩ := be_2 BK353.out))
  refine bodyPost_ret (results_cell_row rfl _ _ gb353 31 #[.slice none 0 0, .slice none 0 0] (0, 0) _ rfl z10_10 Try.underlying31 rfl (by kernel_rfl)) rfl ?_
  exact ⟨_, _, z10_5, z10_11, z10_11, z10_0⟩
 subst c15
 rw [if_pos rfl] at H
 by_cases c16 : 2 < (y354.length : Int)
 rotate_left
 ·rw [if_neg c16] at H
  exact absurd H (by simp)
 rw [if_pos c16] at H
 have c16b0 := decide_eq_true c16
 have c16b1 : decide (2 < y354.length) = true := decide_eq_true (by omega)
 clear c16
 replace H := Option.bind_eq_some_iff.mp H
 obtain ⟨t361, A170, H⟩ := H
 try dsimp only at H
 have A17 := mk0 A170
 clear A170
 by_cases c18 : t361 = true
 rotate_left
 ·replace c18 := Bool.eq_false_iff.mpr c18
  subst c18
  rw [if_neg (show ¬ (false = true) by decide)] at H
  simp only [Option.some.injEq, Prod.mk.injEq] at H
  obtain ⟨rfl, rfl⟩ := H
  go_enter Try.func50, Try.ntmps50
  go_wp2_with (first | ((with_reducible refine gate_dst (N := 1) rfl ?_); refine boxz (cs := #[.int .i64 a0_0, .int .i64 a0_1, .int .i64 a0_2, .int .i64 a0_3]) (t := 42) rfl ?_; intro gb352 hg w34 hbox hb; have n0_ := mk0 (below_step z10_2 hb); have n1_ := mk0 (hbox); have GW352 := mk0 (ge_go (a := w.heap.size) hg (below_size z10_2)); have GE352 := GW352; clear HB; have HB := n0_; have BK352 := n1_; clear n0_ n1_ ; clear hb hbox hg) | ((with_reducible refine gate_dst (N := 2) rfl ?_); refine boxz (cs := #[.slice none 0 0, .slice none 0 0]) (t := 31) rfl ?_; intro gb353 hg w35 hbox hb; have n0_ := mk0 (blk_belowB BK352 (pkb BK352) hb); have n1_ := mk0 (below_step z10_3 hb); have n2_ := mk0 (hbox); have GW353 := mk0 (ge_go (a := w.heap.size) hg (below_size z10_3)); have GE353 := GW353; have NB352_353 := mk0 (nb_lt hg (blk_ltB BK352 (pkb BK352))); have NB353_352 := mk0 (nb_gt hg (blk_ltB BK352 (pkb BK352))); clear BK352 HB; have BK352 := n0_; have HB := n1_; have BK353 := n2_; clear n0_ n1_ n2_ ; clear hb hbox hg; have hnb36 := NB352_353.out; have hnc36 := NB353_352.out; obtain ⟨_, _, _, _, _, _, _, _⟩ := be_4 BK352.out) | ((with_reducible refine gate_dst (N := 24) rfl ?_); refine Kd.R_lit k46 _ 46 ?hg (N := 24) ?hd (xs := ([(⟨a0_0, a0_1⟩ : S46), (⟨a0_2, a0_1⟩ : S46), (⟨a0_2, a0_3⟩ : S46), (⟨a0_0, a0_3⟩ : S46)] : List (S46))) (inner := [.int .i64 a0_0, .int .i64 a0_1, .int .i64 a0_2, .int .i64 a0_1, .int .i64 a0_2, .int .i64 a0_3, .int .i64 a0_0, .int .i64 a0_3]) (ok := fun _ => True) (okp := fun _ => True) ?hr ?hp (fun _ hk => hk) trivial (Below.refl _ _) (Nat.le_refl _) (by simp) ?_; (case hd => rfl); (case hg => rfl); (case hr => first | (go_simp; done) | (go_simp; rfl)); (case hp => exact (Reps.c2 (show Kd.M k46 _ _ _ (⟨a0_0, a0_1⟩ : S46) [.int .i64 a0_0, .int .i64 a0_1] from (k46_mkM _ _ _ (⟨a0_0, a0_1⟩ : S46) )) (Reps.c2 (show Kd.M k46 _ _ _ (⟨a0_2, a0_1⟩ : S46) [.int .i64 a0_2, .int .i64 a0_1] from (k46_mkM _ _ _ (⟨a0_2, a0_1⟩ : S46) )) (Reps.c2 (show Kd.M k46 _ _ _ (⟨a0_2, a0_3⟩ : S46) [.int .i64 a0_2, .int .i64 a0_3] from (k46_mkM _ _ _ (⟨a0_2, a0_3⟩ : S46) )) (Reps.c2 (show Kd.M k46 _ _ _ (⟨a0_0, a0_3⟩ : S46) [.int .i64 a0_0, .int .i64 a0_3] from (k46_mkM _ _ _ (⟨a0_0, a0_3⟩ : S46) )) (Reps.none _ _)))))); intro v355 w38 ho39 hb hg_ hnew_; clear hg_ hnew_; (first | rw [← Ny354.out] at ho39 | (simp only [Int.reduceToNat] at ho39; rw [← Ny354.out] at ho39)); have n0_ := mk0 (Kd.R_lower ho39 (below_size z10_0)); have n1_ := mk0 (blk_belowB BK352 (pkb BK352) hb); have n2_ := mk0 (blk_belowB BK353 (pkb BK353) hb); have n3_ := mk0 (below_step z10_0 hb); clear BK352 BK353 HB; have HO356 := n0_; have BK352 := n1_; have BK353 := n2_; have HB := n3_; clear n0_ n1_ n2_ n3_ hb ho39; obtain ⟨_, _, _, _, _, _, _, _⟩ := be_4 BK352.out) | ((with_reducible refine gate_callee (f := 60) rfl ?_); refine goesL_ (some 26) rfl rfl Try.func60 (by kernel_rfl) rfl #[.agg #[.int .i64 a0_0, .int .i64 a0_1, .int .i64 a0_2, .int .i64 a0_3]] rfl z10_4 ?_; (with_reducible refine (spec_Empty.calls a0_0 a0_1 a0_2 a0_3 false _ A2.out).mono ?_); rintro e w41 ⟨rfl, hb⟩; refine ⟨_, rfl, ?_⟩; have n0_ := mk0 (Kd.R_below (pkR HO356) hb); have n1_ := mk0 (blk_belowB BK352 (pkb BK352) hb); have n2_ := mk0 (blk_belowB BK353 (pkb BK353) hb); have n3_ := mk0 (below_step z10_0 hb); clear HO356 BK352 BK353 HB; have HO356 := n0_; have BK352 := n1_; have BK353 := n2_; have HB := n3_; clear n0_ n1_ n2_ n3_; (try clear hb); (try clear hk); obtain ⟨Ao42, co42, eo42⟩ := Kd.R_slice HO356.out; subst eo42; have p358 : 0 ≤ (0 : Int) := (by omega); have q358 : 0 < (y354.length : Int) := of_decide_eq_true (by first | (with_reducible assumption) | assumption); obtain ⟨ad358, e358, hx358_0, hx358_1⟩ := at_T46 (Kd.R_reads' HO356.out).2.2 0 p358 q358; cases e358; have qi358 : (0 < y354.length) = True := eq_true (by omega); (try rw [show ((0 : Int)).toNat = 0 from rfl] at hx358_0); (try rw [show 0 * 2 = 0 from rfl] at hx358_0); (try rw [Addr.add_zero'] at hx358_0); (try rw [show ((0 : Int)).toNat = 0 from rfl] at hx358_1); (try rw [show 0 * 2 = 0 from rfl] at hx358_1); (try rw [Addr.add_zero'] at hx358_1); replace p358 := eq_true p358; replace q358 := eq_true q358) | (go_at_call 39; (with_reducible refine (spec_PointOk.calls ((rd_T46 y354 0).f0) ((rd_T46 y354 0).f1) true _ A14.out).mono ?_); rintro e w43 ⟨rfl, hb⟩; have n0_ := mk0 (Kd.R_below (pkR HO356) hb); have n1_ := mk0 (blk_belowB BK352 (pkb BK352) hb); have n2_ := mk0 (blk_belowB BK353 (pkb BK353) hb); have n3_ := mk0 (below_step z10_0 hb); clear HO356 BK352 BK353 HB; have HO356 := n0_; have BK352 := n1_; have BK353 := n2_; have HB := n3_; clear n0_ n1_ n2_ n3_; (try clear hb); (try clear hk); have p360 : 0 ≤ (2 : Int) := (by omega); have q360 : 2 < (y354.length : Int) := of_decide_eq_true (by first | (with_reducible assumption) | assumption); obtain ⟨ad360, e360, hx360_0, hx360_1⟩ := at_T46 (Kd.R_reads' HO356.out).2.2 2 p360 q360; obtain rfl : ad358 = ad360 := (by injection e360); (try simp only [show (2 : Int).toNat = 2 from rfl, Nat.reduceMul, Nat.reduceEqDiff, Go.Addr.add, ↓reduceIte] at hx360_0); (try simp only [show (2 : Int).toNat = 2 from rfl, Nat.reduceMul, Nat.reduceEqDiff, Go.Addr.add, ↓reduceIte] at hx360_1); have qi360 : (2 < y354.length) = True := eq_true (by omega); (try rw [show ((2 : Int)).toNat = 2 from rfl] at hx360_0); (try rw [show 2 * 2 = 4 from rfl] at hx360_0); (try rw [show ((2 : Int)).toNat = 2 from rfl] at hx360_1); (try rw [show 2 * 2 = 4 from rfl] at hx360_1); replace p360 := eq_true p360; replace q360 := eq_true q360) | (go_at_call 39; (with_reducible refine (spec_PointOk.calls ((rd_T46 y354 2).f0) ((rd_T46 y354 2).f1) false _ A17.out).mono ?_); rintro e w44 ⟨rfl, hb⟩; have n0_ := mk0 (Kd.R_below (pkR HO356) hb); have n1_ := mk0 (blk_belowB BK352 (pkb BK352) hb); have n2_ := mk0 (blk_belowB BK353 (pkb BK353) hb); have n3_ := mk0 (below_step z10_0 hb); clear HO356 BK352 BK353 HB; have HO356 := n0_; have BK352 := n1_; have BK353 := n2_; have HB := n3_; clear n0_ n1_ n2_ n3_; (try clear hb); (try clear hk); obtain ⟨_, _, _, _⟩ := be_2 BK353.out))
  refine bodyPost_ret (results_cell_row rfl _ _ gb353 31 #[.slice none 0 0, .slice none 0 0] (0, 0) _ rfl z10_10 Try.underlying31 rfl (by kernel_rfl)) rfl ?_
  exact ⟨_, _, z10_5, z10_11, z10_11, z10_0⟩
 subst c18
 rw [if_pos rfl] at H
 obtain ⟨y362, hy_⟩ : ∃ y_ : List Int, y_ = (([1, 2, 2, 2, 5] : List Int)) := ⟨_, rfl⟩
 replace H : (some (y362, y354)) = some (r1, r2) := z10_13
 have Ny362 := mk0 hy_
 clear hy_
 simp only [Option.some.injEq, Prod.mk.injEq] at H
 obtain ⟨rfl, rfl⟩ := H
 go_enter Try.func50, Try.ntmps50
 go_wp2_with (first | ((with_reducible refine gate_dst (N := 1) rfl ?_); refine boxz (cs := #[.int .i64 a0_0, .int .i64 a0_1, .int .i64 a0_2, .int .i64 a0_3]) (t := 42) rfl ?_; intro gb352 hg w19 hbox hb; have n0_ := mk0 (below_step z10_2 hb); have n1_ := mk0 (hbox); have GW352 := mk0 (ge_go (a := w.heap.size) hg (below_size z10_2)); have GE352 := GW352; clear HB; have HB := n0_; have BK352 := n1_; clear n0_ n1_ ; clear hb hbox hg) | ((with_reducible refine gate_dst (N := 2) rfl ?_); refine boxz (cs := #[.slice none 0 0, .slice none 0 0]) (t := 31) rfl ?_; intro gb353 hg w20 hbox hb; have n0_ := mk0 (blk_belowB BK352 (pkb BK352) hb); have n1_ := mk0 (below_step z10_3 hb); have n2_ := mk0 (hbox); have GW353 := mk0 (ge_go (a := w.heap.size) hg (below_size z10_3)); have GE353 := GW353; have NB352_353 := mk0 (nb_lt hg (blk_ltB BK352 (pkb BK352))); have NB353_352 := mk0 (nb_gt hg (blk_ltB BK352 (pkb BK352))); clear BK352 HB; have BK352 := n0_; have HB := n1_; have BK353 := n2_; clear n0_ n1_ n2_ ; clear hb hbox hg; have hnb21 := NB352_353.out; have hnc21 := NB353_352.out; obtain ⟨_, _, _, _, _, _, _, _⟩ := be_4 BK352.out) | ((with_reducible refine gate_dst (N := 24) rfl ?_); refine Kd.R_lit k46 _ 46 ?hg (N := 24) ?hd (xs := ([(⟨a0_0, a0_1⟩ : S46), (⟨a0_2, a0_1⟩ : S46), (⟨a0_2, a0_3⟩ : S46), (⟨a0_0, a0_3⟩ : S46)] : List (S46))) (inner := [.int .i64 a0_0, .int .i64 a0_1, .int .i64 a0_2, .int .i64 a0_1, .int .i64 a0_2, .int .i64 a0_3, .int .i64 a0_0, .int .i64 a0_3]) (ok := fun _ => True) (okp := fun _ => True) ?hr ?hp (fun _ hk => hk) trivial (Below.refl _ _) (Nat.le_refl _) (by simp) ?_; (case hd => rfl); (case hg => rfl); (case hr => first | (go_simp; done) | (go_simp; rfl)); (case hp => exact (Reps.c2 (show Kd.M k46 _ _ _ (⟨a0_0, a0_1⟩ : S46) [.int .i64 a0_0, .int .i64 a0_1] from (k46_mkM _ _ _ (⟨a0_0, a0_1⟩ : S46) )) (Reps.c2 (show Kd.M k46 _ _ _ (⟨a0_2, a0_1⟩ : S46) [.int .i64 a0_2, .int .i64 a0_1] from (k46_mkM _ _ _ (⟨a0_2, a0_1⟩ : S46) )) (Reps.c2 (show Kd.M k46 _ _ _ (⟨a0_2, a0_3⟩ : S46) [.int .i64 a0_2, .int .i64 a0_3] from (k46_mkM _ _ _ (⟨a0_2, a0_3⟩ : S46) )) (Reps.c2 (show Kd.M k46 _ _ _ (⟨a0_0, a0_3⟩ : S46) [.int .i64 a0_0, .int .i64 a0_3] from (k46_mkM _ _ _ (⟨a0_0, a0_3⟩ : S46) )) (Reps.none _ _)))))); intro v355 w23 ho24 hb hg_ hnew_; clear hg_ hnew_; (first | rw [← Ny354.out] at ho24 | (simp only [Int.reduceToNat] at ho24; rw [← Ny354.out] at ho24)); have n0_ := mk0 (Kd.R_lower ho24 (below_size z10_0)); have n1_ := mk0 (blk_belowB BK352 (pkb BK352) hb); have n2_ := mk0 (blk_belowB BK353 (pkb BK353) hb); have n3_ := mk0 (below_step z10_0 hb); clear BK352 BK353 HB; have HO356 := n0_; have BK352 := n1_; have BK353 := n2_; have HB := n3_; clear n0_ n1_ n2_ n3_ hb ho24; obtain ⟨_, _, _, _, _, _, _, _⟩ := be_4 BK352.out) | ((with_reducible refine gate_callee (f := 60) rfl ?_); refine goesL_ (some 26) rfl rfl Try.func60 (by kernel_rfl) rfl #[.agg #[.int .i64 a0_0, .int .i64 a0_1, .int .i64 a0_2, .int .i64 a0_3]] rfl z10_4 ?_; (with_reducible refine (spec_Empty.calls a0_0 a0_1 a0_2 a0_3 false _ A2.out).mono ?_); rintro e w26 ⟨rfl, hb⟩; refine ⟨_, rfl, ?_⟩; have n0_ := mk0 (Kd.R_below (pkR HO356) hb); have n1_ := mk0 (blk_belowB BK352 (pkb BK352) hb); have n2_ := mk0 (blk_belowB BK353 (pkb BK353) hb); have n3_ := mk0 (below_step z10_0 hb); clear HO356 BK352 BK353 HB; have HO356 := n0_; have BK352 := n1_; have BK353 := n2_; have HB := n3_; clear n0_ n1_ n2_ n3_; (try clear hb); (try clear hk); obtain ⟨Ao27, co27, eo27⟩ := Kd.R_slice HO356.out; subst eo27; have p358 : 0 ≤ (0 : Int) := (by omega); have q358 : 0 < (y354.length : Int) := of_decide_eq_true (by first | (with_reducible assumption) | assumption); obtain ⟨ad358, e358, hx358_0, hx358_1⟩ := at_T46 (Kd.R_reads' HO356.out).2.2 0 p358 q358; cases e358; have qi358 : (0 < y354.length) = True := eq_true (by omega); (try rw [show ((0 : Int)).toNat = 0 from rfl] at hx358_0); (try rw [show 0 * 2 = 0 from rfl] at hx358_0); (try rw [Addr.add_zero'] at hx358_0); (try rw [show ((0 : Int)).toNat = 0 from rfl] at hx358_1); (try rw [show 0 * 2 = 0 from rfl] at hx358_1); (try rw [Addr.add_zero'] at hx358_1); replace p358 := eq_true p358; replace q358 := eq_true q358) | (go_at_call 39; (with_reducible refine (spec_PointOk.calls ((rd_T46 y354 0).f0) ((rd_T46 y354 0).f1) true _ A14.out).mono ?_); rintro e w28 ⟨rfl, hb⟩; have n0_ := mk0 (Kd.R_below (pkR HO356) hb); have n1_ := mk0 (blk_belowB BK352 (pkb BK352) hb); have n2_ := mk0 (blk_belowB BK353 (pkb BK353) hb); have n3_ := mk0 (below_step z10_0 hb); clear HO356 BK352 BK353 HB; have HO356 := n0_; have BK352 := n1_; have BK353 := n2_; have HB := n3_; clear n0_ n1_ n2_ n3_; (try clear hb); (try clear hk); have p360 : 0 ≤ (2 : Int) := (by omega); have q360 : 2 < (y354.length : Int) := of_decide_eq_true (by first | (with_reducible assumption) | assumption); obtain ⟨ad360, e360, hx360_0, hx360_1⟩ := at_T46 (Kd.R_reads' HO356.out).2.2 2 p360 q360; obtain rfl : ad358 = ad360 := (by injection e360); (try simp only [show (2 : Int).toNat = 2 from rfl, Nat.reduceMul, Nat.reduceEqDiff, Go.Addr.add, ↓reduceIte] at hx360_0); (try simp only [show (2 : Int).toNat = 2 from rfl, Nat.reduceMul, Nat.reduceEqDiff, Go.Addr.add, ↓reduceIte] at hx360_1); have qi360 : (2 < y354.length) = True := eq_true (by omega); (try rw [show ((2 : Int)).toNat = 2 from rfl] at hx360_0); (try rw [show 2 * 2 = 4 from rfl] at hx360_0); (try rw [show ((2 : Int)).toNat = 2 from rfl] at hx360_1); (try rw [show 2 * 2 = 4 from rfl] at hx360_1); replace p360 := eq_true p360; replace q360 := eq_true q360) | (go_at_call 39; (with_reducible refine (spec_PointOk.calls ((rd_T46 y354 2).f0) ((rd_T46 y354 2).f1) true _ A17.out).mono ?_); rintro e w29 ⟨rfl, hb⟩; have n0_ := mk0 (Kd.R_below (pkR HO356) hb); have n1_ := mk0 (blk_belowB BK352 (pkb BK352) hb); have n2_ := mk0 (blk_belowB BK353 (pkb BK353) hb); have n3_ := mk0 (below_step z10_0 hb); clear HO356 BK352 BK353 HB; have HO356 := n0_; have BK352 := n1_; have BK353 := n2_; have HB := n3_; clear n0_ n1_ n2_ n3_; (try clear hb); (try clear hk)) | ((with_reducible refine gate_dst (N := 42) rfl ?_); refine Kd.R_lit (Kd.int .i64) _ 3 ?hg (N := 42) ?hd (xs := ([1, 2, 2, 2, 5] : List Int)) (inner := [.int .i64 1, .int .i64 2, .int .i64 2, .int .i64 2, .int .i64 5]) (ok := fun _ => True) (okp := fun _ => True) ?hr ?hp (fun _ hk => hk) trivial (Below.refl _ _) (Nat.le_refl _) (by simp) ?_; (case hd => rfl); (case hg => rfl); (case hr => first | (go_simp; done) | (go_simp; rfl)); (case hp => exact (Reps.one (show Kd.M (Kd.int .i64) _ _ _ 1 [.int .i64 1] from rfl) (Reps.one (show Kd.M (Kd.int .i64) _ _ _ 2 [.int .i64 2] from rfl) (Reps.one (show Kd.M (Kd.int .i64) _ _ _ 2 [.int .i64 2] from rfl) (Reps.one (show Kd.M (Kd.int .i64) _ _ _ 2 [.int .i64 2] from rfl) (Reps.one (show Kd.M (Kd.int .i64) _ _ _ 5 [.int .i64 5] from rfl) (Reps.none _ _))))))); intro v363 w30 ho31 hb hg_ hnew_; clear hg_ hnew_; (first | rw [← Ny362.out] at ho31 | (simp only [Int.reduceToNat] at ho31; rw [← Ny362.out] at ho31)); have n0_ := mk0 (Kd.R_below (pkR HO356) hb); have n1_ := mk0 (Kd.R_lower ho31 (below_size z10_0)); have n2_ := mk0 (blk_belowB BK352 (pkb BK352) hb); have n3_ := mk0 (blk_belowB BK353 (pkb BK353) hb); have n4_ := mk0 (below_step z10_0 hb); clear HO356 BK352 BK353 HB; have HO356 := n0_; have HO364 := n1_; have BK352 := n2_; have BK353 := n3_; have HB := n4_; clear n0_ n1_ n2_ n3_ n4_ hb ho31; obtain ⟨Ao32, co32, eo32⟩ := Kd.R_slice HO364.out; subst eo32; obtain ⟨_, _, _, _⟩ := be_2 BK353.out))
 refine bodyPost_ret (results_cell_row rfl _ _ gb353 31 #[.slice Ao32 y362.length co32, .slice (some ad358) y354.length co27] (0, 0) _ rfl z10_10 Try.underlying31 rfl (by kernel_rfl)) rfl ?_
 exact ⟨_, _, z10_5, (by (with_reducible repeat (first | apply Kd.R_alloc | apply Kd.R_drewN | apply Kd.R_drew)); exact Kd.R_mono (Kd.R_far (p := ⟨gb353, 1, none⟩) (Kd.R_far (p := ⟨gb353, 0, none⟩) (Kd.R_types HO364.out BK353.out (by decide)) (fun _ hk => hk.2) (.slice Ao32 y362.length co32)) (fun _ hk => hk.2) (.slice (some ad358) y354.length co27)) (fun _ hk => trivial)), (by (with_reducible repeat (first | apply Kd.R_alloc | apply Kd.R_drewN | apply Kd.R_drew)); exact Kd.R_mono (Kd.R_far (p := ⟨gb353, 1, none⟩) (Kd.R_far (p := ⟨gb353, 0, none⟩) (Kd.R_types HO356.out BK353.out (by decide)) (fun _ hk => hk.2) (.slice Ao32 y362.length co32)) (fun _ hk => hk.2) (.slice (some ad358) y354.length co27)) (fun _ hk => trivial)), z10_0⟩

/-! ### spec_l01PickInt: function 51 -/
def spec_l01PickInt.f (s0_0 : List Int) (s0_1 : Int) (s0_2 : Int) (l1 : List Int) : Option (Int × Int × Int) := (spec_l01Below.f s0_0 s0_1 s0_2 (l1.length : Int)).bind fun bt365 => (if 0 ≤ bt365.1 then (if bt365.1 < (l1.length : Int) then (some (rd l1 bt365.1, bt365.2.1, bt365.2.2)) else (none)) else (none))
set_option maxHeartbeats 8000000 in
set_option maxRecDepth 100000 in
theorem spec_l01PickInt.calls (g : Nat) (s0_0 : List Int) (s0_1 : Int) (s0_2 : Int) (A1 : Option Addr) (c1 : Nat) (l1 : List Int) (r1 : Int) (r2 : Int) (r3 : Int) (w0 w : World) (hI : IsS78 w0 w g s0_0 s0_1 s0_2) (hB : Below w0.heap.size w0 w) (hr1 : Kd.C (Kd.int .i64) w A1 l1.length l1) (hc1 : l1.length ≤ c1) (hf1 : ∀ ad, A1 = some ad → 0 < l1.length → ad.block ≠ g) (h : spec_l01PickInt.f s0_0 s0_1 s0_2 l1 = some (r1, r2, r3)) :
  Calls Try.prog 51 #[.pointer (some ⟨g, 0, none⟩), .slice A1 l1.length c1] w fun e w' => e = .returned (.int .i64 r1) ∧ IsS78 w0 w' g s0_0 r2 r3 ∧ Below w0.heap.size w0 w' ∧ KeepBut w w' g none := by
 have HR1 := mk0 hr1
 have HC1 := mk0 hc1
 clear hr1 hc1
 have HI0 := mk0 hI
 have HK := mk0 (KeepBut.refl w g none)
 have HL := mk0 hB.size
 clear hI
 have HW0 := mk0 hB.size
 have HB := mk0 hB
 clear hB
 have H : ((spec_l01Below.f s0_0 s0_1 s0_2 (l1.length : Int)).bind fun bt365 => (if 0 ≤ bt365.1 then (if bt365.1 < (l1.length : Int) then (some (rd l1 bt365.1, bt365.2.1, bt365.2.2)) else (none)) else (none))) = some (r1, r2, r3) := h
 clear h
 replace H := Option.bind_eq_some_iff.mp H
 obtain ⟨⟨t365, t366, t367⟩, A30, H⟩ := H
 try dsimp only at H
 have A3 := mk0 A30
 clear A30
 by_cases c4 : 0 ≤ t365
 rotate_left
 ·rw [if_neg c4] at H
  exact absurd H (by simp)
 rw [if_pos c4] at H
 have c4b0 := decide_eq_true c4
 clear c4
 by_cases c5 : t365 < (l1.length : Int)
 rotate_left
 ·rw [if_neg c5] at H
  exact absurd H (by simp)
 rw [if_pos c5] at H
 have c5b0 := decide_eq_true c5
 clear c5
 simp only [Option.some.injEq, Prod.mk.injEq] at H
 obtain ⟨rfl, rfl, rfl⟩ := H
 go_enter Try.func51, Try.ntmps51
 go_wp2_with (first | ((with_reducible refine gate_callee (f := 49) rfl ?_); refine goesL_ (some 9) rfl rfl Try.func49 (by kernel_rfl) rfl #[.pointer (some ⟨g, 0, none⟩), .int .i64 (l1.length : Int)] rfl z10_4 ?_; (with_reducible refine (spec_l01Below.calls g s0_0 s0_1 s0_2 (l1.length : Int) t365 t366 t367 w0 _ ?side1 ?side2 A3.out).mono ?_); (case side1 => exact z10_9); (case side2 => exact z10_8); rintro e w6 ⟨rfl, hi, hb, hk⟩; refine ⟨_, rfl, ?_⟩; have n0_ := mk0 (KeepBut.trans z10_1 hk (.inl rfl)); have n1_ := mk0 (hb); have n2_ := mk0 (hi); clear HK HB HI0; have HK := n0_; have HB := n1_; have HI0 := n2_; clear n0_ n1_ n2_; (try clear hb); (try clear hk); (try clear hi); have p368 : 0 ≤ (t365 : Int) := of_decide_eq_true (by first | (with_reducible assumption) | assumption); have q368 : t365 < (l1.length : Int) := of_decide_eq_true (by first | (with_reducible assumption) | assumption); obtain ⟨ad368, e368, hx368_0⟩ := Kd.at_int HR1.out t365 p368 q368; cases e368; replace hx368_0 := keep_cell HK.out hx368_0 (by first | (rw [add_block]; exact hf1 _ rfl (by omega)) | exact hf1 _ rfl (by omega) | exact hf1 ad368 rfl (by omega)); replace p368 := eq_true p368; replace q368 := eq_true q368))
 go_ret
 exact ⟨z10_5, z10_7, z10_6, z10_1⟩

/-! ### spec_l04Point: function 52 -/
def spec_l04Point.f (s0_0 : List Int) (s0_1 : Int) (s0_2 : Int) : Option (Int × Int × Int × Int) := (spec_l01Below.f s0_0 s0_1 s0_2 3600).bind fun bt370 => ((spec_l01Below.f s0_0 bt370.2.1 bt370.2.2 3600).bind fun bt373 => (some (wrap64 (bt370.1 - 300), wrap64 (bt373.1 - 300), bt373.2.1, bt373.2.2)))
set_option maxHeartbeats 8000000 in
set_option maxRecDepth 100000 in
theorem spec_l04Point.calls (g : Nat) (s0_0 : List Int) (s0_1 : Int) (s0_2 : Int) (r1 : Int) (r2 : Int) (r3 : Int) (r4 : Int) (w0 w : World) (hI : IsS78 w0 w g s0_0 s0_1 s0_2) (hB : Below w0.heap.size w0 w) (h : spec_l04Point.f s0_0 s0_1 s0_2 = some (r1, r2, r3, r4)) :
  Calls Try.prog 52 #[.pointer (some ⟨g, 0, none⟩)] w fun e w' => e = .returned (.agg #[.int .i64 r1, .int .i64 r2]) ∧ IsS78 w0 w' g s0_0 r3 r4 ∧ Below w0.heap.size w0 w' ∧ KeepBut w w' g none := by
 have hu46 := Try.underlying46
 have HI0 := mk0 hI
 have HK := mk0 (KeepBut.refl w g none)
 have HL := mk0 hB.size
 clear hI
 have HW0 := mk0 hB.size
 have HB := mk0 hB
 clear hB
 have H : ((spec_l01Below.f s0_0 s0_1 s0_2 3600).bind fun bt370 => ((spec_l01Below.f s0_0 bt370.2.1 bt370.2.2 3600).bind fun bt373 => (some (wrap64 (bt370.1 - 300), wrap64 (bt373.1 - 300), bt373.2.1, bt373.2.2)))) = some (r1, r2, r3, r4) := h
 clear h
 replace H := Option.bind_eq_some_iff.mp H
 obtain ⟨⟨t370, t371, t372⟩, A20, H⟩ := H
 try dsimp only at H
 have A2 := mk0 A20
 clear A20
 replace H := Option.bind_eq_some_iff.mp H
 obtain ⟨⟨t373, t374, t375⟩, A30, H⟩ := H
 try dsimp only at H
 have A3 := mk0 A30
 clear A30
 simp only [Option.some.injEq, Prod.mk.injEq] at H
 obtain ⟨rfl, rfl, rfl, rfl⟩ := H
 go_enter Try.func52, Try.ntmps52
 go_wp2_with (first | ((with_reducible refine gate_dst (N := 2) rfl ?_); refine boxz (cs := #[.int .i64 0, .int .i64 0]) (t := 46) rfl ?_; intro gb369 hg w4 hbox hb; have n0_ := mk0 (IsS78.below z10_7 hb); have n1_ := mk0 (KeepBut.trans z10_1 (KeepBut.of_below hb g none) (.inl rfl)); have n2_ := mk0 (below_step z10_6 hb); have n3_ := mk0 (hbox); have n4_ := mk0 ((by rw [hg]; exact (keep_size (w := w) (g := g) (row := none) z10_1) : w.heap.size ≤ gb369)); have n5_ := mk0 ((Nat.le_trans HW0.out (by rw [hg]; exact (keep_size (w := w) (g := g) (row := none) z10_1) : w.heap.size ≤ gb369) : w0.heap.size ≤ gb369)); have n6_ := mk0 ((by rw [hg]; exact Nat.ne_of_lt (IsS78.lt (show IsS78 w0 _ g s0_0 s0_1 s0_2 from by repeat (first | (with_reducible first | exact HI0.out | apply IsS78.alloc | apply IsS78.drewN | apply IsS78.drew | apply IsS78.set_1 | apply IsS78.set_2) | exact HI0.out))) : g ≠ gb369)); have n7_ := mk0 ((by rw [hg]; exact Nat.ne_of_gt (IsS78.lt (show IsS78 w0 _ g s0_0 s0_1 s0_2 from by repeat (first | (with_reducible first | exact HI0.out | apply IsS78.alloc | apply IsS78.drewN | apply IsS78.drew | apply IsS78.set_1 | apply IsS78.set_2) | exact HI0.out))) : gb369 ≠ g)); clear HI0 HK HB; have HI0 := n0_; have HK := n1_; have HB := n2_; have BK369 := n3_; have GW369 := n4_; have GE369 := n5_; have NB0_369 := n6_; have NB369_0 := n7_; clear n0_ n1_ n2_ n3_ n4_ n5_ n6_ n7_ hb hbox hg) | ((with_reducible refine gate_callee (f := 49) rfl ?_); refine goesL_ (some 4) rfl rfl Try.func49 (by kernel_rfl) rfl #[.pointer (some ⟨g, 0, none⟩), .int .i64 3600] rfl z10_4 ?_; (with_reducible refine (spec_l01Below.calls g s0_0 s0_1 s0_2 3600 t370 t371 t372 w0 _ ?side1 ?side2 A2.out).mono ?_); (case side1 => exact z10_15); (case side2 => exact z10_14); rintro e w5 ⟨rfl, hi, hb, hk⟩; refine ⟨_, rfl, ?_⟩; have n0_ := mk0 (KeepBut.blk hk (g' := gb369) (o := .cells #[.int .i64 0, .int .i64 0] 46 (0, 0)) (pkb BK369) NB369_0.out (by simp)); have n1_ := mk0 (KeepBut.trans z10_12 hk (.inl rfl)); have n2_ := mk0 (hb); have n3_ := mk0 (hi); clear BK369 HK HB HI0; have BK369 := n0_; have HK := n1_; have HB := n2_; have HI0 := n3_; clear n0_ n1_ n2_ n3_; (try clear hb); (try clear hk); (try clear hi)) | ((with_reducible refine gate_callee (f := 49) rfl ?_); refine goesL_ (some 7) rfl rfl Try.func49 (by kernel_rfl) rfl #[.pointer (some ⟨g, 0, none⟩), .int .i64 3600] rfl z10_4 ?_; (with_reducible refine (spec_l01Below.calls g s0_0 t371 t372 3600 t373 t374 t375 w0 _ ?side1 ?side2 A3.out).mono ?_); (case side1 => exact z10_15); (case side2 => exact z10_14); rintro e w6 ⟨rfl, hi, hb, hk⟩; refine ⟨_, rfl, ?_⟩; have n0_ := mk0 (KeepBut.blk hk (g' := gb369) (o := .cells #[.int .i64 0, .int .i64 0] 46 (0, 0)) (pkb BK369) NB369_0.out (by simp)); have n1_ := mk0 (KeepBut.trans z10_12 hk (.inl rfl)); have n2_ := mk0 (hb); have n3_ := mk0 (hi); clear BK369 HK HB HI0; have BK369 := n0_; have HK := n1_; have HB := n2_; have HI0 := n3_; clear n0_ n1_ n2_ n3_; (try clear hb); (try clear hk); (try clear hi); have hnb7 := NB369_0.out; have hnc7 := NB0_369.out; obtain ⟨_, _, _, _⟩ := be_2 BK369.out))
 refine bodyPost_ret (results_cell_row rfl _ _ gb369 46 #[.int .i64 (wrap64 (t370 - 300)), .int .i64 (wrap64 (t373 - 300))] (0, 0) _ rfl (by apply blk_fin; (focus ((with_reducible repeat (first | apply blk_putQ | refine blk_drewN ?_ _ | refine blk_drew ?_ | refine blk_alloc ?_ _)); exact BK369.out)); first | (simp only [List.setIfInBounds_toArray, List.set_cons_zero, List.set_cons_succ]; done) | rfl) Try.underlying46 rfl (by kernel_rfl)) rfl ?_
 exact ⟨z10_5, (by repeat (first | (with_reducible first | exact HI0.out | apply IsS78.alloc | apply IsS78.drewN | apply IsS78.drew | apply IsS78.set_1 | apply IsS78.set_2 | apply IsS78.farB NB0_369.out) | exact HI0.out)), (by repeat (first | (with_reducible first | exact HB.out | apply below_alloc | apply pw_below_drewN | apply below_drew1 | refine below_set ?_ (IsS78.ge HI0.out) | refine below_set ?_ GE369.out) | exact HB.out)), z10_12⟩

end Go.Proofs.Ytdpnimngndemiaa.MFnFlats
