/- Functions of the program as Lean functions, and the proof that a call comes to just these: machine text of this session's own program (myprint.py). -/
import Derived.Test.YtjfienkbcacijaaMFnExactUnderOfx0
import Derived.Test.YtjfienkbcacijaaMFnExactUnderOfx1
import Derived.Test.YtjfienkbcacijaaMFnExactUnderOfx5
namespace Go.Proofs.Ytjfienkbcacijaa.MFnExactUnderOf
open Go.RowKit Go.Proofs.YtjfienkbcacijaaW.PrintWords Go.Proofs.YtjfienkbcacijaaW.PrintLast Go.Proofs.YtjfienkbcacijaaW.PrintMore
attribute [local go_sem] max2_int min2_int max_two min_two max_three min_three max_four min_four   -- for this text's walks alone
set_option linter.unusedVariables false
set_option linter.unusedSimpArgs false

theorem z6_0 {P : Prop} (h : P := by rw [hw]; exact rowT_far HR29.out HD0.out.1 (by decide) _ _) : P := h
theorem z6_1 {P : Prop} (h : P := by rw [hw]; exact rowT_far HR30.out HD0.out.1 (by decide) _ _) : P := h
theorem z6_2 {P : Prop} (h : P := by rw [hw]; exact rowT_far HR13.out HD0.out.1 (by decide) _ _) : P := h
theorem z6_3 {P : Prop} (h : P := by repeat (first | (with_reducible first | exact HB.out | apply below_alloc | apply pw_below_drewN | apply below_drew1 | refine below_set ?_ GE284.out) | exact HB.out)) : P := h
theorem z6_4 {P : Prop} (h : P := by rw [hw]; exact rowT_far HR10.out HD0.out.1 (by decide) _ _) : P := h
theorem z6_5 {P : Prop} (h : P := by rw [hw]; exact rowT_far HR9.out HD0.out.1 (by decide) _ _) : P := h
theorem z6_6 {P : Prop} (h : P := by (try simp only [List.map_toArray, List.map_cons, List.map_nil]); first | done | rfl) : P := h
theorem z6_7 {P : Prop} (h : P := by repeat (first | (with_reducible first | exact HB.out | apply below_alloc | apply pw_below_drewN | apply below_drew1) | exact HB.out)) : P := h
theorem z6_8 {P : Prop} (h : P := by repeat (first | exact Drawn0.refl _ | apply Drawn0.step)) : P := h
/-! ### laws_markNodeS: function 69 -/
def laws_markNodeS.l0 : Nat → List S69 → Int → Int → Option Int
 | 0, _, _, _ => none
 | k + 1, x0, x1, x5 => if x5 < (x0.length : Int) then (if 0 ≤ x5 then ((laws_markIntS.f k (rd_T69 x0 x5).f4.f0 (wrap64 ((wrap64 ((wrap64 ((wrap64 ((wrap64 ((wrap64 ((wrap64 ((wrap64 ((wrap64 (x1 + 1)) + 1)) + 1)) + 1)) + 1)) + 1)) + 1)) + 1)) + 1))).bind fun b1 => ((laws_markPointS.f k (rd_T69 x0 x5).f4.f1 b1.1).bind fun b2 => ((laws_markIntS.f k (rd_T69 x0 x5).f7 (wrap64 ((wrap64 (b2.1 + 1)) + 1))).bind fun b3 => ((laws_markIntS.f k (rd_T69 x0 x5).f11.f0 (wrap64 ((wrap64 ((wrap64 ((wrap64 ((wrap64 ((wrap64 ((wrap64 ((wrap64 ((wrap64 ((wrap64 ((wrap64 ((wrap64 ((wrap64 ((wrap64 ((wrap64 (b3.1 + 1)) + 1)) + 1)) + 1)) + 1)) + 1)) + 1)) + 1)) + 1)) + 1)) + 1)) + 1)) + 1)) + 1)) + 1))).bind fun b4 => ((laws_markPointS.f k (rd_T69 x0 x5).f11.f1 b4.1).bind fun b5 => (laws_markNodeS.l0 k x0 b5.1 (wrap64 (x5 + 1)))))))) else none) else some x1
def laws_markNodeS.f (k : Nat) (l0 : List S69) (a1 : Int) : Option Int := laws_markNodeS.l0 k l0 a1 0
theorem laws_markNodeS.mono_l : ∀ k, (∀ y0 y1 y2, LeO (laws_markNodeS.l0 k y0 y1 y2) (laws_markNodeS.l0 (k + 1) y0 y1 y2))
 | 0 => fun _ _ _ r h => by simp [laws_markNodeS.l0] at h
 | k + 1 => by
  have ih0 := laws_markNodeS.mono_l k
  ·intro y0 y1 y2
   unfold laws_markNodeS.l0
   repeat' first
   | (with_reducible exact ih0 _ _ _)
   | (with_reducible exact laws_markIntS.mono _ _ _)
   | (with_reducible exact laws_markPointS.mono _ _ _)
   | (with_reducible exact LeO.refl _)
   | (with_reducible exact LeO.none _)
   | (with_reducible refine LeO.ite ?_ ?_)
   | (with_reducible refine LeO.bind ?_ (fun _ => ?_))
theorem laws_markNodeS.mono : ∀ a0 a1 k, LeO (laws_markNodeS.f k a0 a1) (laws_markNodeS.f (k + 1) a0 a1) := by
 intro a0 a1 k
 have ih0 := laws_markNodeS.mono_l k
 unfold laws_markNodeS.f
 exact ih0 _ _ _
/-- A block of whole numbers, as far as m. -/
def IntsT (W : World) (e b m : Nat) : Prop := (∃ cs, W.heap[b]? = some (.cells cs e (0, 0))) ∧ ∀ j, j < m → ∃ x : Int, W.cell? ⟨b, j, none⟩ = some (.int .i64 x)
theorem IntsT.far {W : World} {e b m : Nat} (h : IntsT W e b m) {p : Addr} (hp : b ≠ p.block) (u : Value) : IntsT (W.setCell p u) e b m := by
 obtain ⟨⟨cs, hc⟩, hj⟩ := h
 have hc' := blk_far hc hp u
 refine ⟨⟨cs, hc'⟩, fun j hj2 => ?_⟩
 obtain ⟨x, hx⟩ := hj j hj2
 refine ⟨x, ?_⟩
 rw [blk_cell hc']
 rw [blk_cell hc] at hx
 exact hx
theorem IntsT.put {W : World} {e b m : Nat} (h : IntsT W e b m) (g i : Nat) (x : Int) : IntsT (W.setCell ⟨g, i, none⟩ (.int .i64 x)) e b m := by
 by_cases hg : b = g
 ·subst hg
  obtain ⟨⟨cs, hc⟩, hj⟩ := h
  have hc' := blk_put hc i (.int .i64 x) rfl
  refine ⟨⟨_, hc'⟩, fun j hj2 => ?_⟩
  obtain ⟨y, hy⟩ := hj j hj2
  rw [blk_cell hc] at hy
  rw [blk_cell hc', Array.getElem?_setIfInBounds]
  split
  ·rename_i he
   split
   ·exact ⟨x, rfl⟩
   ·rename_i hs
    exfalso
    have := (Array.getElem?_eq_some_iff.1 hy).1
    omega
  ·exact ⟨y, hy⟩
 ·exact h.far (p := ⟨g, i, none⟩) hg _
theorem IntsT.same {W W2 : World} {e b m : Nat} (h : IntsT W e b m) (hk : W2.heap[b]? = W.heap[b]?) : IntsT W2 e b m := by
 obtain ⟨⟨cs, hc⟩, hj⟩ := h
 have hc' := hk.trans hc
 refine ⟨⟨cs, hc'⟩, fun j hj2 => ?_⟩
 obtain ⟨x, hx⟩ := hj j hj2
 refine ⟨x, ?_⟩
 rw [blk_cell hc']
 rw [blk_cell hc] at hx
 exact hx
/-- A row of whole numbers (or of points), by its form alone. -/
def RowT (W : World) (base : Nat) (P : Nat → Prop) (e sz : Nat) (v : Value) (n : Nat) : Prop := ∃ A c, v = .slice A n c ∧ (0 < n → ∃ b, A = some ⟨b, 0, none⟩ ∧ (base ≤ b ∧ P b) ∧ IntsT W e b (n * sz))
theorem RowT.mono {W W2 : World} {base : Nat} {P : Nat → Prop} {e sz : Nat} {v : Value} {n : Nat} (h : RowT W base P e sz v n) (hs : ∀ e b m, IntsT W e b m → IntsT W2 e b m) : RowT W2 base P e sz v n := by
 obtain ⟨A, c, h1, h2⟩ := h
 refine ⟨A, c, h1, fun hp => ?_⟩
 obtain ⟨b, b1, b2, b3⟩ := h2 hp
 exact ⟨b, b1, b2, hs _ _ _ b3⟩
theorem rowT_int {W : World} {base : Nat} {ok : Nat → Prop} {v : Value} {l : List Int} (h : (Kd.int .i64).R 3 W base ok v l) : RowT W base ok 3 1 v l.length := by
 obtain ⟨A, c, rfl⟩ := Kd.R_slice h
 refine ⟨A, c, rfl, fun hp => ?_⟩
 obtain ⟨g, cap, he, hb, hl, cells, hc⟩ := Kd.R_form h hp
 injection he with ea en ec
 subst ea
 refine ⟨g, rfl, ⟨hb, h.1 g rfl⟩, ⟨cells, hc⟩, fun j hj => ?_⟩
 obtain ⟨hx, _⟩ := Kd.R_celln 0 h (j : Int) (by omega) (by omega)
 exact ⟨_, hx⟩
theorem rowT_pt {W : World} {base : Nat} {ok : Nat → Prop} {v : Value} {l : List S29} (h : k29.R 29 W base ok v l) : RowT W base ok 29 2 v l.length := by
 obtain ⟨A, c, rfl⟩ := Kd.R_slice h
 refine ⟨A, c, rfl, fun hp => ?_⟩
 obtain ⟨g, cap, he, hb, hl, cells, hc⟩ := Kd.R_form h hp
 injection he with ea en ec
 subst ea
 refine ⟨g, rfl, ⟨hb, h.1 g rfl⟩, ⟨cells, hc⟩, fun j hj => ?_⟩
 obtain ⟨ce, hcl, hM, hcc, _⟩ := Kd.R_elem h z29 ((j / 2 : Nat) : Int) (by omega) (by omega)
 obtain rfl := k29_openM hM
 have h2 : j % 2 = 0 ∨ j % 2 = 1 := by omega
 rcases h2 with h2 | h2
 ·have hx := hcc 0 _ rfl
  rw [show ((j / 2 : Nat) : Int).toNat * (k29).sz + 0 = j by
   rw [show (k29).sz = 2 from rfl, Int.toNat_natCast]
   omega] at hx
  exact ⟨_, hx⟩
 ·have hx := hcc 1 _ rfl
  rw [show ((j / 2 : Nat) : Int).toNat * (k29).sz + 1 = j by
   rw [show (k29).sz = 2 from rfl, Int.toNat_natCast]
   omega] at hx
  exact ⟨_, hx⟩
set_option maxHeartbeats 8000000 in
set_option maxRecDepth 100000 in
theorem markInt_w (k : Nat) (P : Nat → Prop) (v : Value) (l0 : List Int) (a1 r1 : Int) (r2 : List Int) (w0 w : World) (hB : Below w0.heap.size w0 w) (hv : RowT w w0.heap.size P 3 1 v l0.length) (h : laws_markIntS.f k l0 a1 = some (r1, r2)) :
  Calls Try.prog 26 #[v, .int .i64 a1] w fun e w' => e = .returned (.int .i64 r1) ∧ Below w0.heap.size w0 w' ∧ Kept w w' (fun k_ => some k_ = v.ownBlock ∧ P k_ ∧ ∃ cs, w.heap[k_]? = some (.cells cs 3 (0, 0))) ∧ ∀ e b m, IntsT w e b m → IntsT w' e b m := by
 obtain ⟨Av, cv, rfl, hv⟩ := hv
 have HV := mk0 hv
 clear hv
 have HK := mk0 (Kept.refl w (fun k_ => some k_ = (Value.slice Av l0.length cv).ownBlock ∧ P k_ ∧ ∃ cs, w.heap[k_]? = some (.cells cs 3 (0, 0))))
 have HB := mk0 hB
 clear hB
 have HI : Aside0 (∀ e b m, IntsT w e b m → IntsT w e b m) := ⟨fun _ _ _ h => h⟩
 have H' := mk0 (show laws_markIntS.l0 k l0 a1 0 = some (r1, r2) from h)
 clear h
 go_enter Try.func26, Try.ntmps26
 go_wp2
 go_loopg [1, 5] k (fun kq v1 v5 w' => ∃ (x0_1 : List Int) (x1_1 : Int) (x5_1 : Int), v1 = .int .i64 x1_1 ∧ v5 = .int .i64 x5_1 ∧ Aside0 (laws_markIntS.l0 kq x0_1 x1_1 x5_1 = some (r1, r2)) ∧ Aside0 (kq ≤ k) ∧ Aside0 (x0_1.length = l0.length) ∧ Aside0 (Kept w w' (fun k_ => some k_ = (Value.slice Av l0.length cv).ownBlock ∧ P k_ ∧ ∃ cs, w.heap[k_]? = some (.cells cs 3 (0, 0)))) ∧ Aside0 (Below w0.heap.size w0 w') ∧ Aside0 (∀ e b m, IntsT w e b m → IntsT w' e b m))
 case atStart => exact ⟨l0, a1, 0, rfl, rfl, H', ⟨Nat.le_refl _⟩, ⟨rfl⟩, ⟨HK.out⟩, ⟨HB.out⟩, ⟨HI.out⟩⟩
 case round =>
  clear H' HK HB HI
  try clear p2
  obtain ⟨x0_1, x1_1, x5_1, rfl, rfl, HA, HK1, HL, HK, HB, HI⟩ := hrel
  cases gk with
  | zero => exact absurd HA.out (by simp [laws_markIntS.l0])
  | succ k1 =>
   have H := HA.out; clear HA
   simp only [laws_markIntS.l0] at H
   by_cases c3 : x5_1 < (x0_1.length : Int)
   rotate_left
   ·rw [if_neg c3] at H
    have hlen := HL.out
    rw [hlen] at c3
    clear hlen
    have c3b0 := decide_eq_false c3
    clear c3
    simp only [Option.some.injEq, Prod.mk.injEq] at H
    obtain ⟨rfl, rfl⟩ := H
    go_wp2
    go_ret
    exact ⟨rfl, HB.out, HK.out, HI.out⟩
   rw [if_pos c3] at H
   have hlen := HL.out
   rw [hlen] at c3
   clear hlen
   have c3b0 := decide_eq_true c3
   by_cases c4 : 0 ≤ x5_1
   rotate_left
   ·rw [if_neg c4] at H
    exact absurd H (by simp)
   rw [if_pos c4] at H
   have c4b0 := decide_eq_true c4
   have H' := mk0 H
   clear H
   obtain ⟨go5, rfl, ⟨hb5, hp5⟩, hT5⟩ := HV.out (by omega)
   have GB5 := mk0 hb5
   have GP5 := mk0 hp5
   have HT5 := mk0 hT5
   clear hb5 hp5 hT5
   have hp5 := eq_true c4
   have hq5 : (x5_1 < (l0.length : Int)) = True := eq_true c3
   have HJ5 := mk0 (show x5_1.toNat < l0.length by omega)
   clear c3 c4
   obtain ⟨uo_, hx_⟩ := (HI.out _ _ _ HT5.out).2 (x5_1.toNat) (by have := HJ5.out; omega)
   obtain ⟨cs_, hcs_⟩ := (HI.out _ _ _ HT5.out).1
   have hf_ : wr.frozen? ⟨go5, x5_1.toNat, none⟩ = false := blk_frozen hcs_ _
   clear hcs_
   go_wp2_with (first | ((with_reducible refine gate_store (t := 3) (p := 15) rfl ?_); refine store_event (t := 3) (p := 15) (v := ?vo_w900) (w1 := (wr.setCell ⟨go5, x5_1.toNat, none⟩ (.int .i64 x1_1))) ?hg ?ho ?hn ?hr ?_; (case ho => rfl); (case hg => rfl); (case hn => rfl); (case hr => first | (go_simp; done) | (go_simp; rfl)); intro w900 hw; have n0_ : Aside0 (∀ e b m, IntsT w e b m → IntsT w900 e b m) := ⟨(by rw [hw]; exact fun e b m h_ => (HI.out e b m h_).put _ _ _)⟩; have n1_ : Aside0 (Below w0.heap.size w0 w900) := ⟨(by rw [hw]; exact below_set HB.out GB5.out)⟩; have n2_ : Aside0 (Kept w w900 (fun k_ => some k_ = (Value.slice (some ⟨go5, 0, none⟩) l0.length cv).ownBlock ∧ P k_ ∧ ∃ cs, w.heap[k_]? = some (.cells cs 3 (0, 0)))) := ⟨(by rw [hw]; exact Kept.setCell (p := ⟨go5, x5_1.toNat, none⟩) HK.out (.inl ⟨rfl, GP5.out, HT5.out.1⟩) _)⟩; clear HI HB HK hx_ hf_ hw; have HI := n0_; have HB := n1_; have HK := n2_; clear n0_ n1_ n2_))
   go_roundg k1
   case measure => have := HK1.out; omega
   case rel => exact ⟨_, (wrap64 (x1_1 + 1)), (wrap64 (x5_1 + 1)), rfl, rfl, ⟨H'.out⟩, ⟨(by have := HK1.out; omega)⟩, ⟨(by have h_ := HL.out; simpa using h_)⟩, HK, HB, HI⟩

set_option maxHeartbeats 8000000 in
set_option maxRecDepth 100000 in
theorem markPt_w (k : Nat) (P : Nat → Prop) (v : Value) (l0 : List S29) (a1 r1 : Int) (r2 : List S29) (w0 w : World) (hB : Below w0.heap.size w0 w) (hv : RowT w w0.heap.size P 29 2 v l0.length) (h : laws_markPointS.f k l0 a1 = some (r1, r2)) :
  Calls Try.prog 25 #[v, .int .i64 a1] w fun e w' => e = .returned (.int .i64 r1) ∧ Below w0.heap.size w0 w' ∧ Kept w w' (fun k_ => some k_ = v.ownBlock ∧ P k_ ∧ ∃ cs, w.heap[k_]? = some (.cells cs 29 (0, 0))) ∧ ∀ e b m, IntsT w e b m → IntsT w' e b m := by
 obtain ⟨Av, cv, rfl, hv⟩ := hv
 have HV := mk0 hv
 clear hv
 have HK := mk0 (Kept.refl w (fun k_ => some k_ = (Value.slice Av l0.length cv).ownBlock ∧ P k_ ∧ ∃ cs, w.heap[k_]? = some (.cells cs 29 (0, 0))))
 have HB := mk0 hB
 clear hB
 have HI : Aside0 (∀ e b m, IntsT w e b m → IntsT w e b m) := ⟨fun _ _ _ h => h⟩
 have H' := mk0 (show laws_markPointS.l0 k l0 a1 0 = some (r1, r2) from h)
 clear h
 go_enter Try.func25, Try.ntmps25
 go_wp2
 go_loopg [1, 5] k (fun kq v1 v5 w' => ∃ (x0_1 : List S29) (x1_1 : Int) (x5_1 : Int), v1 = .int .i64 x1_1 ∧ v5 = .int .i64 x5_1 ∧ Aside0 (laws_markPointS.l0 kq x0_1 x1_1 x5_1 = some (r1, r2)) ∧ Aside0 (kq ≤ k) ∧ Aside0 (x0_1.length = l0.length) ∧ Aside0 (Kept w w' (fun k_ => some k_ = (Value.slice Av l0.length cv).ownBlock ∧ P k_ ∧ ∃ cs, w.heap[k_]? = some (.cells cs 29 (0, 0)))) ∧ Aside0 (Below w0.heap.size w0 w') ∧ Aside0 (∀ e b m, IntsT w e b m → IntsT w' e b m))
 case atStart => exact ⟨l0, a1, 0, rfl, rfl, H', ⟨Nat.le_refl _⟩, ⟨rfl⟩, ⟨HK.out⟩, ⟨HB.out⟩, ⟨HI.out⟩⟩
 case round =>
  clear H' HK HB HI
  try clear p2
  obtain ⟨x0_1, x1_1, x5_1, rfl, rfl, HA, HK1, HL, HK, HB, HI⟩ := hrel
  cases gk with
  | zero => exact absurd HA.out (by simp [laws_markPointS.l0])
  | succ k1 =>
   have H := HA.out; clear HA
   simp only [laws_markPointS.l0] at H
   by_cases c3 : x5_1 < (x0_1.length : Int)
   rotate_left
   ·rw [if_neg c3] at H
    have hlen := HL.out
    rw [hlen] at c3
    clear hlen
    have c3b0 := decide_eq_false c3
    clear c3
    simp only [Option.some.injEq, Prod.mk.injEq] at H
    obtain ⟨rfl, rfl⟩ := H
    go_wp2
    go_ret
    exact ⟨rfl, HB.out, HK.out, HI.out⟩
   rw [if_pos c3] at H
   have hlen := HL.out
   rw [hlen] at c3
   clear hlen
   have c3b0 := decide_eq_true c3
   by_cases c4 : 0 ≤ x5_1
   rotate_left
   ·rw [if_neg c4] at H
    exact absurd H (by simp)
   rw [if_pos c4] at H
   have c4b0 := decide_eq_true c4
   have H' := mk0 H
   clear H
   obtain ⟨go5, rfl, ⟨hb5, hp5⟩, hT5⟩ := HV.out (by omega)
   have GB5 := mk0 hb5
   have GP5 := mk0 hp5
   have HT5 := mk0 hT5
   clear hb5 hp5 hT5
   have hp5 := eq_true c4
   have hq5 : (x5_1 < (l0.length : Int)) = True := eq_true c3
   have HJ5 := mk0 (show x5_1.toNat < l0.length by omega)
   clear c3 c4
   obtain ⟨uo_, hx_⟩ := (HI.out _ _ _ HT5.out).2 (x5_1.toNat * 2) (by have := HJ5.out; omega)
   obtain ⟨cs_, hcs_⟩ := (HI.out _ _ _ HT5.out).1
   have hf_ : wr.frozen? ⟨go5, x5_1.toNat * 2, none⟩ = false := blk_frozen hcs_ _
   clear hcs_
   go_wp2_with (first | ((with_reducible refine gate_store (t := 3) (p := 16) rfl ?_); refine store_event (t := 3) (p := 16) (v := ?vo_w900) (w1 := (wr.setCell ⟨go5, x5_1.toNat * 2, none⟩ (.int .i64 x1_1))) ?hg ?ho ?hn ?hr ?_; (case ho => rfl); (case hg => rfl); (case hn => rfl); (case hr => first | (go_simp; done) | (go_simp; rfl)); intro w900 hw; have n0_ : Aside0 (∀ e b m, IntsT w e b m → IntsT w900 e b m) := ⟨(by rw [hw]; exact fun e b m h_ => (HI.out e b m h_).put _ _ _)⟩; have n1_ : Aside0 (Below w0.heap.size w0 w900) := ⟨(by rw [hw]; exact below_set HB.out GB5.out)⟩; have n2_ : Aside0 (Kept w w900 (fun k_ => some k_ = (Value.slice (some ⟨go5, 0, none⟩) l0.length cv).ownBlock ∧ P k_ ∧ ∃ cs, w.heap[k_]? = some (.cells cs 29 (0, 0)))) := ⟨(by rw [hw]; exact Kept.setCell (p := ⟨go5, x5_1.toNat * 2, none⟩) HK.out (.inl ⟨rfl, GP5.out, HT5.out.1⟩) _)⟩; clear HI HB HK hx_ hf_ hw; have HI := n0_; have HB := n1_; have HK := n2_; clear n0_ n1_ n2_ uo_ cs_; obtain ⟨uo_, hx_⟩ := (HI.out _ _ _ HT5.out).2 (x5_1.toNat * 2 + 1) (by have := HJ5.out; omega); obtain ⟨cs_, hcs_⟩ := (HI.out _ _ _ HT5.out).1; have hf_ : w900.frozen? ⟨go5, x5_1.toNat * 2 + 1, none⟩ = false := blk_frozen hcs_ _; clear hcs_) | ((with_reducible refine gate_store (t := 3) (p := 23) rfl ?_); refine store_event (t := 3) (p := 23) (v := ?vo_w901) (w1 := (w900.setCell ⟨go5, x5_1.toNat * 2 + 1, none⟩ (.int .i64 (wrap64 (x1_1 + 1))))) ?hg ?ho ?hn ?hr ?_; (case ho => rfl); (case hg => rfl); (case hn => rfl); (case hr => first | (go_simp; done) | (go_simp; rfl)); intro w901 hw; have n0_ : Aside0 (∀ e b m, IntsT w e b m → IntsT w901 e b m) := ⟨(by rw [hw]; exact fun e b m h_ => (HI.out e b m h_).put _ _ _)⟩; have n1_ : Aside0 (Below w0.heap.size w0 w901) := ⟨(by rw [hw]; exact below_set HB.out GB5.out)⟩; have n2_ : Aside0 (Kept w w901 (fun k_ => some k_ = (Value.slice (some ⟨go5, 0, none⟩) l0.length cv).ownBlock ∧ P k_ ∧ ∃ cs, w.heap[k_]? = some (.cells cs 29 (0, 0)))) := ⟨(by rw [hw]; exact Kept.setCell (p := ⟨go5, x5_1.toNat * 2 + 1, none⟩) HK.out (.inl ⟨rfl, GP5.out, HT5.out.1⟩) _)⟩; clear HI HB HK hx_ hf_ hw; have HI := n0_; have HB := n1_; have HK := n2_; clear n0_ n1_ n2_))
   go_roundg k1
   case measure => have := HK1.out; omega
   case rel => exact ⟨_, (wrap64 ((wrap64 (x1_1 + 1)) + 1)), (wrap64 (x5_1 + 1)), rfl, rfl, ⟨H'.out⟩, ⟨(by have := HK1.out; omega)⟩, ⟨(by have h_ := HL.out; simpa using h_)⟩, HK, HB, HI⟩

/-- What lies in a row of nodes: its cells, and five rows of each. -/
def NodesT (W : World) (base : Nat) (P : Nat → Prop) (g : Nat) (L : List S69) : Prop :=
 (∃ cs, W.heap[g]? = some (.cells cs 69 (0, 0)) ∧ ∀ j, j < L.length * 31 → j < cs.size) ∧ ∀ (i : Nat) (x : S69), L[i]? = some x → ∃ v9 v10 v13 v29 v30, (W.cell? ⟨g, i * 31 + 9, none⟩ = some v9 ∧ W.cell? ⟨g, i * 31 + 10, none⟩ = some v10 ∧ W.cell? ⟨g, i * 31 + 13, none⟩ = some v13 ∧ W.cell? ⟨g, i * 31 + 29, none⟩ = some v29 ∧ W.cell? ⟨g, i * 31 + 30, none⟩ = some v30) ∧
  RowT W base P 3 1 v9 x.f4.f0.length ∧ RowT W base P 29 2 v10 x.f4.f1.length ∧ RowT W base P 3 1 v13 x.f7.length ∧ RowT W base P 3 1 v29 x.f11.f0.length ∧ RowT W base P 29 2 v30 x.f11.f1.length
/-- .. and the five rows of the i-th of them. -/
def NodeT (W : World) (base : Nat) (P : Nat → Prop) (g : Nat) (L : List S69) (i : Nat) (v9 v10 v13 v29 v30 : Value) : Prop :=
 NodesT W base P g L ∧ W.cell? ⟨g, i * 31 + 9, none⟩ = some v9 ∧ W.cell? ⟨g, i * 31 + 10, none⟩ = some v10 ∧ W.cell? ⟨g, i * 31 + 13, none⟩ = some v13 ∧ W.cell? ⟨g, i * 31 + 29, none⟩ = some v29 ∧ W.cell? ⟨g, i * 31 + 30, none⟩ = some v30
theorem blk_cell_put {W : World} {g t : Nat} {cs : Array Value} (h : W.heap[g]? = some (.cells cs t (0, 0))) {i j : Nat} (hij : i ≠ j) (u : Value) : (W.setCell ⟨g, i, none⟩ u).cell? ⟨g, j, none⟩ = W.cell? ⟨g, j, none⟩ := by
 rw [blk_cell (blk_put h i u rfl), blk_cell h, Array.getElem?_setIfInBounds, if_neg hij]
theorem NodesT.put {W : World} {base : Nat} {P : Nat → Prop} {g : Nat} {L : List S69} (h : NodesT W base P g L) (i o : Nat) (ho : o < 31 ∧ o ≠ 9 ∧ o ≠ 10 ∧ o ≠ 13 ∧ o ≠ 29 ∧ o ≠ 30) (u : Value) : NodesT (W.setCell ⟨g, i * 31 + o, none⟩ u) base P g L := by
 obtain ⟨⟨cs, hc, hs⟩, hn⟩ := h
 refine ⟨⟨_, blk_put hc (i * 31 + o) u rfl, fun j hj => by simpa using hs j hj⟩, fun i2 x hx => ?_⟩
 obtain ⟨v9, v10, v13, v29, v30, ⟨c9, c10, c13, c29, c30⟩, r9, r10, r13, r29, r30⟩ := hn i2 x hx
 have far : ∀ {e sz : Nat} {v : Value} {n : Nat}, e ≠ 69 → RowT W base P e sz v n → RowT (W.setCell ⟨g, i * 31 + o, none⟩ u) base P e sz v n := fun {e sz v n} he hr => by
  obtain ⟨A, c, h1, h2⟩ := hr
  refine ⟨A, c, h1, fun hp => ?_⟩
  obtain ⟨b, b1, b2, b3⟩ := h2 hp
  obtain ⟨cb, hcb⟩ := b3.1
  exact ⟨b, b1, b2, b3.far (p := ⟨g, i * 31 + o, none⟩) (blk_ne hcb hc he) u⟩
 refine ⟨v9, v10, v13, v29, v30, ⟨?_, ?_, ?_, ?_, ?_⟩, far (by decide) r9, far (by decide) r10, far (by decide) r13, far (by decide) r29, far (by decide) r30⟩
 all_goals rw [blk_cell_put hc (by omega)]; assumption
theorem NodesT.at_ {W : World} {base : Nat} {P : Nat → Prop} {g : Nat} {L : List S69} (h : NodesT W base P g L) (i o : Nat) (hi : i < L.length) (ho : o < 31) : ∃ u, W.cell? ⟨g, i * 31 + o, none⟩ = some u := by
 obtain ⟨⟨cs, hc, hs⟩, _⟩ := h
 have := hs (i * 31 + o) (by omega)
 exact ⟨cs[i * 31 + o], (by rw [blk_cell hc]; exact Array.getElem?_eq_getElem this)⟩
theorem NodesT.fz {W : World} {base : Nat} {P : Nat → Prop} {g : Nat} {L : List S69} (h : NodesT W base P g L) (j : Nat) : W.frozen? ⟨g, j, none⟩ = false := by
 obtain ⟨⟨cs, hc, hs⟩, _⟩ := h
 exact blk_frozen hc j
theorem NodesT.call {W W2 : World} {base : Nat} {P : Nat → Prop} {g : Nat} {L : List S69} (h : NodesT W base P g L) (hg : W2.heap[g]? = W.heap[g]?) (hs : ∀ e b m, IntsT W e b m → IntsT W2 e b m) : NodesT W2 base P g L := by
 obtain ⟨⟨cs, hc, hsz⟩, hn⟩ := h
 have hc' := hg.trans hc
 refine ⟨⟨cs, hc', hsz⟩, fun i2 x hx => ?_⟩
 obtain ⟨v9, v10, v13, v29, v30, ⟨c9, c10, c13, c29, c30⟩, r9, r10, r13, r29, r30⟩ := hn i2 x hx
 rw [blk_cell hc] at c9 c10 c13 c29 c30
 refine ⟨v9, v10, v13, v29, v30, ⟨?_, ?_, ?_, ?_, ?_⟩, r9.mono hs, r10.mono hs, r13.mono hs, r29.mono hs, r30.mono hs⟩
 all_goals rw [blk_cell hc']; assumption
theorem NodeT.put {W : World} {base : Nat} {P : Nat → Prop} {g : Nat} {L : List S69} {i : Nat} {v9 v10 v13 v29 v30 : Value} (h : NodeT W base P g L i v9 v10 v13 v29 v30) (o : Nat) (ho : o < 31 ∧ o ≠ 9 ∧ o ≠ 10 ∧ o ≠ 13 ∧ o ≠ 29 ∧ o ≠ 30) (u : Value) : NodeT (W.setCell ⟨g, i * 31 + o, none⟩ u) base P g L i v9 v10 v13 v29 v30 := by
 obtain ⟨hn, c9, c10, c13, c29, c30⟩ := h
 obtain ⟨⟨cs, hc, hs⟩, _⟩ := id hn
 refine ⟨hn.put i o ho u, ?_, ?_, ?_, ?_, ?_⟩
 all_goals rw [blk_cell_put hc (by omega)]; assumption
theorem NodeT.call {W W2 : World} {base : Nat} {P : Nat → Prop} {g : Nat} {L : List S69} {i : Nat} {v9 v10 v13 v29 v30 : Value} (h : NodeT W base P g L i v9 v10 v13 v29 v30) (hg : W2.heap[g]? = W.heap[g]?) (hs : ∀ e b m, IntsT W e b m → IntsT W2 e b m) : NodeT W2 base P g L i v9 v10 v13 v29 v30 := by
 obtain ⟨hn, c9, c10, c13, c29, c30⟩ := h
 obtain ⟨⟨cs, hc, _⟩, _⟩ := id hn
 have hc' := hg.trans hc
 rw [blk_cell hc] at c9 c10 c13 c29 c30
 refine ⟨hn.call hg hs, ?_, ?_, ?_, ?_, ?_⟩
 all_goals rw [blk_cell hc']; assumption
theorem NodesT.kept {W W2 : World} {base : Nat} {P Q : Nat → Prop} {e g : Nat} {L : List S69} (h : NodesT W base P g L) {v : Value} (he : e ≠ 69) (hk : Kept W W2 (fun k_ => some k_ = v.ownBlock ∧ Q k_ ∧ ∃ cs, W.heap[k_]? = some (.cells cs e (0, 0)))) : W2.heap[g]? = W.heap[g]? := by
 obtain ⟨⟨cs, hc, _⟩, _⟩ := h
 refine hk.2 g (blk_lt hc) (fun hs => ?_)
 obtain ⟨_, _, cs2, hc2⟩ := hs
 exact blk_ne hc2 hc he rfl
theorem nodesT_of {W : World} {base : Nat} {ok : Nat → Prop} {g c : Nat} {L : List S69} (h : Kd.S k69 69 W base ok (.slice (some ⟨g, 0, none⟩) L.length c) L) : NodesT W base ok g L := by
 refine ⟨?_, fun i x hx => ?_⟩
 ·obtain ⟨cells, hc⟩ := Kd.S_typed h g rfl
  refine ⟨cells, hc, fun j hj => ?_⟩
  have hi : j / 31 < L.length := by omega
  obtain ⟨ce, hcl, hM, hcc, _⟩ := Kd.R_elem (Kd.S_R h) (L[j / 31]'hi) ((j / 31 : Nat) : Int) (by omega) (by omega)
  have hsz : (k69).sz = 31 := rfl
  have hl : j % 31 < ce.length := by rw [hcl, hsz]; omega
  have hx := hcc (j % 31) _ (List.getElem?_eq_getElem hl)
  rw [hsz, Int.toNat_natCast, show j / 31 * 31 + j % 31 = j by omega, blk_cell hc] at hx
  exact (Array.getElem?_eq_some_iff.1 hx).1
 have hi : i < L.length := (List.getElem?_eq_some_iff.1 hx).1
 obtain ⟨ce, hcl, hM, hcc, _⟩ := Kd.R_elem (Kd.S_R h) x (i : Int) (by omega) (by omega)
 have ex : L.getD (i : Int).toNat x = x := by
  rw [Int.toNat_natCast]
  simp [List.getD, hx]
 rw [ex] at hM
 obtain ⟨v9, v10, v13, v29, v30, rfl, h9, h10, h13, h29, h30⟩ := k69_openM hM
 have hsz : (k69).sz = 31 := rfl
 have mo : ∀ {e sz : Nat} {v : Value} {n : Nat}, RowT W base (fun k => ok k ∧ k ≠ g) e sz v n → RowT W base ok e sz v n := fun {e sz v n} hr => by
  obtain ⟨A, c, h1, h2⟩ := hr
  refine ⟨A, c, h1, fun hp => ?_⟩
  obtain ⟨b, b1, b2, b3⟩ := h2 hp
  exact ⟨b, b1, ⟨b2.1, b2.2.1⟩, b3⟩
 have e9 := hcc 9 _ rfl
 have e10 := hcc 10 _ rfl
 have e13 := hcc 13 _ rfl
 have e29 := hcc 29 _ rfl
 have e30 := hcc 30 _ rfl
 rw [hsz, Int.toNat_natCast] at e9 e10 e13 e29 e30
 exact ⟨v9, v10, v13, v29, v30, ⟨e9, e10, e13, e29, e30⟩, mo (rowT_int h9), mo (rowT_pt h10), mo (rowT_int h13), mo (rowT_int h29), mo (rowT_pt h30)⟩

theorem rd_at_69 (xs : List S69) (i : Nat) (h : i < xs.length) : xs[i]? = some (rd_T69 xs (i : Int)) := by
 unfold rd_T69
 simp [h]
theorem rowT_far {W : World} {base b2 : Nat} {P Q : Nat → Prop} {e sz : Nat} {v : Value} {n g : Nat} {L : List S69} (h : RowT W base P e sz v n) (hn : NodesT W b2 Q g L) (he : e ≠ 69) (j : Nat) (u : Value) : RowT (W.setCell ⟨g, j, none⟩ u) base P e sz v n := by
 obtain ⟨⟨cs, hc, _⟩, _⟩ := hn
 obtain ⟨A, c, h1, h2⟩ := h
 refine ⟨A, c, h1, fun hp => ?_⟩
 obtain ⟨b, b1, b2, b3⟩ := h2 hp
 obtain ⟨cb, hcb⟩ := b3.1
 exact ⟨b, b1, b2, b3.far (p := ⟨g, j, none⟩) (blk_ne hcb hc he) u⟩
set_option maxHeartbeats 8000000 in
set_option maxRecDepth 100000 in
theorem laws_markNodeS.calls (k : Nat) (P0_ : Nat → Prop) (u9000_ : Value) (l0 : List S69) (a1 : Int) (r1 : Int) (w0 w : World) (hB : Below w0.heap.size w0 w) (ho0 : Kd.S k69 69 w w0.heap.size P0_ u9000_ l0) (h : laws_markNodeS.f k l0 a1 = some r1) :
  Calls Try.prog 69 #[u9000_, .int .i64 a1] w fun e w' => e = .returned (.int .i64 r1) ∧ Below w0.heap.size w0 w' ∧ Kept w w' (fun k_ => P0_ k_) := by
 have hu29 := Try.underlying29
 have hu61 := Try.underlying61
 have hu63 := Try.underlying63
 have hu65 := Try.underlying65
 have hu67 := Try.underlying67
 have hu69 := Try.underlying69
 obtain ⟨Av, cv, rfl⟩ := Kd.S_slice ho0
 have HN : Aside0 (∀ g, Av = some ⟨g, 0, none⟩ → NodesT w w0.heap.size P0_ g l0) := ⟨fun g hg => by subst hg; exact nodesT_of ho0⟩
 have HG : Aside0 (0 < l0.length → ∃ g, Av = some ⟨g, 0, none⟩ ∧ w0.heap.size ≤ g ∧ P0_ g) := ⟨fun hp => by
  obtain ⟨g, cap, he, hb, hl, cells, hc⟩ := Kd.S_form ho0 hp
  injection he with ea en ec
  subst ea
  exact ⟨g, rfl, hb, (Kd.S_R ho0).1 g rfl⟩⟩
 have HK := mk0 (Kept.refl w (fun k_ => P0_ k_))
 have HB := mk0 hB
 clear hB ho0
 have H' := mk0 (show laws_markNodeS.l0 k l0 a1 0 = some r1 from h)
 clear h
 go_enter Try.func69, Try.ntmps69
 go_wp2
 go_loopg [1, 5] k (fun kq v1 v5 w' => ∃ (x1_1 : Int) (x5_1 : Int), v1 = .int .i64 x1_1 ∧ v5 = .int .i64 x5_1 ∧ Aside0 (laws_markNodeS.l0 kq l0 x1_1 x5_1 = some r1) ∧ Aside0 (kq ≤ k) ∧ Aside0 (∀ g, Av = some ⟨g, 0, none⟩ → NodesT w' w0.heap.size P0_ g l0) ∧ Aside0 (Kept w w' (fun k_ => P0_ k_)) ∧ Aside0 (Below w0.heap.size w0 w'))
 case atStart => exact ⟨a1, 0, rfl, rfl, H', ⟨Nat.le_refl _⟩, HN, HK, HB⟩
 case round =>
  clear H' HK HB HN
  try clear p2
  obtain ⟨x1_1, x5_1, rfl, rfl, HA, HK1, HN, HK, HB⟩ := hrel
  cases gk with
  | zero => exact absurd HA.out (by simp [laws_markNodeS.l0])
  | succ k1 =>
   have H := HA.out; clear HA
   simp only [laws_markNodeS.l0] at H
   by_cases c3 : x5_1 < (l0.length : Int)
   rotate_left
   ·rw [if_neg c3] at H
    have c3b0 := decide_eq_false c3
    clear c3
    obtain rfl := Option.some.inj H
    clear H
    go_wp2
    go_ret
    exact ⟨rfl, HB.out, HK.out⟩
   rw [if_pos c3] at H
   have c3b0 := decide_eq_true c3
   by_cases c4 : 0 ≤ x5_1
   rotate_left
   ·rw [if_neg c4] at H
    exact absurd H (by simp)
   rw [if_pos c4] at H
   have c4b0 := decide_eq_true c4
   replace H := Option.bind_eq_some_iff.mp H
   obtain ⟨⟨t0_, s0_⟩, A00, H⟩ := H
   have A0 := mk0 A00
   clear A00
   replace H := Option.bind_eq_some_iff.mp H
   obtain ⟨⟨t1_, s1_⟩, A10, H⟩ := H
   have A1 := mk0 A10
   clear A10
   replace H := Option.bind_eq_some_iff.mp H
   obtain ⟨⟨t2_, s2_⟩, A20, H⟩ := H
   have A2 := mk0 A20
   clear A20
   replace H := Option.bind_eq_some_iff.mp H
   obtain ⟨⟨t3_, s3_⟩, A30, H⟩ := H
   have A3 := mk0 A30
   clear A30
   replace H := Option.bind_eq_some_iff.mp H
   obtain ⟨⟨t4_, s4_⟩, A40, H⟩ := H
   have A4 := mk0 A40
   clear A40
   have H' := mk0 (show laws_markNodeS.l0 k1 l0 t4_ (wrap64 (x5_1 + 1)) = some r1 from H)
   clear H
   obtain ⟨go5, rfl, hb5, hp5⟩ := HG.out (by omega)
   have GB5 := mk0 hb5
   have GP5 := mk0 hp5
   clear hb5 hp5
   have HJ5 := mk0 (show x5_1.toNat < l0.length by omega)
   have HD := HN.out go5 rfl
   obtain ⟨v9, v10, v13, v29, v30, ⟨c9, c10, c13, c29, c30⟩, ⟨A9, d9, rfl, R9⟩, ⟨A10, d10, rfl, R10⟩, ⟨A13, d13, rfl, R13⟩, ⟨A29, d29, rfl, R29⟩, ⟨A30, d30, rfl, R30⟩⟩ := HD.2 x5_1.toNat (rd_T69 l0 x5_1) (by
    have h_ := rd_at_69 l0 x5_1.toNat HJ5.out
    rw [Int.toNat_of_nonneg c4] at h_
    exact h_)
   have HD0 : Aside0 (NodeT wr w0.heap.size P0_ go5 l0 x5_1.toNat (.slice A9 _ d9) (.slice A10 _ d10) (.slice A13 _ d13) (.slice A29 _ d29) (.slice A30 _ d30)) := ⟨⟨HD, c9, c10, c13, c29, c30⟩⟩
   have HR : Aside0 (∀ e b m, IntsT wr e b m → IntsT wr e b m) := ⟨fun _ _ _ h_ => h_⟩
   have HR9 : Aside0 (RowT wr w0.heap.size P0_ 3 1 (.slice A9 (rd_T69 l0 x5_1).f4.f0.length d9) (rd_T69 l0 x5_1).f4.f0.length) := ⟨⟨A9, d9, rfl, R9⟩⟩
   have HR10 : Aside0 (RowT wr w0.heap.size P0_ 29 2 (.slice A10 (rd_T69 l0 x5_1).f4.f1.length d10) (rd_T69 l0 x5_1).f4.f1.length) := ⟨⟨A10, d10, rfl, R10⟩⟩
   have HR13 : Aside0 (RowT wr w0.heap.size P0_ 3 1 (.slice A13 (rd_T69 l0 x5_1).f7.length d13) (rd_T69 l0 x5_1).f7.length) := ⟨⟨A13, d13, rfl, R13⟩⟩
   have HR29 : Aside0 (RowT wr w0.heap.size P0_ 3 1 (.slice A29 (rd_T69 l0 x5_1).f11.f0.length d29) (rd_T69 l0 x5_1).f11.f0.length) := ⟨⟨A29, d29, rfl, R29⟩⟩
   have HR30 : Aside0 (RowT wr w0.heap.size P0_ 29 2 (.slice A30 (rd_T69 l0 x5_1).f11.f1.length d30) (rd_T69 l0 x5_1).f11.f1.length) := ⟨⟨A30, d30, rfl, R30⟩⟩
   clear HD HN c9 c10 c13 c29 c30 R9 R10 R13 R29 R30 HR
   have hp5 := eq_true c4
   have hq5 : (x5_1 < (l0.length : Int)) = True := eq_true c3
   clear c3 c4
   obtain ⟨uo_, hx_⟩ : ∃ u_, wr.cell? ⟨go5, x5_1.toNat * 31, none⟩ = some u_ := HD0.out.1.at_ x5_1.toNat 0 HJ5.out (by decide)
   have hf_ : wr.frozen? ⟨go5, x5_1.toNat * 31, none⟩ = false := HD0.out.1.fz _
   go_wp2_with (first | ((with_reducible refine gate_store (t := 3) (p := 16) rfl ?_); refine store_event (t := 3) (p := 16) (v := ?vo_w901) (w1 := (wr.setCell ⟨go5, x5_1.toNat * 31, none⟩ ?va_w901)) ?hg ?ho ?hn ?hr ?_; (case ho => rfl); (case hg => rfl); (case hn => rfl); (case hr => first | (go_simp; done) | (go_simp; rfl)); intro w901 hw; have n0_ : Aside0 (NodeT w901 w0.heap.size P0_ go5 l0 x5_1.toNat (.slice A9 (rd_T69 l0 x5_1).f4.f0.length d9) (.slice A10 (rd_T69 l0 x5_1).f4.f1.length d10) (.slice A13 (rd_T69 l0 x5_1).f7.length d13) (.slice A29 (rd_T69 l0 x5_1).f11.f0.length d29) (.slice A30 (rd_T69 l0 x5_1).f11.f1.length d30)) := ⟨(by rw [hw]; exact HD0.out.put 0 (by decide) _)⟩; have n1_ : Aside0 (Below w0.heap.size w0 w901) := ⟨(by rw [hw]; exact below_set HB.out GB5.out)⟩; have n2_ : Aside0 (Kept w w901 (fun k_ => P0_ k_)) := ⟨(by rw [hw]; exact Kept.setCell (p := ⟨go5, x5_1.toNat * 31, none⟩) HK.out (.inl GP5.out) _)⟩; have m9_ : Aside0 (RowT w901 w0.heap.size P0_ 3 1 (.slice A9 (rd_T69 l0 x5_1).f4.f0.length d9) (rd_T69 l0 x5_1).f4.f0.length) := ⟨z6_5⟩; have m10_ : Aside0 (RowT w901 w0.heap.size P0_ 29 2 (.slice A10 (rd_T69 l0 x5_1).f4.f1.length d10) (rd_T69 l0 x5_1).f4.f1.length) := ⟨z6_4⟩; have m13_ : Aside0 (RowT w901 w0.heap.size P0_ 3 1 (.slice A13 (rd_T69 l0 x5_1).f7.length d13) (rd_T69 l0 x5_1).f7.length) := ⟨z6_2⟩; have m29_ : Aside0 (RowT w901 w0.heap.size P0_ 3 1 (.slice A29 (rd_T69 l0 x5_1).f11.f0.length d29) (rd_T69 l0 x5_1).f11.f0.length) := ⟨z6_0⟩; have m30_ : Aside0 (RowT w901 w0.heap.size P0_ 29 2 (.slice A30 (rd_T69 l0 x5_1).f11.f1.length d30) (rd_T69 l0 x5_1).f11.f1.length) := ⟨z6_1⟩; clear HD0 HB HK hx_ hf_ hw uo_; have HD0 := n0_; have HB := n1_; have HK := n2_; clear n0_ n1_ n2_ HR9; have HR9 := m9_; clear m9_ HR10; have HR10 := m10_; clear m10_ HR13; have HR13 := m13_; clear m13_ HR29; have HR29 := m29_; clear m29_ HR30; have HR30 := m30_; clear m30_; obtain ⟨uo_, hx_⟩ : ∃ u_, w901.cell? ⟨go5, x5_1.toNat * 31 + 1, none⟩ = some u_ := HD0.out.1.at_ x5_1.toNat 1 HJ5.out (by decide); have hf_ : w901.frozen? ⟨go5, x5_1.toNat * 31 + 1, none⟩ = false := HD0.out.1.fz _) | ((with_reducible refine gate_store (t := 3) (p := 23) rfl ?_); refine store_event (t := 3) (p := 23) (v := ?vo_w902) (w1 := (w901.setCell ⟨go5, x5_1.toNat * 31 + 1, none⟩ ?va_w902)) ?hg ?ho ?hn ?hr ?_; (case ho => rfl); (case hg => rfl); (case hn => rfl); (case hr => first | (go_simp; done) | (go_simp; rfl)); intro w902 hw; have n0_ : Aside0 (NodeT w902 w0.heap.size P0_ go5 l0 x5_1.toNat (.slice A9 (rd_T69 l0 x5_1).f4.f0.length d9) (.slice A10 (rd_T69 l0 x5_1).f4.f1.length d10) (.slice A13 (rd_T69 l0 x5_1).f7.length d13) (.slice A29 (rd_T69 l0 x5_1).f11.f0.length d29) (.slice A30 (rd_T69 l0 x5_1).f11.f1.length d30)) := ⟨(by rw [hw]; exact HD0.out.put 1 (by decide) _)⟩; have n1_ : Aside0 (Below w0.heap.size w0 w902) := ⟨(by rw [hw]; exact below_set HB.out GB5.out)⟩; have n2_ : Aside0 (Kept w w902 (fun k_ => P0_ k_)) := ⟨(by rw [hw]; exact Kept.setCell (p := ⟨go5, x5_1.toNat * 31 + 1, none⟩) HK.out (.inl GP5.out) _)⟩; have m9_ : Aside0 (RowT w902 w0.heap.size P0_ 3 1 (.slice A9 (rd_T69 l0 x5_1).f4.f0.length d9) (rd_T69 l0 x5_1).f4.f0.length) := ⟨z6_5⟩; have m10_ : Aside0 (RowT w902 w0.heap.size P0_ 29 2 (.slice A10 (rd_T69 l0 x5_1).f4.f1.length d10) (rd_T69 l0 x5_1).f4.f1.length) := ⟨z6_4⟩; have m13_ : Aside0 (RowT w902 w0.heap.size P0_ 3 1 (.slice A13 (rd_T69 l0 x5_1).f7.length d13) (rd_T69 l0 x5_1).f7.length) := ⟨z6_2⟩; have m29_ : Aside0 (RowT w902 w0.heap.size P0_ 3 1 (.slice A29 (rd_T69 l0 x5_1).f11.f0.length d29) (rd_T69 l0 x5_1).f11.f0.length) := ⟨z6_0⟩; have m30_ : Aside0 (RowT w902 w0.heap.size P0_ 29 2 (.slice A30 (rd_T69 l0 x5_1).f11.f1.length d30) (rd_T69 l0 x5_1).f11.f1.length) := ⟨z6_1⟩; clear HD0 HB HK hx_ hf_ hw uo_; have HD0 := n0_; have HB := n1_; have HK := n2_; clear n0_ n1_ n2_ HR9; have HR9 := m9_; clear m9_ HR10; have HR10 := m10_; clear m10_ HR13; have HR13 := m13_; clear m13_ HR29; have HR29 := m29_; clear m29_ HR30; have HR30 := m30_; clear m30_; obtain ⟨uo_, hx_⟩ : ∃ u_, w902.cell? ⟨go5, x5_1.toNat * 31 + 2, none⟩ = some u_ := HD0.out.1.at_ x5_1.toNat 2 HJ5.out (by decide); have hf_ : w902.frozen? ⟨go5, x5_1.toNat * 31 + 2, none⟩ = false := HD0.out.1.fz _) | ((with_reducible refine gate_store (t := 4) (p := 32) rfl ?_); refine store_event (t := 4) (p := 32) (v := ?vo_w903) (w1 := (w902.setCell ⟨go5, x5_1.toNat * 31 + 2, none⟩ ?va_w903)) ?hg ?ho ?hn ?hr ?_; (case ho => rfl); (case hg => rfl); (case hn => rfl); (case hr => first | (go_simp; done) | (go_simp; rfl)); intro w903 hw; have n0_ : Aside0 (NodeT w903 w0.heap.size P0_ go5 l0 x5_1.toNat (.slice A9 (rd_T69 l0 x5_1).f4.f0.length d9) (.slice A10 (rd_T69 l0 x5_1).f4.f1.length d10) (.slice A13 (rd_T69 l0 x5_1).f7.length d13) (.slice A29 (rd_T69 l0 x5_1).f11.f0.length d29) (.slice A30 (rd_T69 l0 x5_1).f11.f1.length d30)) := ⟨(by rw [hw]; exact HD0.out.put 2 (by decide) _)⟩; have n1_ : Aside0 (Below w0.heap.size w0 w903) := ⟨(by rw [hw]; exact below_set HB.out GB5.out)⟩; have n2_ : Aside0 (Kept w w903 (fun k_ => P0_ k_)) := ⟨(by rw [hw]; exact Kept.setCell (p := ⟨go5, x5_1.toNat * 31 + 2, none⟩) HK.out (.inl GP5.out) _)⟩; have m9_ : Aside0 (RowT w903 w0.heap.size P0_ 3 1 (.slice A9 (rd_T69 l0 x5_1).f4.f0.length d9) (rd_T69 l0 x5_1).f4.f0.length) := ⟨z6_5⟩; have m10_ : Aside0 (RowT w903 w0.heap.size P0_ 29 2 (.slice A10 (rd_T69 l0 x5_1).f4.f1.length d10) (rd_T69 l0 x5_1).f4.f1.length) := ⟨z6_4⟩; have m13_ : Aside0 (RowT w903 w0.heap.size P0_ 3 1 (.slice A13 (rd_T69 l0 x5_1).f7.length d13) (rd_T69 l0 x5_1).f7.length) := ⟨z6_2⟩; have m29_ : Aside0 (RowT w903 w0.heap.size P0_ 3 1 (.slice A29 (rd_T69 l0 x5_1).f11.f0.length d29) (rd_T69 l0 x5_1).f11.f0.length) := ⟨z6_0⟩; have m30_ : Aside0 (RowT w903 w0.heap.size P0_ 29 2 (.slice A30 (rd_T69 l0 x5_1).f11.f1.length d30) (rd_T69 l0 x5_1).f11.f1.length) := ⟨z6_1⟩; clear HD0 HB HK hx_ hf_ hw uo_; have HD0 := n0_; have HB := n1_; have HK := n2_; clear n0_ n1_ n2_ HR9; have HR9 := m9_; clear m9_ HR10; have HR10 := m10_; clear m10_ HR13; have HR13 := m13_; clear m13_ HR29; have HR29 := m29_; clear m29_ HR30; have HR30 := m30_; clear m30_; obtain ⟨uo_, hx_⟩ : ∃ u_, w903.cell? ⟨go5, x5_1.toNat * 31 + 3, none⟩ = some u_ := HD0.out.1.at_ x5_1.toNat 3 HJ5.out (by decide); have hf_ : w903.frozen? ⟨go5, x5_1.toNat * 31 + 3, none⟩ = false := HD0.out.1.fz _) | ((with_reducible refine gate_store (t := 3) (p := 40) rfl ?_); refine store_event (t := 3) (p := 40) (v := ?vo_w904) (w1 := (w903.setCell ⟨go5, x5_1.toNat * 31 + 3, none⟩ ?va_w904)) ?hg ?ho ?hn ?hr ?_; (case ho => rfl); (case hg => rfl); (case hn => rfl); (case hr => first | (go_simp; done) | (go_simp; rfl)); intro w904 hw; have n0_ : Aside0 (NodeT w904 w0.heap.size P0_ go5 l0 x5_1.toNat (.slice A9 (rd_T69 l0 x5_1).f4.f0.length d9) (.slice A10 (rd_T69 l0 x5_1).f4.f1.length d10) (.slice A13 (rd_T69 l0 x5_1).f7.length d13) (.slice A29 (rd_T69 l0 x5_1).f11.f0.length d29) (.slice A30 (rd_T69 l0 x5_1).f11.f1.length d30)) := ⟨(by rw [hw]; exact HD0.out.put 3 (by decide) _)⟩; have n1_ : Aside0 (Below w0.heap.size w0 w904) := ⟨(by rw [hw]; exact below_set HB.out GB5.out)⟩; have n2_ : Aside0 (Kept w w904 (fun k_ => P0_ k_)) := ⟨(by rw [hw]; exact Kept.setCell (p := ⟨go5, x5_1.toNat * 31 + 3, none⟩) HK.out (.inl GP5.out) _)⟩; have m9_ : Aside0 (RowT w904 w0.heap.size P0_ 3 1 (.slice A9 (rd_T69 l0 x5_1).f4.f0.length d9) (rd_T69 l0 x5_1).f4.f0.length) := ⟨z6_5⟩; have m10_ : Aside0 (RowT w904 w0.heap.size P0_ 29 2 (.slice A10 (rd_T69 l0 x5_1).f4.f1.length d10) (rd_T69 l0 x5_1).f4.f1.length) := ⟨z6_4⟩; have m13_ : Aside0 (RowT w904 w0.heap.size P0_ 3 1 (.slice A13 (rd_T69 l0 x5_1).f7.length d13) (rd_T69 l0 x5_1).f7.length) := ⟨z6_2⟩; have m29_ : Aside0 (RowT w904 w0.heap.size P0_ 3 1 (.slice A29 (rd_T69 l0 x5_1).f11.f0.length d29) (rd_T69 l0 x5_1).f11.f0.length) := ⟨z6_0⟩; have m30_ : Aside0 (RowT w904 w0.heap.size P0_ 29 2 (.slice A30 (rd_T69 l0 x5_1).f11.f1.length d30) (rd_T69 l0 x5_1).f11.f1.length) := ⟨z6_1⟩; clear HD0 HB HK hx_ hf_ hw uo_; have HD0 := n0_; have HB := n1_; have HK := n2_; clear n0_ n1_ n2_ HR9; have HR9 := m9_; clear m9_ HR10; have HR10 := m10_; clear m10_ HR13; have HR13 := m13_; clear m13_ HR29; have HR29 := m29_; clear m29_ HR30; have HR30 := m30_; clear m30_; obtain ⟨uo_, hx_⟩ : ∃ u_, w904.cell? ⟨go5, x5_1.toNat * 31 + 4, none⟩ = some u_ := HD0.out.1.at_ x5_1.toNat 4 HJ5.out (by decide); have hf_ : w904.frozen? ⟨go5, x5_1.toNat * 31 + 4, none⟩ = false := HD0.out.1.fz _) | ((with_reducible refine gate_store (t := 3) (p := 48) rfl ?_); refine store_event (t := 3) (p := 48) (v := ?vo_w905) (w1 := (w904.setCell ⟨go5, x5_1.toNat * 31 + 4, none⟩ ?va_w905)) ?hg ?ho ?hn ?hr ?_; (case ho => rfl); (case hg => rfl); (case hn => rfl); (case hr => first | (go_simp; done) | (go_simp; rfl)); intro w905 hw; have n0_ : Aside0 (NodeT w905 w0.heap.size P0_ go5 l0 x5_1.toNat (.slice A9 (rd_T69 l0 x5_1).f4.f0.length d9) (.slice A10 (rd_T69 l0 x5_1).f4.f1.length d10) (.slice A13 (rd_T69 l0 x5_1).f7.length d13) (.slice A29 (rd_T69 l0 x5_1).f11.f0.length d29) (.slice A30 (rd_T69 l0 x5_1).f11.f1.length d30)) := ⟨(by rw [hw]; exact HD0.out.put 4 (by decide) _)⟩; have n1_ : Aside0 (Below w0.heap.size w0 w905) := ⟨(by rw [hw]; exact below_set HB.out GB5.out)⟩; have n2_ : Aside0 (Kept w w905 (fun k_ => P0_ k_)) := ⟨(by rw [hw]; exact Kept.setCell (p := ⟨go5, x5_1.toNat * 31 + 4, none⟩) HK.out (.inl GP5.out) _)⟩; have m9_ : Aside0 (RowT w905 w0.heap.size P0_ 3 1 (.slice A9 (rd_T69 l0 x5_1).f4.f0.length d9) (rd_T69 l0 x5_1).f4.f0.length) := ⟨z6_5⟩; have m10_ : Aside0 (RowT w905 w0.heap.size P0_ 29 2 (.slice A10 (rd_T69 l0 x5_1).f4.f1.length d10) (rd_T69 l0 x5_1).f4.f1.length) := ⟨z6_4⟩; have m13_ : Aside0 (RowT w905 w0.heap.size P0_ 3 1 (.slice A13 (rd_T69 l0 x5_1).f7.length d13) (rd_T69 l0 x5_1).f7.length) := ⟨z6_2⟩; have m29_ : Aside0 (RowT w905 w0.heap.size P0_ 3 1 (.slice A29 (rd_T69 l0 x5_1).f11.f0.length d29) (rd_T69 l0 x5_1).f11.f0.length) := ⟨z6_0⟩; have m30_ : Aside0 (RowT w905 w0.heap.size P0_ 29 2 (.slice A30 (rd_T69 l0 x5_1).f11.f1.length d30) (rd_T69 l0 x5_1).f11.f1.length) := ⟨z6_1⟩; clear HD0 HB HK hx_ hf_ hw uo_; have HD0 := n0_; have HB := n1_; have HK := n2_; clear n0_ n1_ n2_ HR9; have HR9 := m9_; clear m9_ HR10; have HR10 := m10_; clear m10_ HR13; have HR13 := m13_; clear m13_ HR29; have HR29 := m29_; clear m29_ HR30; have HR30 := m30_; clear m30_; obtain ⟨uo_, hx_⟩ : ∃ u_, w905.cell? ⟨go5, x5_1.toNat * 31 + 5, none⟩ = some u_ := HD0.out.1.at_ x5_1.toNat 5 HJ5.out (by decide); have hf_ : w905.frozen? ⟨go5, x5_1.toNat * 31 + 5, none⟩ = false := HD0.out.1.fz _) | ((with_reducible refine gate_store (t := 3) (p := 56) rfl ?_); refine store_event (t := 3) (p := 56) (v := ?vo_w906) (w1 := (w905.setCell ⟨go5, x5_1.toNat * 31 + 5, none⟩ ?va_w906)) ?hg ?ho ?hn ?hr ?_; (case ho => rfl); (case hg => rfl); (case hn => rfl); (case hr => first | (go_simp; done) | (go_simp; rfl)); intro w906 hw; have n0_ : Aside0 (NodeT w906 w0.heap.size P0_ go5 l0 x5_1.toNat (.slice A9 (rd_T69 l0 x5_1).f4.f0.length d9) (.slice A10 (rd_T69 l0 x5_1).f4.f1.length d10) (.slice A13 (rd_T69 l0 x5_1).f7.length d13) (.slice A29 (rd_T69 l0 x5_1).f11.f0.length d29) (.slice A30 (rd_T69 l0 x5_1).f11.f1.length d30)) := ⟨(by rw [hw]; exact HD0.out.put 5 (by decide) _)⟩; have n1_ : Aside0 (Below w0.heap.size w0 w906) := ⟨(by rw [hw]; exact below_set HB.out GB5.out)⟩; have n2_ : Aside0 (Kept w w906 (fun k_ => P0_ k_)) := ⟨(by rw [hw]; exact Kept.setCell (p := ⟨go5, x5_1.toNat * 31 + 5, none⟩) HK.out (.inl GP5.out) _)⟩; have m9_ : Aside0 (RowT w906 w0.heap.size P0_ 3 1 (.slice A9 (rd_T69 l0 x5_1).f4.f0.length d9) (rd_T69 l0 x5_1).f4.f0.length) := ⟨z6_5⟩; have m10_ : Aside0 (RowT w906 w0.heap.size P0_ 29 2 (.slice A10 (rd_T69 l0 x5_1).f4.f1.length d10) (rd_T69 l0 x5_1).f4.f1.length) := ⟨z6_4⟩; have m13_ : Aside0 (RowT w906 w0.heap.size P0_ 3 1 (.slice A13 (rd_T69 l0 x5_1).f7.length d13) (rd_T69 l0 x5_1).f7.length) := ⟨z6_2⟩; have m29_ : Aside0 (RowT w906 w0.heap.size P0_ 3 1 (.slice A29 (rd_T69 l0 x5_1).f11.f0.length d29) (rd_T69 l0 x5_1).f11.f0.length) := ⟨z6_0⟩; have m30_ : Aside0 (RowT w906 w0.heap.size P0_ 29 2 (.slice A30 (rd_T69 l0 x5_1).f11.f1.length d30) (rd_T69 l0 x5_1).f11.f1.length) := ⟨z6_1⟩; clear HD0 HB HK hx_ hf_ hw uo_; have HD0 := n0_; have HB := n1_; have HK := n2_; clear n0_ n1_ n2_ HR9; have HR9 := m9_; clear m9_ HR10; have HR10 := m10_; clear m10_ HR13; have HR13 := m13_; clear m13_ HR29; have HR29 := m29_; clear m29_ HR30; have HR30 := m30_; clear m30_; obtain ⟨uo_, hx_⟩ : ∃ u_, w906.cell? ⟨go5, x5_1.toNat * 31 + 6, none⟩ = some u_ := HD0.out.1.at_ x5_1.toNat 6 HJ5.out (by decide); have hf_ : w906.frozen? ⟨go5, x5_1.toNat * 31 + 6, none⟩ = false := HD0.out.1.fz _) | ((with_reducible refine gate_store (t := 3) (p := 64) rfl ?_); refine store_event (t := 3) (p := 64) (v := ?vo_w907) (w1 := (w906.setCell ⟨go5, x5_1.toNat * 31 + 6, none⟩ ?va_w907)) ?hg ?ho ?hn ?hr ?_; (case ho => rfl); (case hg => rfl); (case hn => rfl); (case hr => first | (go_simp; done) | (go_simp; rfl)); intro w907 hw; have n0_ : Aside0 (NodeT w907 w0.heap.size P0_ go5 l0 x5_1.toNat (.slice A9 (rd_T69 l0 x5_1).f4.f0.length d9) (.slice A10 (rd_T69 l0 x5_1).f4.f1.length d10) (.slice A13 (rd_T69 l0 x5_1).f7.length d13) (.slice A29 (rd_T69 l0 x5_1).f11.f0.length d29) (.slice A30 (rd_T69 l0 x5_1).f11.f1.length d30)) := ⟨(by rw [hw]; exact HD0.out.put 6 (by decide) _)⟩; have n1_ : Aside0 (Below w0.heap.size w0 w907) := ⟨(by rw [hw]; exact below_set HB.out GB5.out)⟩; have n2_ : Aside0 (Kept w w907 (fun k_ => P0_ k_)) := ⟨(by rw [hw]; exact Kept.setCell (p := ⟨go5, x5_1.toNat * 31 + 6, none⟩) HK.out (.inl GP5.out) _)⟩; have m9_ : Aside0 (RowT w907 w0.heap.size P0_ 3 1 (.slice A9 (rd_T69 l0 x5_1).f4.f0.length d9) (rd_T69 l0 x5_1).f4.f0.length) := ⟨z6_5⟩; have m10_ : Aside0 (RowT w907 w0.heap.size P0_ 29 2 (.slice A10 (rd_T69 l0 x5_1).f4.f1.length d10) (rd_T69 l0 x5_1).f4.f1.length) := ⟨z6_4⟩; have m13_ : Aside0 (RowT w907 w0.heap.size P0_ 3 1 (.slice A13 (rd_T69 l0 x5_1).f7.length d13) (rd_T69 l0 x5_1).f7.length) := ⟨z6_2⟩; have m29_ : Aside0 (RowT w907 w0.heap.size P0_ 3 1 (.slice A29 (rd_T69 l0 x5_1).f11.f0.length d29) (rd_T69 l0 x5_1).f11.f0.length) := ⟨z6_0⟩; have m30_ : Aside0 (RowT w907 w0.heap.size P0_ 29 2 (.slice A30 (rd_T69 l0 x5_1).f11.f1.length d30) (rd_T69 l0 x5_1).f11.f1.length) := ⟨z6_1⟩; clear HD0 HB HK hx_ hf_ hw uo_; have HD0 := n0_; have HB := n1_; have HK := n2_; clear n0_ n1_ n2_ HR9; have HR9 := m9_; clear m9_ HR10; have HR10 := m10_; clear m10_ HR13; have HR13 := m13_; clear m13_ HR29; have HR29 := m29_; clear m29_ HR30; have HR30 := m30_; clear m30_; obtain ⟨uo_, hx_⟩ : ∃ u_, w907.cell? ⟨go5, x5_1.toNat * 31 + 7, none⟩ = some u_ := HD0.out.1.at_ x5_1.toNat 7 HJ5.out (by decide); have hf_ : w907.frozen? ⟨go5, x5_1.toNat * 31 + 7, none⟩ = false := HD0.out.1.fz _) | ((with_reducible refine gate_store (t := 3) (p := 72) rfl ?_); refine store_event (t := 3) (p := 72) (v := ?vo_w908) (w1 := (w907.setCell ⟨go5, x5_1.toNat * 31 + 7, none⟩ ?va_w908)) ?hg ?ho ?hn ?hr ?_; (case ho => rfl); (case hg => rfl); (case hn => rfl); (case hr => first | (go_simp; done) | (go_simp; rfl)); intro w908 hw; have n0_ : Aside0 (NodeT w908 w0.heap.size P0_ go5 l0 x5_1.toNat (.slice A9 (rd_T69 l0 x5_1).f4.f0.length d9) (.slice A10 (rd_T69 l0 x5_1).f4.f1.length d10) (.slice A13 (rd_T69 l0 x5_1).f7.length d13) (.slice A29 (rd_T69 l0 x5_1).f11.f0.length d29) (.slice A30 (rd_T69 l0 x5_1).f11.f1.length d30)) := ⟨(by rw [hw]; exact HD0.out.put 7 (by decide) _)⟩; have n1_ : Aside0 (Below w0.heap.size w0 w908) := ⟨(by rw [hw]; exact below_set HB.out GB5.out)⟩; have n2_ : Aside0 (Kept w w908 (fun k_ => P0_ k_)) := ⟨(by rw [hw]; exact Kept.setCell (p := ⟨go5, x5_1.toNat * 31 + 7, none⟩) HK.out (.inl GP5.out) _)⟩; have m9_ : Aside0 (RowT w908 w0.heap.size P0_ 3 1 (.slice A9 (rd_T69 l0 x5_1).f4.f0.length d9) (rd_T69 l0 x5_1).f4.f0.length) := ⟨z6_5⟩; have m10_ : Aside0 (RowT w908 w0.heap.size P0_ 29 2 (.slice A10 (rd_T69 l0 x5_1).f4.f1.length d10) (rd_T69 l0 x5_1).f4.f1.length) := ⟨z6_4⟩; have m13_ : Aside0 (RowT w908 w0.heap.size P0_ 3 1 (.slice A13 (rd_T69 l0 x5_1).f7.length d13) (rd_T69 l0 x5_1).f7.length) := ⟨z6_2⟩; have m29_ : Aside0 (RowT w908 w0.heap.size P0_ 3 1 (.slice A29 (rd_T69 l0 x5_1).f11.f0.length d29) (rd_T69 l0 x5_1).f11.f0.length) := ⟨z6_0⟩; have m30_ : Aside0 (RowT w908 w0.heap.size P0_ 29 2 (.slice A30 (rd_T69 l0 x5_1).f11.f1.length d30) (rd_T69 l0 x5_1).f11.f1.length) := ⟨z6_1⟩; clear HD0 HB HK hx_ hf_ hw uo_; have HD0 := n0_; have HB := n1_; have HK := n2_; clear n0_ n1_ n2_ HR9; have HR9 := m9_; clear m9_ HR10; have HR10 := m10_; clear m10_ HR13; have HR13 := m13_; clear m13_ HR29; have HR29 := m29_; clear m29_ HR30; have HR30 := m30_; clear m30_; obtain ⟨uo_, hx_⟩ : ∃ u_, w908.cell? ⟨go5, x5_1.toNat * 31 + 8, none⟩ = some u_ := HD0.out.1.at_ x5_1.toNat 8 HJ5.out (by decide); have hf_ : w908.frozen? ⟨go5, x5_1.toNat * 31 + 8, none⟩ = false := HD0.out.1.fz _) | ((with_reducible refine gate_store (t := 3) (p := 80) rfl ?_); refine store_event (t := 3) (p := 80) (v := ?vo_w909) (w1 := (w908.setCell ⟨go5, x5_1.toNat * 31 + 8, none⟩ ?va_w909)) ?hg ?ho ?hn ?hr ?_; (case ho => rfl); (case hg => rfl); (case hn => rfl); (case hr => first | (go_simp; done) | (go_simp; rfl)); intro w909 hw; have n0_ : Aside0 (NodeT w909 w0.heap.size P0_ go5 l0 x5_1.toNat (.slice A9 (rd_T69 l0 x5_1).f4.f0.length d9) (.slice A10 (rd_T69 l0 x5_1).f4.f1.length d10) (.slice A13 (rd_T69 l0 x5_1).f7.length d13) (.slice A29 (rd_T69 l0 x5_1).f11.f0.length d29) (.slice A30 (rd_T69 l0 x5_1).f11.f1.length d30)) := ⟨(by rw [hw]; exact HD0.out.put 8 (by decide) _)⟩; have n1_ : Aside0 (Below w0.heap.size w0 w909) := ⟨(by rw [hw]; exact below_set HB.out GB5.out)⟩; have n2_ : Aside0 (Kept w w909 (fun k_ => P0_ k_)) := ⟨(by rw [hw]; exact Kept.setCell (p := ⟨go5, x5_1.toNat * 31 + 8, none⟩) HK.out (.inl GP5.out) _)⟩; have m9_ : Aside0 (RowT w909 w0.heap.size P0_ 3 1 (.slice A9 (rd_T69 l0 x5_1).f4.f0.length d9) (rd_T69 l0 x5_1).f4.f0.length) := ⟨z6_5⟩; have m10_ : Aside0 (RowT w909 w0.heap.size P0_ 29 2 (.slice A10 (rd_T69 l0 x5_1).f4.f1.length d10) (rd_T69 l0 x5_1).f4.f1.length) := ⟨z6_4⟩; have m13_ : Aside0 (RowT w909 w0.heap.size P0_ 3 1 (.slice A13 (rd_T69 l0 x5_1).f7.length d13) (rd_T69 l0 x5_1).f7.length) := ⟨z6_2⟩; have m29_ : Aside0 (RowT w909 w0.heap.size P0_ 3 1 (.slice A29 (rd_T69 l0 x5_1).f11.f0.length d29) (rd_T69 l0 x5_1).f11.f0.length) := ⟨z6_0⟩; have m30_ : Aside0 (RowT w909 w0.heap.size P0_ 29 2 (.slice A30 (rd_T69 l0 x5_1).f11.f1.length d30) (rd_T69 l0 x5_1).f11.f1.length) := ⟨z6_1⟩; clear HD0 HB HK hx_ hf_ hw uo_; have HD0 := n0_; have HB := n1_; have HK := n2_; clear n0_ n1_ n2_ HR9; have HR9 := m9_; clear m9_ HR10; have HR10 := m10_; clear m10_ HR13; have HR13 := m13_; clear m13_ HR29; have HR29 := m29_; clear m29_ HR30; have HR30 := m30_; clear m30_; have hx_ : w909.cell? ⟨go5, x5_1.toNat * 31 + 9, none⟩ = some (.slice A9 (rd_T69 l0 x5_1).f4.f0.length d9) := HD0.out.2.1; have hf_ : w909.frozen? ⟨go5, x5_1.toNat * 31 + 9, none⟩ = false := HD0.out.1.fz _) | ((with_reducible refine gate_callee (f := 26) rfl ?_); refine goesL_ (some 90) rfl rfl Try.func26 (by kernel_rfl) rfl #[.slice A9 (rd_T69 l0 x5_1).f4.f0.length d9, .int .i64 (wrap64 ((wrap64 ((wrap64 ((wrap64 ((wrap64 ((wrap64 ((wrap64 ((wrap64 ((wrap64 (x1_1 + 1)) + 1)) + 1)) + 1)) + 1)) + 1)) + 1)) + 1)) + 1))] rfl z6_6 ?_; (with_reducible refine (markInt_w k1 P0_ _ _ _ t0_ s0_ w0 _ ?side1 ?side2 A0.out).mono ?_); (case side1 => exact HB.out); (case side2 => exact HR9.out); rintro e w910 ⟨rfl, hb, hkp, hin⟩; refine ⟨_, rfl, ?_⟩; have n0_ : Aside0 (NodeT w910 w0.heap.size P0_ go5 l0 x5_1.toNat (.slice A9 (rd_T69 l0 x5_1).f4.f0.length d9) (.slice A10 (rd_T69 l0 x5_1).f4.f1.length d10) (.slice A13 (rd_T69 l0 x5_1).f7.length d13) (.slice A29 (rd_T69 l0 x5_1).f11.f0.length d29) (.slice A30 (rd_T69 l0 x5_1).f11.f1.length d30)) := ⟨HD0.out.call (HD0.out.1.kept (by decide) hkp) hin⟩; have n1_ : Aside0 (Below w0.heap.size w0 w910) := ⟨hb⟩; have n2_ : Aside0 (Kept w w910 (fun k_ => P0_ k_)) := ⟨Kept.then_ HK.out hkp (fun k_ hs_ => .inl hs_.2.1)⟩; have m10_ := mk0 (HR10.out.mono hin); have m13_ := mk0 (HR13.out.mono hin); have m29_ := mk0 (HR29.out.mono hin); have m30_ := mk0 (HR30.out.mono hin); clear HD0 HB HK hx_ hf_ hb hkp hin; have HD0 := n0_; have HB := n1_; have HK := n2_; clear n0_ n1_ n2_ HR10; have HR10 := m10_; clear m10_ HR13; have HR13 := m13_; clear m13_ HR29; have HR29 := m29_; clear m29_ HR30; have HR30 := m30_; clear m30_; have hx_ : w910.cell? ⟨go5, x5_1.toNat * 31 + 10, none⟩ = some (.slice A10 (rd_T69 l0 x5_1).f4.f1.length d10) := HD0.out.2.2.1; have hf_ : w910.frozen? ⟨go5, x5_1.toNat * 31 + 10, none⟩ = false := HD0.out.1.fz _) | ((with_reducible refine gate_callee (f := 25) rfl ?_); refine goesL_ (some 98) rfl rfl Try.func25 (by kernel_rfl) rfl #[.slice A10 (rd_T69 l0 x5_1).f4.f1.length d10, .int .i64 t0_] rfl z6_6 ?_; (with_reducible refine (markPt_w k1 P0_ _ _ _ t1_ s1_ w0 _ ?side1 ?side2 A1.out).mono ?_); (case side1 => exact HB.out); (case side2 => exact HR10.out); rintro e w911 ⟨rfl, hb, hkp, hin⟩; refine ⟨_, rfl, ?_⟩; have n0_ : Aside0 (NodeT w911 w0.heap.size P0_ go5 l0 x5_1.toNat (.slice A9 (rd_T69 l0 x5_1).f4.f0.length d9) (.slice A10 (rd_T69 l0 x5_1).f4.f1.length d10) (.slice A13 (rd_T69 l0 x5_1).f7.length d13) (.slice A29 (rd_T69 l0 x5_1).f11.f0.length d29) (.slice A30 (rd_T69 l0 x5_1).f11.f1.length d30)) := ⟨HD0.out.call (HD0.out.1.kept (by decide) hkp) hin⟩; have n1_ : Aside0 (Below w0.heap.size w0 w911) := ⟨hb⟩; have n2_ : Aside0 (Kept w w911 (fun k_ => P0_ k_)) := ⟨Kept.then_ HK.out hkp (fun k_ hs_ => .inl hs_.2.1)⟩; have m13_ := mk0 (HR13.out.mono hin); have m29_ := mk0 (HR29.out.mono hin); have m30_ := mk0 (HR30.out.mono hin); clear HD0 HB HK hx_ hf_ hb hkp hin; have HD0 := n0_; have HB := n1_; have HK := n2_; clear n0_ n1_ n2_ HR13; have HR13 := m13_; clear m13_ HR29; have HR29 := m29_; clear m29_ HR30; have HR30 := m30_; clear m30_; obtain ⟨uo_, hx_⟩ : ∃ u_, w911.cell? ⟨go5, x5_1.toNat * 31 + 11, none⟩ = some u_ := HD0.out.1.at_ x5_1.toNat 11 HJ5.out (by decide); have hf_ : w911.frozen? ⟨go5, x5_1.toNat * 31 + 11, none⟩ = false := HD0.out.1.fz _) | ((with_reducible refine gate_store (t := 4) (p := 105) rfl ?_); refine store_event (t := 4) (p := 105) (v := ?vo_w912) (w1 := (w911.setCell ⟨go5, x5_1.toNat * 31 + 11, none⟩ ?va_w912)) ?hg ?ho ?hn ?hr ?_; (case ho => rfl); (case hg => rfl); (case hn => rfl); (case hr => first | (go_simp; done) | (go_simp; rfl)); intro w912 hw; have n0_ : Aside0 (NodeT w912 w0.heap.size P0_ go5 l0 x5_1.toNat (.slice A9 (rd_T69 l0 x5_1).f4.f0.length d9) (.slice A10 (rd_T69 l0 x5_1).f4.f1.length d10) (.slice A13 (rd_T69 l0 x5_1).f7.length d13) (.slice A29 (rd_T69 l0 x5_1).f11.f0.length d29) (.slice A30 (rd_T69 l0 x5_1).f11.f1.length d30)) := ⟨(by rw [hw]; exact HD0.out.put 11 (by decide) _)⟩; have n1_ : Aside0 (Below w0.heap.size w0 w912) := ⟨(by rw [hw]; exact below_set HB.out GB5.out)⟩; have n2_ : Aside0 (Kept w w912 (fun k_ => P0_ k_)) := ⟨(by rw [hw]; exact Kept.setCell (p := ⟨go5, x5_1.toNat * 31 + 11, none⟩) HK.out (.inl GP5.out) _)⟩; have m13_ : Aside0 (RowT w912 w0.heap.size P0_ 3 1 (.slice A13 (rd_T69 l0 x5_1).f7.length d13) (rd_T69 l0 x5_1).f7.length) := ⟨z6_2⟩; have m29_ : Aside0 (RowT w912 w0.heap.size P0_ 3 1 (.slice A29 (rd_T69 l0 x5_1).f11.f0.length d29) (rd_T69 l0 x5_1).f11.f0.length) := ⟨z6_0⟩; have m30_ : Aside0 (RowT w912 w0.heap.size P0_ 29 2 (.slice A30 (rd_T69 l0 x5_1).f11.f1.length d30) (rd_T69 l0 x5_1).f11.f1.length) := ⟨z6_1⟩; clear HD0 HB HK hx_ hf_ hw uo_; have HD0 := n0_; have HB := n1_; have HK := n2_; clear n0_ n1_ n2_ HR13; have HR13 := m13_; clear m13_ HR29; have HR29 := m29_; clear m29_ HR30; have HR30 := m30_; clear m30_; obtain ⟨uo_, hx_⟩ : ∃ u_, w912.cell? ⟨go5, x5_1.toNat * 31 + 12, none⟩ = some u_ := HD0.out.1.at_ x5_1.toNat 12 HJ5.out (by decide); have hf_ : w912.frozen? ⟨go5, x5_1.toNat * 31 + 12, none⟩ = false := HD0.out.1.fz _) | ((with_reducible refine gate_store (t := 3) (p := 112) rfl ?_); refine store_event (t := 3) (p := 112) (v := ?vo_w913) (w1 := (w912.setCell ⟨go5, x5_1.toNat * 31 + 12, none⟩ ?va_w913)) ?hg ?ho ?hn ?hr ?_; (case ho => rfl); (case hg => rfl); (case hn => rfl); (case hr => first | (go_simp; done) | (go_simp; rfl)); intro w913 hw; have n0_ : Aside0 (NodeT w913 w0.heap.size P0_ go5 l0 x5_1.toNat (.slice A9 (rd_T69 l0 x5_1).f4.f0.length d9) (.slice A10 (rd_T69 l0 x5_1).f4.f1.length d10) (.slice A13 (rd_T69 l0 x5_1).f7.length d13) (.slice A29 (rd_T69 l0 x5_1).f11.f0.length d29) (.slice A30 (rd_T69 l0 x5_1).f11.f1.length d30)) := ⟨(by rw [hw]; exact HD0.out.put 12 (by decide) _)⟩; have n1_ : Aside0 (Below w0.heap.size w0 w913) := ⟨(by rw [hw]; exact below_set HB.out GB5.out)⟩; have n2_ : Aside0 (Kept w w913 (fun k_ => P0_ k_)) := ⟨(by rw [hw]; exact Kept.setCell (p := ⟨go5, x5_1.toNat * 31 + 12, none⟩) HK.out (.inl GP5.out) _)⟩; have m13_ : Aside0 (RowT w913 w0.heap.size P0_ 3 1 (.slice A13 (rd_T69 l0 x5_1).f7.length d13) (rd_T69 l0 x5_1).f7.length) := ⟨z6_2⟩; have m29_ : Aside0 (RowT w913 w0.heap.size P0_ 3 1 (.slice A29 (rd_T69 l0 x5_1).f11.f0.length d29) (rd_T69 l0 x5_1).f11.f0.length) := ⟨z6_0⟩; have m30_ : Aside0 (RowT w913 w0.heap.size P0_ 29 2 (.slice A30 (rd_T69 l0 x5_1).f11.f1.length d30) (rd_T69 l0 x5_1).f11.f1.length) := ⟨z6_1⟩; clear HD0 HB HK hx_ hf_ hw uo_; have HD0 := n0_; have HB := n1_; have HK := n2_; clear n0_ n1_ n2_ HR13; have HR13 := m13_; clear m13_ HR29; have HR29 := m29_; clear m29_ HR30; have HR30 := m30_; clear m30_; have hx_ : w913.cell? ⟨go5, x5_1.toNat * 31 + 13, none⟩ = some (.slice A13 (rd_T69 l0 x5_1).f7.length d13) := HD0.out.2.2.2.1; have hf_ : w913.frozen? ⟨go5, x5_1.toNat * 31 + 13, none⟩ = false := HD0.out.1.fz _) | ((with_reducible refine gate_callee (f := 26) rfl ?_); refine goesL_ (some 121) rfl rfl Try.func26 (by kernel_rfl) rfl #[.slice A13 (rd_T69 l0 x5_1).f7.length d13, .int .i64 (wrap64 ((wrap64 (t1_ + 1)) + 1))] rfl z6_6 ?_; (with_reducible refine (markInt_w k1 P0_ _ _ _ t2_ s2_ w0 _ ?side1 ?side2 A2.out).mono ?_); (case side1 => exact HB.out); (case side2 => exact HR13.out); rintro e w914 ⟨rfl, hb, hkp, hin⟩; refine ⟨_, rfl, ?_⟩; have n0_ : Aside0 (NodeT w914 w0.heap.size P0_ go5 l0 x5_1.toNat (.slice A9 (rd_T69 l0 x5_1).f4.f0.length d9) (.slice A10 (rd_T69 l0 x5_1).f4.f1.length d10) (.slice A13 (rd_T69 l0 x5_1).f7.length d13) (.slice A29 (rd_T69 l0 x5_1).f11.f0.length d29) (.slice A30 (rd_T69 l0 x5_1).f11.f1.length d30)) := ⟨HD0.out.call (HD0.out.1.kept (by decide) hkp) hin⟩; have n1_ : Aside0 (Below w0.heap.size w0 w914) := ⟨hb⟩; have n2_ : Aside0 (Kept w w914 (fun k_ => P0_ k_)) := ⟨Kept.then_ HK.out hkp (fun k_ hs_ => .inl hs_.2.1)⟩; have m29_ := mk0 (HR29.out.mono hin); have m30_ := mk0 (HR30.out.mono hin); clear HD0 HB HK hx_ hf_ hb hkp hin; have HD0 := n0_; have HB := n1_; have HK := n2_; clear n0_ n1_ n2_ HR29; have HR29 := m29_; clear m29_ HR30; have HR30 := m30_; clear m30_; obtain ⟨uo_, hx_⟩ : ∃ u_, w914.cell? ⟨go5, x5_1.toNat * 31 + 14, none⟩ = some u_ := HD0.out.1.at_ x5_1.toNat 14 HJ5.out (by decide); have hf_ : w914.frozen? ⟨go5, x5_1.toNat * 31 + 14, none⟩ = false := HD0.out.1.fz _) | ((with_reducible refine gate_store (t := 3) (p := 127) rfl ?_); refine store_event (t := 3) (p := 127) (v := ?vo_w915) (w1 := (w914.setCell ⟨go5, x5_1.toNat * 31 + 14, none⟩ ?va_w915)) ?hg ?ho ?hn ?hr ?_; (case ho => rfl); (case hg => rfl); (case hn => rfl); (case hr => first | (go_simp; done) | (go_simp; rfl)); intro w915 hw; have n0_ : Aside0 (NodeT w915 w0.heap.size P0_ go5 l0 x5_1.toNat (.slice A9 (rd_T69 l0 x5_1).f4.f0.length d9) (.slice A10 (rd_T69 l0 x5_1).f4.f1.length d10) (.slice A13 (rd_T69 l0 x5_1).f7.length d13) (.slice A29 (rd_T69 l0 x5_1).f11.f0.length d29) (.slice A30 (rd_T69 l0 x5_1).f11.f1.length d30)) := ⟨(by rw [hw]; exact HD0.out.put 14 (by decide) _)⟩; have n1_ : Aside0 (Below w0.heap.size w0 w915) := ⟨(by rw [hw]; exact below_set HB.out GB5.out)⟩; have n2_ : Aside0 (Kept w w915 (fun k_ => P0_ k_)) := ⟨(by rw [hw]; exact Kept.setCell (p := ⟨go5, x5_1.toNat * 31 + 14, none⟩) HK.out (.inl GP5.out) _)⟩; have m29_ : Aside0 (RowT w915 w0.heap.size P0_ 3 1 (.slice A29 (rd_T69 l0 x5_1).f11.f0.length d29) (rd_T69 l0 x5_1).f11.f0.length) := ⟨z6_0⟩; have m30_ : Aside0 (RowT w915 w0.heap.size P0_ 29 2 (.slice A30 (rd_T69 l0 x5_1).f11.f1.length d30) (rd_T69 l0 x5_1).f11.f1.length) := ⟨z6_1⟩; clear HD0 HB HK hx_ hf_ hw uo_; have HD0 := n0_; have HB := n1_; have HK := n2_; clear n0_ n1_ n2_ HR29; have HR29 := m29_; clear m29_ HR30; have HR30 := m30_; clear m30_; obtain ⟨uo_, hx_⟩ : ∃ u_, w915.cell? ⟨go5, x5_1.toNat * 31 + 15, none⟩ = some u_ := HD0.out.1.at_ x5_1.toNat 15 HJ5.out (by decide); have hf_ : w915.frozen? ⟨go5, x5_1.toNat * 31 + 15, none⟩ = false := HD0.out.1.fz _) | ((with_reducible refine gate_store (t := 3) (p := 136) rfl ?_); refine store_event (t := 3) (p := 136) (v := ?vo_w916) (w1 := (w915.setCell ⟨go5, x5_1.toNat * 31 + 15, none⟩ ?va_w916)) ?hg ?ho ?hn ?hr ?_; (case ho => rfl); (case hg => rfl); (case hn => rfl); (case hr => first | (go_simp; done) | (go_simp; rfl)); intro w916 hw; have n0_ : Aside0 (NodeT w916 w0.heap.size P0_ go5 l0 x5_1.toNat (.slice A9 (rd_T69 l0 x5_1).f4.f0.length d9) (.slice A10 (rd_T69 l0 x5_1).f4.f1.length d10) (.slice A13 (rd_T69 l0 x5_1).f7.length d13) (.slice A29 (rd_T69 l0 x5_1).f11.f0.length d29) (.slice A30 (rd_T69 l0 x5_1).f11.f1.length d30)) := ⟨(by rw [hw]; exact HD0.out.put 15 (by decide) _)⟩; have n1_ : Aside0 (Below w0.heap.size w0 w916) := ⟨(by rw [hw]; exact below_set HB.out GB5.out)⟩; have n2_ : Aside0 (Kept w w916 (fun k_ => P0_ k_)) := ⟨(by rw [hw]; exact Kept.setCell (p := ⟨go5, x5_1.toNat * 31 + 15, none⟩) HK.out (.inl GP5.out) _)⟩; have m29_ : Aside0 (RowT w916 w0.heap.size P0_ 3 1 (.slice A29 (rd_T69 l0 x5_1).f11.f0.length d29) (rd_T69 l0 x5_1).f11.f0.length) := ⟨z6_0⟩; have m30_ : Aside0 (RowT w916 w0.heap.size P0_ 29 2 (.slice A30 (rd_T69 l0 x5_1).f11.f1.length d30) (rd_T69 l0 x5_1).f11.f1.length) := ⟨z6_1⟩; clear HD0 HB HK hx_ hf_ hw uo_; have HD0 := n0_; have HB := n1_; have HK := n2_; clear n0_ n1_ n2_ HR29; have HR29 := m29_; clear m29_ HR30; have HR30 := m30_; clear m30_; obtain ⟨uo_, hx_⟩ : ∃ u_, w916.cell? ⟨go5, x5_1.toNat * 31 + 16, none⟩ = some u_ := HD0.out.1.at_ x5_1.toNat 16 HJ5.out (by decide); have hf_ : w916.frozen? ⟨go5, x5_1.toNat * 31 + 16, none⟩ = false := HD0.out.1.fz _) | ((with_reducible refine gate_store (t := 3) (p := 145) rfl ?_); refine store_event (t := 3) (p := 145) (v := ?vo_w917) (w1 := (w916.setCell ⟨go5, x5_1.toNat * 31 + 16, none⟩ ?va_w917)) ?hg ?ho ?hn ?hr ?_; (case ho => rfl); (case hg => rfl); (case hn => rfl); (case hr => first | (go_simp; done) | (go_simp; rfl)); intro w917 hw; have n0_ : Aside0 (NodeT w917 w0.heap.size P0_ go5 l0 x5_1.toNat (.slice A9 (rd_T69 l0 x5_1).f4.f0.length d9) (.slice A10 (rd_T69 l0 x5_1).f4.f1.length d10) (.slice A13 (rd_T69 l0 x5_1).f7.length d13) (.slice A29 (rd_T69 l0 x5_1).f11.f0.length d29) (.slice A30 (rd_T69 l0 x5_1).f11.f1.length d30)) := ⟨(by rw [hw]; exact HD0.out.put 16 (by decide) _)⟩; have n1_ : Aside0 (Below w0.heap.size w0 w917) := ⟨(by rw [hw]; exact below_set HB.out GB5.out)⟩; have n2_ : Aside0 (Kept w w917 (fun k_ => P0_ k_)) := ⟨(by rw [hw]; exact Kept.setCell (p := ⟨go5, x5_1.toNat * 31 + 16, none⟩) HK.out (.inl GP5.out) _)⟩; have m29_ : Aside0 (RowT w917 w0.heap.size P0_ 3 1 (.slice A29 (rd_T69 l0 x5_1).f11.f0.length d29) (rd_T69 l0 x5_1).f11.f0.length) := ⟨z6_0⟩; have m30_ : Aside0 (RowT w917 w0.heap.size P0_ 29 2 (.slice A30 (rd_T69 l0 x5_1).f11.f1.length d30) (rd_T69 l0 x5_1).f11.f1.length) := ⟨z6_1⟩; clear HD0 HB HK hx_ hf_ hw uo_; have HD0 := n0_; have HB := n1_; have HK := n2_; clear n0_ n1_ n2_ HR29; have HR29 := m29_; clear m29_ HR30; have HR30 := m30_; clear m30_; obtain ⟨uo_, hx_⟩ : ∃ u_, w917.cell? ⟨go5, x5_1.toNat * 31 + 17, none⟩ = some u_ := HD0.out.1.at_ x5_1.toNat 17 HJ5.out (by decide); have hf_ : w917.frozen? ⟨go5, x5_1.toNat * 31 + 17, none⟩ = false := HD0.out.1.fz _) | ((with_reducible refine gate_store (t := 3) (p := 154) rfl ?_); refine store_event (t := 3) (p := 154) (v := ?vo_w918) (w1 := (w917.setCell ⟨go5, x5_1.toNat * 31 + 17, none⟩ ?va_w918)) ?hg ?ho ?hn ?hr ?_; (case ho => rfl); (case hg => rfl); (case hn => rfl); (case hr => first | (go_simp; done) | (go_simp; rfl)); intro w918 hw; have n0_ : Aside0 (NodeT w918 w0.heap.size P0_ go5 l0 x5_1.toNat (.slice A9 (rd_T69 l0 x5_1).f4.f0.length d9) (.slice A10 (rd_T69 l0 x5_1).f4.f1.length d10) (.slice A13 (rd_T69 l0 x5_1).f7.length d13) (.slice A29 (rd_T69 l0 x5_1).f11.f0.length d29) (.slice A30 (rd_T69 l0 x5_1).f11.f1.length d30)) := ⟨(by rw [hw]; exact HD0.out.put 17 (by decide) _)⟩; have n1_ : Aside0 (Below w0.heap.size w0 w918) := ⟨(by rw [hw]; exact below_set HB.out GB5.out)⟩; have n2_ : Aside0 (Kept w w918 (fun k_ => P0_ k_)) := ⟨(by rw [hw]; exact Kept.setCell (p := ⟨go5, x5_1.toNat * 31 + 17, none⟩) HK.out (.inl GP5.out) _)⟩; have m29_ : Aside0 (RowT w918 w0.heap.size P0_ 3 1 (.slice A29 (rd_T69 l0 x5_1).f11.f0.length d29) (rd_T69 l0 x5_1).f11.f0.length) := ⟨z6_0⟩; have m30_ : Aside0 (RowT w918 w0.heap.size P0_ 29 2 (.slice A30 (rd_T69 l0 x5_1).f11.f1.length d30) (rd_T69 l0 x5_1).f11.f1.length) := ⟨z6_1⟩; clear HD0 HB HK hx_ hf_ hw uo_; have HD0 := n0_; have HB := n1_; have HK := n2_; clear n0_ n1_ n2_ HR29; have HR29 := m29_; clear m29_ HR30; have HR30 := m30_; clear m30_; obtain ⟨uo_, hx_⟩ : ∃ u_, w918.cell? ⟨go5, x5_1.toNat * 31 + 18, none⟩ = some u_ := HD0.out.1.at_ x5_1.toNat 18 HJ5.out (by decide); have hf_ : w918.frozen? ⟨go5, x5_1.toNat * 31 + 18, none⟩ = false := HD0.out.1.fz _) | ((with_reducible refine gate_store (t := 3) (p := 163) rfl ?_); refine store_event (t := 3) (p := 163) (v := ?vo_w919) (w1 := (w918.setCell ⟨go5, x5_1.toNat * 31 + 18, none⟩ ?va_w919)) ?hg ?ho ?hn ?hr ?_; (case ho => rfl); (case hg => rfl); (case hn => rfl); (case hr => first | (go_simp; done) | (go_simp; rfl)); intro w919 hw; have n0_ : Aside0 (NodeT w919 w0.heap.size P0_ go5 l0 x5_1.toNat (.slice A9 (rd_T69 l0 x5_1).f4.f0.length d9) (.slice A10 (rd_T69 l0 x5_1).f4.f1.length d10) (.slice A13 (rd_T69 l0 x5_1).f7.length d13) (.slice A29 (rd_T69 l0 x5_1).f11.f0.length d29) (.slice A30 (rd_T69 l0 x5_1).f11.f1.length d30)) := ⟨(by rw [hw]; exact HD0.out.put 18 (by decide) _)⟩; have n1_ : Aside0 (Below w0.heap.size w0 w919) := ⟨(by rw [hw]; exact below_set HB.out GB5.out)⟩; have n2_ : Aside0 (Kept w w919 (fun k_ => P0_ k_)) := ⟨(by rw [hw]; exact Kept.setCell (p := ⟨go5, x5_1.toNat * 31 + 18, none⟩) HK.out (.inl GP5.out) _)⟩; have m29_ : Aside0 (RowT w919 w0.heap.size P0_ 3 1 (.slice A29 (rd_T69 l0 x5_1).f11.f0.length d29) (rd_T69 l0 x5_1).f11.f0.length) := ⟨z6_0⟩; have m30_ : Aside0 (RowT w919 w0.heap.size P0_ 29 2 (.slice A30 (rd_T69 l0 x5_1).f11.f1.length d30) (rd_T69 l0 x5_1).f11.f1.length) := ⟨z6_1⟩; clear HD0 HB HK hx_ hf_ hw uo_; have HD0 := n0_; have HB := n1_; have HK := n2_; clear n0_ n1_ n2_ HR29; have HR29 := m29_; clear m29_ HR30; have HR30 := m30_; clear m30_; obtain ⟨uo_, hx_⟩ : ∃ u_, w919.cell? ⟨go5, x5_1.toNat * 31 + 19, none⟩ = some u_ := HD0.out.1.at_ x5_1.toNat 19 HJ5.out (by decide); have hf_ : w919.frozen? ⟨go5, x5_1.toNat * 31 + 19, none⟩ = false := HD0.out.1.fz _) | ((with_reducible refine gate_store (t := 3) (p := 172) rfl ?_); refine store_event (t := 3) (p := 172) (v := ?vo_w920) (w1 := (w919.setCell ⟨go5, x5_1.toNat * 31 + 19, none⟩ ?va_w920)) ?hg ?ho ?hn ?hr ?_; (case ho => rfl); (case hg => rfl); (case hn => rfl); (case hr => first | (go_simp; done) | (go_simp; rfl)); intro w920 hw; have n0_ : Aside0 (NodeT w920 w0.heap.size P0_ go5 l0 x5_1.toNat (.slice A9 (rd_T69 l0 x5_1).f4.f0.length d9) (.slice A10 (rd_T69 l0 x5_1).f4.f1.length d10) (.slice A13 (rd_T69 l0 x5_1).f7.length d13) (.slice A29 (rd_T69 l0 x5_1).f11.f0.length d29) (.slice A30 (rd_T69 l0 x5_1).f11.f1.length d30)) := ⟨(by rw [hw]; exact HD0.out.put 19 (by decide) _)⟩; have n1_ : Aside0 (Below w0.heap.size w0 w920) := ⟨(by rw [hw]; exact below_set HB.out GB5.out)⟩; have n2_ : Aside0 (Kept w w920 (fun k_ => P0_ k_)) := ⟨(by rw [hw]; exact Kept.setCell (p := ⟨go5, x5_1.toNat * 31 + 19, none⟩) HK.out (.inl GP5.out) _)⟩; have m29_ : Aside0 (RowT w920 w0.heap.size P0_ 3 1 (.slice A29 (rd_T69 l0 x5_1).f11.f0.length d29) (rd_T69 l0 x5_1).f11.f0.length) := ⟨z6_0⟩; have m30_ : Aside0 (RowT w920 w0.heap.size P0_ 29 2 (.slice A30 (rd_T69 l0 x5_1).f11.f1.length d30) (rd_T69 l0 x5_1).f11.f1.length) := ⟨z6_1⟩; clear HD0 HB HK hx_ hf_ hw uo_; have HD0 := n0_; have HB := n1_; have HK := n2_; clear n0_ n1_ n2_ HR29; have HR29 := m29_; clear m29_ HR30; have HR30 := m30_; clear m30_; obtain ⟨uo_, hx_⟩ : ∃ u_, w920.cell? ⟨go5, x5_1.toNat * 31 + 20, none⟩ = some u_ := HD0.out.1.at_ x5_1.toNat 20 HJ5.out (by decide); have hf_ : w920.frozen? ⟨go5, x5_1.toNat * 31 + 20, none⟩ = false := HD0.out.1.fz _) | ((with_reducible refine gate_store (t := 3) (p := 181) rfl ?_); refine store_event (t := 3) (p := 181) (v := ?vo_w921) (w1 := (w920.setCell ⟨go5, x5_1.toNat * 31 + 20, none⟩ ?va_w921)) ?hg ?ho ?hn ?hr ?_; (case ho => rfl); (case hg => rfl); (case hn => rfl); (case hr => first | (go_simp; done) | (go_simp; rfl)); intro w921 hw; have n0_ : Aside0 (NodeT w921 w0.heap.size P0_ go5 l0 x5_1.toNat (.slice A9 (rd_T69 l0 x5_1).f4.f0.length d9) (.slice A10 (rd_T69 l0 x5_1).f4.f1.length d10) (.slice A13 (rd_T69 l0 x5_1).f7.length d13) (.slice A29 (rd_T69 l0 x5_1).f11.f0.length d29) (.slice A30 (rd_T69 l0 x5_1).f11.f1.length d30)) := ⟨(by rw [hw]; exact HD0.out.put 20 (by decide) _)⟩; have n1_ : Aside0 (Below w0.heap.size w0 w921) := ⟨(by rw [hw]; exact below_set HB.out GB5.out)⟩; have n2_ : Aside0 (Kept w w921 (fun k_ => P0_ k_)) := ⟨(by rw [hw]; exact Kept.setCell (p := ⟨go5, x5_1.toNat * 31 + 20, none⟩) HK.out (.inl GP5.out) _)⟩; have m29_ : Aside0 (RowT w921 w0.heap.size P0_ 3 1 (.slice A29 (rd_T69 l0 x5_1).f11.f0.length d29) (rd_T69 l0 x5_1).f11.f0.length) := ⟨z6_0⟩; have m30_ : Aside0 (RowT w921 w0.heap.size P0_ 29 2 (.slice A30 (rd_T69 l0 x5_1).f11.f1.length d30) (rd_T69 l0 x5_1).f11.f1.length) := ⟨z6_1⟩; clear HD0 HB HK hx_ hf_ hw uo_; have HD0 := n0_; have HB := n1_; have HK := n2_; clear n0_ n1_ n2_ HR29; have HR29 := m29_; clear m29_ HR30; have HR30 := m30_; clear m30_; obtain ⟨uo_, hx_⟩ : ∃ u_, w921.cell? ⟨go5, x5_1.toNat * 31 + 21, none⟩ = some u_ := HD0.out.1.at_ x5_1.toNat 21 HJ5.out (by decide); have hf_ : w921.frozen? ⟨go5, x5_1.toNat * 31 + 21, none⟩ = false := HD0.out.1.fz _) | ((with_reducible refine gate_store (t := 3) (p := 190) rfl ?_); refine store_event (t := 3) (p := 190) (v := ?vo_w922) (w1 := (w921.setCell ⟨go5, x5_1.toNat * 31 + 21, none⟩ ?va_w922)) ?hg ?ho ?hn ?hr ?_; (case ho => rfl); (case hg => rfl); (case hn => rfl); (case hr => first | (go_simp; done) | (go_simp; rfl)); intro w922 hw; have n0_ : Aside0 (NodeT w922 w0.heap.size P0_ go5 l0 x5_1.toNat (.slice A9 (rd_T69 l0 x5_1).f4.f0.length d9) (.slice A10 (rd_T69 l0 x5_1).f4.f1.length d10) (.slice A13 (rd_T69 l0 x5_1).f7.length d13) (.slice A29 (rd_T69 l0 x5_1).f11.f0.length d29) (.slice A30 (rd_T69 l0 x5_1).f11.f1.length d30)) := ⟨(by rw [hw]; exact HD0.out.put 21 (by decide) _)⟩; have n1_ : Aside0 (Below w0.heap.size w0 w922) := ⟨(by rw [hw]; exact below_set HB.out GB5.out)⟩; have n2_ : Aside0 (Kept w w922 (fun k_ => P0_ k_)) := ⟨(by rw [hw]; exact Kept.setCell (p := ⟨go5, x5_1.toNat * 31 + 21, none⟩) HK.out (.inl GP5.out) _)⟩; have m29_ : Aside0 (RowT w922 w0.heap.size P0_ 3 1 (.slice A29 (rd_T69 l0 x5_1).f11.f0.length d29) (rd_T69 l0 x5_1).f11.f0.length) := ⟨z6_0⟩; have m30_ : Aside0 (RowT w922 w0.heap.size P0_ 29 2 (.slice A30 (rd_T69 l0 x5_1).f11.f1.length d30) (rd_T69 l0 x5_1).f11.f1.length) := ⟨z6_1⟩; clear HD0 HB HK hx_ hf_ hw uo_; have HD0 := n0_; have HB := n1_; have HK := n2_; clear n0_ n1_ n2_ HR29; have HR29 := m29_; clear m29_ HR30; have HR30 := m30_; clear m30_; obtain ⟨uo_, hx_⟩ : ∃ u_, w922.cell? ⟨go5, x5_1.toNat * 31 + 22, none⟩ = some u_ := HD0.out.1.at_ x5_1.toNat 22 HJ5.out (by decide); have hf_ : w922.frozen? ⟨go5, x5_1.toNat * 31 + 22, none⟩ = false := HD0.out.1.fz _) | ((with_reducible refine gate_store (t := 3) (p := 199) rfl ?_); refine store_event (t := 3) (p := 199) (v := ?vo_w923) (w1 := (w922.setCell ⟨go5, x5_1.toNat * 31 + 22, none⟩ ?va_w923)) ?hg ?ho ?hn ?hr ?_; (case ho => rfl); (case hg => rfl); (case hn => rfl); (case hr => first | (go_simp; done) | (go_simp; rfl)); intro w923 hw; have n0_ : Aside0 (NodeT w923 w0.heap.size P0_ go5 l0 x5_1.toNat (.slice A9 (rd_T69 l0 x5_1).f4.f0.length d9) (.slice A10 (rd_T69 l0 x5_1).f4.f1.length d10) (.slice A13 (rd_T69 l0 x5_1).f7.length d13) (.slice A29 (rd_T69 l0 x5_1).f11.f0.length d29) (.slice A30 (rd_T69 l0 x5_1).f11.f1.length d30)) := ⟨(by rw [hw]; exact HD0.out.put 22 (by decide) _)⟩; have n1_ : Aside0 (Below w0.heap.size w0 w923) := ⟨(by rw [hw]; exact below_set HB.out GB5.out)⟩; have n2_ : Aside0 (Kept w w923 (fun k_ => P0_ k_)) := ⟨(by rw [hw]; exact Kept.setCell (p := ⟨go5, x5_1.toNat * 31 + 22, none⟩) HK.out (.inl GP5.out) _)⟩; have m29_ : Aside0 (RowT w923 w0.heap.size P0_ 3 1 (.slice A29 (rd_T69 l0 x5_1).f11.f0.length d29) (rd_T69 l0 x5_1).f11.f0.length) := ⟨z6_0⟩; have m30_ : Aside0 (RowT w923 w0.heap.size P0_ 29 2 (.slice A30 (rd_T69 l0 x5_1).f11.f1.length d30) (rd_T69 l0 x5_1).f11.f1.length) := ⟨z6_1⟩; clear HD0 HB HK hx_ hf_ hw uo_; have HD0 := n0_; have HB := n1_; have HK := n2_; clear n0_ n1_ n2_ HR29; have HR29 := m29_; clear m29_ HR30; have HR30 := m30_; clear m30_; obtain ⟨uo_, hx_⟩ : ∃ u_, w923.cell? ⟨go5, x5_1.toNat * 31 + 23, none⟩ = some u_ := HD0.out.1.at_ x5_1.toNat 23 HJ5.out (by decide); have hf_ : w923.frozen? ⟨go5, x5_1.toNat * 31 + 23, none⟩ = false := HD0.out.1.fz _) | ((with_reducible refine gate_store (t := 3) (p := 208) rfl ?_); refine store_event (t := 3) (p := 208) (v := ?vo_w924) (w1 := (w923.setCell ⟨go5, x5_1.toNat * 31 + 23, none⟩ ?va_w924)) ?hg ?ho ?hn ?hr ?_; (case ho => rfl); (case hg => rfl); (case hn => rfl); (case hr => first | (go_simp; done) | (go_simp; rfl)); intro w924 hw; have n0_ : Aside0 (NodeT w924 w0.heap.size P0_ go5 l0 x5_1.toNat (.slice A9 (rd_T69 l0 x5_1).f4.f0.length d9) (.slice A10 (rd_T69 l0 x5_1).f4.f1.length d10) (.slice A13 (rd_T69 l0 x5_1).f7.length d13) (.slice A29 (rd_T69 l0 x5_1).f11.f0.length d29) (.slice A30 (rd_T69 l0 x5_1).f11.f1.length d30)) := ⟨(by rw [hw]; exact HD0.out.put 23 (by decide) _)⟩; have n1_ : Aside0 (Below w0.heap.size w0 w924) := ⟨(by rw [hw]; exact below_set HB.out GB5.out)⟩; have n2_ : Aside0 (Kept w w924 (fun k_ => P0_ k_)) := ⟨(by rw [hw]; exact Kept.setCell (p := ⟨go5, x5_1.toNat * 31 + 23, none⟩) HK.out (.inl GP5.out) _)⟩; have m29_ : Aside0 (RowT w924 w0.heap.size P0_ 3 1 (.slice A29 (rd_T69 l0 x5_1).f11.f0.length d29) (rd_T69 l0 x5_1).f11.f0.length) := ⟨z6_0⟩; have m30_ : Aside0 (RowT w924 w0.heap.size P0_ 29 2 (.slice A30 (rd_T69 l0 x5_1).f11.f1.length d30) (rd_T69 l0 x5_1).f11.f1.length) := ⟨z6_1⟩; clear HD0 HB HK hx_ hf_ hw uo_; have HD0 := n0_; have HB := n1_; have HK := n2_; clear n0_ n1_ n2_ HR29; have HR29 := m29_; clear m29_ HR30; have HR30 := m30_; clear m30_; obtain ⟨uo_, hx_⟩ : ∃ u_, w924.cell? ⟨go5, x5_1.toNat * 31 + 24, none⟩ = some u_ := HD0.out.1.at_ x5_1.toNat 24 HJ5.out (by decide); have hf_ : w924.frozen? ⟨go5, x5_1.toNat * 31 + 24, none⟩ = false := HD0.out.1.fz _) | ((with_reducible refine gate_store (t := 3) (p := 217) rfl ?_); refine store_event (t := 3) (p := 217) (v := ?vo_w925) (w1 := (w924.setCell ⟨go5, x5_1.toNat * 31 + 24, none⟩ ?va_w925)) ?hg ?ho ?hn ?hr ?_; (case ho => rfl); (case hg => rfl); (case hn => rfl); (case hr => first | (go_simp; done) | (go_simp; rfl)); intro w925 hw; have n0_ : Aside0 (NodeT w925 w0.heap.size P0_ go5 l0 x5_1.toNat (.slice A9 (rd_T69 l0 x5_1).f4.f0.length d9) (.slice A10 (rd_T69 l0 x5_1).f4.f1.length d10) (.slice A13 (rd_T69 l0 x5_1).f7.length d13) (.slice A29 (rd_T69 l0 x5_1).f11.f0.length d29) (.slice A30 (rd_T69 l0 x5_1).f11.f1.length d30)) := ⟨(by rw [hw]; exact HD0.out.put 24 (by decide) _)⟩; have n1_ : Aside0 (Below w0.heap.size w0 w925) := ⟨(by rw [hw]; exact below_set HB.out GB5.out)⟩; have n2_ : Aside0 (Kept w w925 (fun k_ => P0_ k_)) := ⟨(by rw [hw]; exact Kept.setCell (p := ⟨go5, x5_1.toNat * 31 + 24, none⟩) HK.out (.inl GP5.out) _)⟩; have m29_ : Aside0 (RowT w925 w0.heap.size P0_ 3 1 (.slice A29 (rd_T69 l0 x5_1).f11.f0.length d29) (rd_T69 l0 x5_1).f11.f0.length) := ⟨z6_0⟩; have m30_ : Aside0 (RowT w925 w0.heap.size P0_ 29 2 (.slice A30 (rd_T69 l0 x5_1).f11.f1.length d30) (rd_T69 l0 x5_1).f11.f1.length) := ⟨z6_1⟩; clear HD0 HB HK hx_ hf_ hw uo_; have HD0 := n0_; have HB := n1_; have HK := n2_; clear n0_ n1_ n2_ HR29; have HR29 := m29_; clear m29_ HR30; have HR30 := m30_; clear m30_; obtain ⟨uo_, hx_⟩ : ∃ u_, w925.cell? ⟨go5, x5_1.toNat * 31 + 25, none⟩ = some u_ := HD0.out.1.at_ x5_1.toNat 25 HJ5.out (by decide); have hf_ : w925.frozen? ⟨go5, x5_1.toNat * 31 + 25, none⟩ = false := HD0.out.1.fz _) | ((with_reducible refine gate_store (t := 3) (p := 226) rfl ?_); refine store_event (t := 3) (p := 226) (v := ?vo_w926) (w1 := (w925.setCell ⟨go5, x5_1.toNat * 31 + 25, none⟩ ?va_w926)) ?hg ?ho ?hn ?hr ?_; (case ho => rfl); (case hg => rfl); (case hn => rfl); (case hr => first | (go_simp; done) | (go_simp; rfl)); intro w926 hw; have n0_ : Aside0 (NodeT w926 w0.heap.size P0_ go5 l0 x5_1.toNat (.slice A9 (rd_T69 l0 x5_1).f4.f0.length d9) (.slice A10 (rd_T69 l0 x5_1).f4.f1.length d10) (.slice A13 (rd_T69 l0 x5_1).f7.length d13) (.slice A29 (rd_T69 l0 x5_1).f11.f0.length d29) (.slice A30 (rd_T69 l0 x5_1).f11.f1.length d30)) := ⟨(by rw [hw]; exact HD0.out.put 25 (by decide) _)⟩; have n1_ : Aside0 (Below w0.heap.size w0 w926) := ⟨(by rw [hw]; exact below_set HB.out GB5.out)⟩; have n2_ : Aside0 (Kept w w926 (fun k_ => P0_ k_)) := ⟨(by rw [hw]; exact Kept.setCell (p := ⟨go5, x5_1.toNat * 31 + 25, none⟩) HK.out (.inl GP5.out) _)⟩; have m29_ : Aside0 (RowT w926 w0.heap.size P0_ 3 1 (.slice A29 (rd_T69 l0 x5_1).f11.f0.length d29) (rd_T69 l0 x5_1).f11.f0.length) := ⟨z6_0⟩; have m30_ : Aside0 (RowT w926 w0.heap.size P0_ 29 2 (.slice A30 (rd_T69 l0 x5_1).f11.f1.length d30) (rd_T69 l0 x5_1).f11.f1.length) := ⟨z6_1⟩; clear HD0 HB HK hx_ hf_ hw uo_; have HD0 := n0_; have HB := n1_; have HK := n2_; clear n0_ n1_ n2_ HR29; have HR29 := m29_; clear m29_ HR30; have HR30 := m30_; clear m30_; obtain ⟨uo_, hx_⟩ : ∃ u_, w926.cell? ⟨go5, x5_1.toNat * 31 + 26, none⟩ = some u_ := HD0.out.1.at_ x5_1.toNat 26 HJ5.out (by decide); have hf_ : w926.frozen? ⟨go5, x5_1.toNat * 31 + 26, none⟩ = false := HD0.out.1.fz _) | ((with_reducible refine gate_store (t := 3) (p := 235) rfl ?_); refine store_event (t := 3) (p := 235) (v := ?vo_w927) (w1 := (w926.setCell ⟨go5, x5_1.toNat * 31 + 26, none⟩ ?va_w927)) ?hg ?ho ?hn ?hr ?_; (case ho => rfl); (case hg => rfl); (case hn => rfl); (case hr => first | (go_simp; done) | (go_simp; rfl)); intro w927 hw; have n0_ : Aside0 (NodeT w927 w0.heap.size P0_ go5 l0 x5_1.toNat (.slice A9 (rd_T69 l0 x5_1).f4.f0.length d9) (.slice A10 (rd_T69 l0 x5_1).f4.f1.length d10) (.slice A13 (rd_T69 l0 x5_1).f7.length d13) (.slice A29 (rd_T69 l0 x5_1).f11.f0.length d29) (.slice A30 (rd_T69 l0 x5_1).f11.f1.length d30)) := ⟨(by rw [hw]; exact HD0.out.put 26 (by decide) _)⟩; have n1_ : Aside0 (Below w0.heap.size w0 w927) := ⟨(by rw [hw]; exact below_set HB.out GB5.out)⟩; have n2_ : Aside0 (Kept w w927 (fun k_ => P0_ k_)) := ⟨(by rw [hw]; exact Kept.setCell (p := ⟨go5, x5_1.toNat * 31 + 26, none⟩) HK.out (.inl GP5.out) _)⟩; have m29_ : Aside0 (RowT w927 w0.heap.size P0_ 3 1 (.slice A29 (rd_T69 l0 x5_1).f11.f0.length d29) (rd_T69 l0 x5_1).f11.f0.length) := ⟨z6_0⟩; have m30_ : Aside0 (RowT w927 w0.heap.size P0_ 29 2 (.slice A30 (rd_T69 l0 x5_1).f11.f1.length d30) (rd_T69 l0 x5_1).f11.f1.length) := ⟨z6_1⟩; clear HD0 HB HK hx_ hf_ hw uo_; have HD0 := n0_; have HB := n1_; have HK := n2_; clear n0_ n1_ n2_ HR29; have HR29 := m29_; clear m29_ HR30; have HR30 := m30_; clear m30_; obtain ⟨uo_, hx_⟩ : ∃ u_, w927.cell? ⟨go5, x5_1.toNat * 31 + 27, none⟩ = some u_ := HD0.out.1.at_ x5_1.toNat 27 HJ5.out (by decide); have hf_ : w927.frozen? ⟨go5, x5_1.toNat * 31 + 27, none⟩ = false := HD0.out.1.fz _) | ((with_reducible refine gate_store (t := 3) (p := 242) rfl ?_); refine store_event (t := 3) (p := 242) (v := ?vo_w928) (w1 := (w927.setCell ⟨go5, x5_1.toNat * 31 + 27, none⟩ ?va_w928)) ?hg ?ho ?hn ?hr ?_; (case ho => rfl); (case hg => rfl); (case hn => rfl); (case hr => first | (go_simp; done) | (go_simp; rfl)); intro w928 hw; have n0_ : Aside0 (NodeT w928 w0.heap.size P0_ go5 l0 x5_1.toNat (.slice A9 (rd_T69 l0 x5_1).f4.f0.length d9) (.slice A10 (rd_T69 l0 x5_1).f4.f1.length d10) (.slice A13 (rd_T69 l0 x5_1).f7.length d13) (.slice A29 (rd_T69 l0 x5_1).f11.f0.length d29) (.slice A30 (rd_T69 l0 x5_1).f11.f1.length d30)) := ⟨(by rw [hw]; exact HD0.out.put 27 (by decide) _)⟩; have n1_ : Aside0 (Below w0.heap.size w0 w928) := ⟨(by rw [hw]; exact below_set HB.out GB5.out)⟩; have n2_ : Aside0 (Kept w w928 (fun k_ => P0_ k_)) := ⟨(by rw [hw]; exact Kept.setCell (p := ⟨go5, x5_1.toNat * 31 + 27, none⟩) HK.out (.inl GP5.out) _)⟩; have m29_ : Aside0 (RowT w928 w0.heap.size P0_ 3 1 (.slice A29 (rd_T69 l0 x5_1).f11.f0.length d29) (rd_T69 l0 x5_1).f11.f0.length) := ⟨z6_0⟩; have m30_ : Aside0 (RowT w928 w0.heap.size P0_ 29 2 (.slice A30 (rd_T69 l0 x5_1).f11.f1.length d30) (rd_T69 l0 x5_1).f11.f1.length) := ⟨z6_1⟩; clear HD0 HB HK hx_ hf_ hw uo_; have HD0 := n0_; have HB := n1_; have HK := n2_; clear n0_ n1_ n2_ HR29; have HR29 := m29_; clear m29_ HR30; have HR30 := m30_; clear m30_; obtain ⟨uo_, hx_⟩ : ∃ u_, w928.cell? ⟨go5, x5_1.toNat * 31 + 28, none⟩ = some u_ := HD0.out.1.at_ x5_1.toNat 28 HJ5.out (by decide); have hf_ : w928.frozen? ⟨go5, x5_1.toNat * 31 + 28, none⟩ = false := HD0.out.1.fz _) | ((with_reducible refine gate_store (t := 3) (p := 249) rfl ?_); refine store_event (t := 3) (p := 249) (v := ?vo_w929) (w1 := (w928.setCell ⟨go5, x5_1.toNat * 31 + 28, none⟩ ?va_w929)) ?hg ?ho ?hn ?hr ?_; (case ho => rfl); (case hg => rfl); (case hn => rfl); (case hr => first | (go_simp; done) | (go_simp; rfl)); intro w929 hw; have n0_ : Aside0 (NodeT w929 w0.heap.size P0_ go5 l0 x5_1.toNat (.slice A9 (rd_T69 l0 x5_1).f4.f0.length d9) (.slice A10 (rd_T69 l0 x5_1).f4.f1.length d10) (.slice A13 (rd_T69 l0 x5_1).f7.length d13) (.slice A29 (rd_T69 l0 x5_1).f11.f0.length d29) (.slice A30 (rd_T69 l0 x5_1).f11.f1.length d30)) := ⟨(by rw [hw]; exact HD0.out.put 28 (by decide) _)⟩; have n1_ : Aside0 (Below w0.heap.size w0 w929) := ⟨(by rw [hw]; exact below_set HB.out GB5.out)⟩; have n2_ : Aside0 (Kept w w929 (fun k_ => P0_ k_)) := ⟨(by rw [hw]; exact Kept.setCell (p := ⟨go5, x5_1.toNat * 31 + 28, none⟩) HK.out (.inl GP5.out) _)⟩; have m29_ : Aside0 (RowT w929 w0.heap.size P0_ 3 1 (.slice A29 (rd_T69 l0 x5_1).f11.f0.length d29) (rd_T69 l0 x5_1).f11.f0.length) := ⟨z6_0⟩; have m30_ : Aside0 (RowT w929 w0.heap.size P0_ 29 2 (.slice A30 (rd_T69 l0 x5_1).f11.f1.length d30) (rd_T69 l0 x5_1).f11.f1.length) := ⟨z6_1⟩; clear HD0 HB HK hx_ hf_ hw uo_; have HD0 := n0_; have HB := n1_; have HK := n2_; clear n0_ n1_ n2_ HR29; have HR29 := m29_; clear m29_ HR30; have HR30 := m30_; clear m30_; have hx_ : w929.cell? ⟨go5, x5_1.toNat * 31 + 29, none⟩ = some (.slice A29 (rd_T69 l0 x5_1).f11.f0.length d29) := HD0.out.2.2.2.2.1; have hf_ : w929.frozen? ⟨go5, x5_1.toNat * 31 + 29, none⟩ = false := HD0.out.1.fz _) | ((with_reducible refine gate_callee (f := 26) rfl ?_); refine goesL_ (some 259) rfl rfl Try.func26 (by kernel_rfl) rfl #[.slice A29 (rd_T69 l0 x5_1).f11.f0.length d29, .int .i64 (wrap64 ((wrap64 ((wrap64 ((wrap64 ((wrap64 ((wrap64 ((wrap64 ((wrap64 ((wrap64 ((wrap64 ((wrap64 ((wrap64 ((wrap64 ((wrap64 ((wrap64 (t2_ + 1)) + 1)) + 1)) + 1)) + 1)) + 1)) + 1)) + 1)) + 1)) + 1)) + 1)) + 1)) + 1)) + 1)) + 1))] rfl z6_6 ?_; (with_reducible refine (markInt_w k1 P0_ _ _ _ t3_ s3_ w0 _ ?side1 ?side2 A3.out).mono ?_); (case side1 => exact HB.out); (case side2 => exact HR29.out); rintro e w930 ⟨rfl, hb, hkp, hin⟩; refine ⟨_, rfl, ?_⟩; have n0_ : Aside0 (NodeT w930 w0.heap.size P0_ go5 l0 x5_1.toNat (.slice A9 (rd_T69 l0 x5_1).f4.f0.length d9) (.slice A10 (rd_T69 l0 x5_1).f4.f1.length d10) (.slice A13 (rd_T69 l0 x5_1).f7.length d13) (.slice A29 (rd_T69 l0 x5_1).f11.f0.length d29) (.slice A30 (rd_T69 l0 x5_1).f11.f1.length d30)) := ⟨HD0.out.call (HD0.out.1.kept (by decide) hkp) hin⟩; have n1_ : Aside0 (Below w0.heap.size w0 w930) := ⟨hb⟩; have n2_ : Aside0 (Kept w w930 (fun k_ => P0_ k_)) := ⟨Kept.then_ HK.out hkp (fun k_ hs_ => .inl hs_.2.1)⟩; have m30_ := mk0 (HR30.out.mono hin); clear HD0 HB HK hx_ hf_ hb hkp hin; have HD0 := n0_; have HB := n1_; have HK := n2_; clear n0_ n1_ n2_ HR30; have HR30 := m30_; clear m30_; have hx_ : w930.cell? ⟨go5, x5_1.toNat * 31 + 30, none⟩ = some (.slice A30 (rd_T69 l0 x5_1).f11.f1.length d30) := HD0.out.2.2.2.2.2; have hf_ : w930.frozen? ⟨go5, x5_1.toNat * 31 + 30, none⟩ = false := HD0.out.1.fz _) | ((with_reducible refine gate_callee (f := 25) rfl ?_); refine goesL_ (some 267) rfl rfl Try.func25 (by kernel_rfl) rfl #[.slice A30 (rd_T69 l0 x5_1).f11.f1.length d30, .int .i64 t3_] rfl z6_6 ?_; (with_reducible refine (markPt_w k1 P0_ _ _ _ t4_ s4_ w0 _ ?side1 ?side2 A4.out).mono ?_); (case side1 => exact HB.out); (case side2 => exact HR30.out); rintro e w931 ⟨rfl, hb, hkp, hin⟩; refine ⟨_, rfl, ?_⟩; have n0_ : Aside0 (NodeT w931 w0.heap.size P0_ go5 l0 x5_1.toNat (.slice A9 (rd_T69 l0 x5_1).f4.f0.length d9) (.slice A10 (rd_T69 l0 x5_1).f4.f1.length d10) (.slice A13 (rd_T69 l0 x5_1).f7.length d13) (.slice A29 (rd_T69 l0 x5_1).f11.f0.length d29) (.slice A30 (rd_T69 l0 x5_1).f11.f1.length d30)) := ⟨HD0.out.call (HD0.out.1.kept (by decide) hkp) hin⟩; have n1_ : Aside0 (Below w0.heap.size w0 w931) := ⟨hb⟩; have n2_ : Aside0 (Kept w w931 (fun k_ => P0_ k_)) := ⟨Kept.then_ HK.out hkp (fun k_ hs_ => .inl hs_.2.1)⟩; clear HD0 HB HK hx_ hf_ hb hkp hin; have HD0 := n0_; have HB := n1_; have HK := n2_; clear n0_ n1_ n2_))
   go_roundg k1
   case measure => have := HK1.out; omega
   case rel => exact ⟨t4_, (wrap64 (x5_1 + 1)), rfl, rfl, H', ⟨(by have := HK1.out; omega)⟩, ⟨fun g hg => by injection hg with hg; injection hg with hg; subst hg; exact HD0.out.1⟩, HK, HB⟩

/-! ### laws_markScene: function 34 -/
def laws_markScene.f (k : Nat) (l0 : List S69) (a1 : Int) : Option Int := laws_markNodeS.f k l0 a1
theorem laws_markScene.mono : ∀ a0 a1 k, LeO (laws_markScene.f k a0 a1) (laws_markScene.f (k + 1) a0 a1) := by
 intro a0 a1 k
 unfold laws_markScene.f
 exact laws_markNodeS.mono _ _ _
set_option maxHeartbeats 8000000 in
set_option maxRecDepth 100000 in
theorem laws_markScene.calls (k : Nat) (P0_ : Nat → Prop) (u9000_ : Value) (l0 : List S69) (a1 : Int) (r1 : Int) (w0 w : World) (hB : Below w0.heap.size w0 w) (ho0 : Kd.S k69 69 w w0.heap.size P0_ u9000_ l0) (h : laws_markScene.f k l0 a1 = some r1) :
  Calls Try.prog 34 #[.agg #[u9000_], .int .i64 a1] w fun e w' => e = .returned (.int .i64 r1) ∧ Below w0.heap.size w0 w' ∧ Kept w w' (fun k_ => P0_ k_) := by
 have hu53 := Try.underlying53
 have HO0 := mk0 ho0
 have HK := mk0 (Kept.refl w (fun k_ => P0_ k_))
 have HB := mk0 hB
 clear hB ho0
 have A3 := mk0 (show laws_markNodeS.f k l0 a1 = some r1 from h)
 clear h
 obtain ⟨Ao5, co5, eo5⟩ := Kd.S_slice HO0.out
 subst eo5
 go_enter Try.func34, Try.ntmps34
 go_wp2_with (first | ((with_reducible refine gate_dst (N := 2) rfl ?_); refine boxz (cs := #[.slice Ao5 l0.length co5]) (t := 53) rfl ?_; intro gb376 hg w7 hbox hb; have n0_ := mk0 (Kd.S_below (pkS HO0) hb); have n1_ := mk0 (Kept.below (S := (fun k_ => P0_ k_)) HK.out hb); have n2_ := mk0 (below_then HB.out HB.out.size hb); clear HO0 HK HB; have HO0 := n0_; have HK := n1_; have HB := n2_; clear n0_ n1_ n2_; have BK376 := mk0 hbox; clear hb hbox hg; obtain ⟨_, _⟩ := be_1 BK376.out) | ((with_reducible refine gate_callee (f := 69) rfl ?_); refine goesL_ (some 8) rfl rfl Try.func69 (by kernel_rfl) rfl #[.slice Ao5 l0.length co5, .int .i64 a1] rfl z6_6 ?_; (with_reducible refine (laws_markNodeS.calls k P0_ _ l0 a1 r1 w0 _ ?side1 ?side2 A3.out).mono ?_); (case side1 => exact HB.out); (case side2 => exact HO0.out); rintro e w9 ⟨rfl, hb, hkp⟩; refine ⟨_, rfl, ?_⟩; have n0_ : Aside0 (Below w0.heap.size w0 w9) := ⟨hb⟩; have n1_ : Aside0 (Kept w w9 (fun k_ => P0_ k_)) := ⟨Kept.then_ HK.out hkp (fun k_ hs_ => .inl hs_)⟩; clear HB HK hb hkp; have HB := n0_; have HK := n1_; clear n0_ n1_))
 go_ret
 exact ⟨rfl, HB.out, HK.out⟩

/-! ### laws_heldIntS: function 35 -/
def laws_heldIntS.l0 : Nat → List Int → Int → Int → Option (Int)
 | 0, _, _, _ => none
 | k + 1, x0, x1, x5 => if x5 < (x0.length : Int) then (if 0 ≤ x5 then (if (rd x0 x5) = x1 then (laws_heldIntS.l0 k x0 (wrap64 (x1 + 1)) (wrap64 (x5 + 1))) else (some (-1))) else (none)) else (some x1)
def laws_heldIntS.f (k : Nat) (l0 : List Int) (a1 : Int) : Option (Int) := laws_heldIntS.l0 k l0 a1 0
theorem laws_heldIntS.mono_l : ∀ k, (∀ y0 y1 y2, LeO (laws_heldIntS.l0 k y0 y1 y2) (laws_heldIntS.l0 (k + 1) y0 y1 y2))
 | 0 => fun _ _ _ r h => by simp [laws_heldIntS.l0] at h
 | k + 1 => by
  have ih0 := laws_heldIntS.mono_l k
  ·intro y0 y1 y2
   unfold laws_heldIntS.l0
   repeat' first
   | (with_reducible exact ih0 _ _ _)
   | (with_reducible exact LeO.refl _)
   | (with_reducible exact LeO.none _)
   | (with_reducible refine LeO.ite ?_ ?_)
   | (with_reducible refine LeO.bind ?_ (fun _ => ?_))
theorem laws_heldIntS.mono : ∀ a0 a1 k, LeO (laws_heldIntS.f k a0 a1) (laws_heldIntS.f (k + 1) a0 a1) := by
 intro a0 a1 k
 have ih0 := laws_heldIntS.mono_l k
 unfold laws_heldIntS.f
 repeat' first
   | (with_reducible exact ih0 _ _ _)
   | (with_reducible exact LeO.refl _)
   | (with_reducible exact LeO.none _)
   | (with_reducible refine LeO.ite ?_ ?_)
   | (with_reducible refine LeO.bind ?_ (fun _ => ?_))
set_option maxHeartbeats 8000000 in
set_option maxRecDepth 100000 in
theorem laws_heldIntS.calls (k : Nat) (A0 : Option Addr) (c0 : Nat) (l0 : List Int) (a1 : Int) (r : Int) (w : World) (hr0 : Kd.C (Kd.int .i64) w A0 l0.length l0) (hc0 : l0.length ≤ c0) (h : laws_heldIntS.f k l0 a1 = some r) :
  Calls Try.prog 35 #[.slice A0 l0.length c0, .int .i64 a1] w fun e w' => e = .returned (.int .i64 r) ∧ Drawn0 w w' := by
 have HR0 := mk0 hr0
 have HC0 := mk0 hc0
 clear hr0 hc0
 have H : (laws_heldIntS.l0 k l0 a1 0) = some r := h
 clear h
 have H' := mk0 H
 clear H
 go_enter Try.func35, Try.ntmps35
 go_wp2
 go_loopg [1, 5] k (fun kq v1 v5 w' => ∃ (x1_1 : Int) (x5_1 : Int), v1 = .int .i64 x1_1 ∧ v5 = .int .i64 x5_1 ∧ Aside0 (laws_heldIntS.l0 kq l0 x1_1 x5_1 = some r) ∧ Aside0 (kq ≤ k) ∧ Drawn0 w w')
 case atStart => exact ⟨(a1), (0), rs0, rs0, H', ⟨Nat.le_refl _⟩, z6_8⟩
 case round =>
  clear H'
  try clear p2
  obtain ⟨x1_1, x5_1, rfl, rfl, HA, HK1, ⟨m1, rfl⟩⟩ := hrel
  cases gk with
  | zero => exact absurd HA.out (by simp [laws_heldIntS.l0])
  | succ k1 =>
   have H := HA.out; clear HA
   simp only [laws_heldIntS.l0] at H
   by_cases c3 : x5_1 < (l0.length : Int)
   rotate_left
   ·rw [if_neg c3] at H
    have c3b0 := decide_eq_false c3
    clear c3
    obtain rfl := Option.some.inj H
    simp only [Option.some.injEq, Prod.mk.injEq] at H
    obtain ⟨rfl⟩ := H
    go_wp2
    go_ret
    exact ⟨rs0, z6_8⟩
   rw [if_pos c3] at H
   have c3b0 := decide_eq_true c3
   clear c3
   by_cases c4 : 0 ≤ x5_1
   rotate_left
   ·rw [if_neg c4] at H
    exact absurd H (by simp)
   rw [if_pos c4] at H
   have c4b0 := decide_eq_true c4
   clear c4
   by_cases c5 : (rd l0 x5_1) = x1_1
   rotate_left
   ·rw [if_neg c5] at H
    have c5b0 : ((rd l0 x5_1) == x1_1) = false := beq_eq_false_iff_ne.mpr c5
    have c5b1 : ((rd l0 x5_1) != x1_1) = true := bne_iff_ne.mpr c5
    obtain rfl := Option.some.inj H
    simp only [Option.some.injEq, Prod.mk.injEq] at H
    obtain ⟨rfl⟩ := H
    have p283 : 0 ≤ (x5_1 : Int) := of_decide_eq_true (by first | (with_reducible assumption) | assumption)
    have q283 : x5_1 < (l0.length : Int) := of_decide_eq_true (by first | (with_reducible assumption) | assumption)
    obtain ⟨ad283, e283, hx283_0⟩ := Kd.at_int HR0.out x5_1 p283 q283
    cases e283
    replace p283 := eq_true p283
    replace q283 := eq_true q283
    go_wp2
    go_ret
    exact ⟨rs0, z6_8⟩
   rw [if_pos c5] at H
   have c5b0 : ((rd l0 x5_1) == x1_1) = true := beq_iff_eq.mpr c5
   have c5b1 : ((rd l0 x5_1) != x1_1) = false := bne_eq_false_iff_eq.mpr c5
   clear c5
   have H' := mk0 H
   clear H
   have p283 : 0 ≤ (x5_1 : Int) := of_decide_eq_true (by first | (with_reducible assumption) | assumption)
   have q283 : x5_1 < (l0.length : Int) := of_decide_eq_true (by first | (with_reducible assumption) | assumption)
   obtain ⟨ad283, e283, hx283_0⟩ := Kd.at_int HR0.out x5_1 p283 q283
   cases e283
   replace p283 := eq_true p283
   replace q283 := eq_true q283
   go_wp2
   go_roundg k1
   case measure => have := HK1.out; omega
   case rel => exact ⟨(wrap64 (x1_1 + 1)), (wrap64 (x5_1 + 1)), rs0, rs0, H', ⟨(by have := HK1.out; omega)⟩, z6_8⟩

/-! ### spec_NodeAt: function 70 -/
def spec_NodeAt.l0 : Nat → Int → Int → List (S69) → Option (Int)
 | 0, _, _, _ => none
 | k + 1, x1, x5, x285000 => if x5 < (x285000.length : Int) then (if 0 ≤ x5 then (if ((rd_T69 x285000 x5).f0) = x1 then (some x5) else (spec_NodeAt.l0 k x1 (wrap64 (x5 + 1)) x285000)) else (none)) else (some (-1))
def spec_NodeAt.f (k : Nat) (l0_0 : List (S69)) (a1 : Int) : Option (Int) := spec_NodeAt.l0 k a1 0 l0_0
theorem spec_NodeAt.mono_l : ∀ k, (∀ y0 y1 y2, LeO (spec_NodeAt.l0 k y0 y1 y2) (spec_NodeAt.l0 (k + 1) y0 y1 y2))
 | 0 => fun _ _ _ r h => by simp [spec_NodeAt.l0] at h
 | k + 1 => by
  have ih0 := spec_NodeAt.mono_l k
  ·intro y0 y1 y2
   unfold spec_NodeAt.l0
   repeat' first
   | (with_reducible exact ih0 _ _ _)
   | (with_reducible exact LeO.refl _)
   | (with_reducible exact LeO.none _)
   | (with_reducible refine LeO.ite ?_ ?_)
   | (with_reducible refine LeO.bind ?_ (fun _ => ?_))
theorem spec_NodeAt.mono : ∀ a0 a1 k, LeO (spec_NodeAt.f k a0 a1) (spec_NodeAt.f (k + 1) a0 a1) := by
 intro a0 a1 k
 have ih0 := spec_NodeAt.mono_l k
 unfold spec_NodeAt.f
 repeat' first
   | (with_reducible exact ih0 _ _ _)
   | (with_reducible exact LeO.refl _)
   | (with_reducible exact LeO.none _)
   | (with_reducible refine LeO.ite ?_ ?_)
   | (with_reducible refine LeO.bind ?_ (fun _ => ?_))
set_option maxHeartbeats 8000000 in
set_option maxRecDepth 100000 in
theorem spec_NodeAt.calls (k : Nat) (A0_0 : Option Addr) (c0_0 : Nat) (l0_0 : List (S69)) (a1 : Int) (r : Int) (w : World) (hr0_0 : Kd.C k69 w A0_0 l0_0.length l0_0) (hc0_0 : l0_0.length ≤ c0_0) (h : spec_NodeAt.f k l0_0 a1 = some r) :
  Calls Try.prog 70 #[.agg #[.slice A0_0 l0_0.length c0_0], .int .i64 a1] w fun e w' => e = .returned (.int .i64 r) ∧ Below w.heap.size w w' := by
 have hu53 := Try.underlying53
 have HR0_0 := mk0 hr0_0
 have HC0_0 := mk0 hc0_0
 clear hr0_0 hc0_0
 have HB := mk0 (Below.refl w.heap.size w)
 have H : (spec_NodeAt.l0 k a1 0 l0_0) = some r := h
 clear h
 have H' := mk0 H
 clear H
 go_enter Try.func70, Try.ntmps70
 go_wp2_with (first | ((with_reducible refine gate_dst (N := 2) rfl ?_); refine boxz (cs := #[.slice A0_0 l0_0.length c0_0]) (t := 53) rfl ?_; intro gb284 hg w3 hbox hb; have n0_ := mk0 (below_step z6_7 hb); have n1_ := mk0 (hbox); have GW284 := mk0 (ge_go (a := w.heap.size) hg (below_size z6_7)); have GE284 := GW284; clear HB; have HB := n0_; have BK284 := n1_; clear n0_ n1_ ; clear hb hbox hg))
 go_loopg [5] k (fun kq v5 w' => ∃ (x5_1 : Int), v5 = .int .i64 x5_1 ∧ Aside0 (spec_NodeAt.l0 kq a1 x5_1 l0_0 = some r) ∧ Aside0 (kq ≤ k) ∧ Aside0 (w'.heap[gb284]? = some (.cells #[(.slice A0_0 l0_0.length c0_0)] 53 (0, 0))) ∧ Aside0 (Below w.heap.size w w'))
 case atStart => exact ⟨(0), rs0, H', ⟨Nat.le_refl _⟩, ⟨pkb BK284⟩, ⟨z6_3⟩⟩
 case round =>
  clear H'
  try clear p2
  obtain ⟨x5_1, rfl, HA, HK1, BK284, HB⟩ := hrel
  cases gk with
  | zero => exact absurd HA.out (by simp [spec_NodeAt.l0])
  | succ k1 =>
   have H := HA.out; clear HA
   simp only [spec_NodeAt.l0] at H
   by_cases c4 : x5_1 < (l0_0.length : Int)
   rotate_left
   ·rw [if_neg c4] at H
    have c4b0 := decide_eq_false c4
    clear c4
    obtain rfl := Option.some.inj H
    simp only [Option.some.injEq, Prod.mk.injEq] at H
    obtain ⟨rfl⟩ := H
    obtain ⟨_, _⟩ := be_1 BK284.out
    go_wp2
    go_ret
    exact ⟨(by first | rfl | (simp [errW_none, errW_some] <;> rfl) | (simp [*, errW_none, errW_some] <;> rfl)), z6_3⟩
   rw [if_pos c4] at H
   have c4b0 := decide_eq_true c4
   clear c4
   by_cases c5 : 0 ≤ x5_1
   rotate_left
   ·rw [if_neg c5] at H
    exact absurd H (by simp)
   rw [if_pos c5] at H
   have c5b0 := decide_eq_true c5
   clear c5
   by_cases c6 : ((rd_T69 l0_0 x5_1).f0) = a1
   rotate_left
   ·rw [if_neg c6] at H
    have c6b0 : (((rd_T69 l0_0 x5_1).f0) == a1) = false := beq_eq_false_iff_ne.mpr c6
    have c6b1 : (((rd_T69 l0_0 x5_1).f0) != a1) = true := bne_iff_ne.mpr c6
    have H' := mk0 H
    clear H
    obtain ⟨_, _⟩ := be_1 BK284.out
    have p285 : 0 ≤ (x5_1 : Int) := of_decide_eq_true (by first | (with_reducible assumption) | assumption)
    have q285 : x5_1 < (l0_0.length : Int) := of_decide_eq_true (by first | (with_reducible assumption) | assumption)
    obtain ⟨ad285, A285_9, c285_9, A285_10, c285_10, A285_13, c285_13, A285_29, c285_29, A285_30, c285_30, e285, hx285_0, hx285_1, hx285_2, hx285_3, hx285_4, hx285_5, hx285_6, hx285_7, hx285_8, hx285_9, hx285_10, hx285_11, hx285_12, hx285_13, hx285_14, hx285_15, hx285_16, hx285_17, hx285_18, hx285_19, hx285_20, hx285_21, hx285_22, hx285_23, hx285_24, hx285_25, hx285_26, hx285_27, hx285_28, hx285_29, hx285_30, hl285_9, hi285_9, hl285_10, hi285_10, hl285_13, hi285_13, hl285_29, hi285_29, hl285_30, hi285_30⟩ := at_T69 HR0_0.out x5_1 p285 q285
    have hM285 := lie_zero hx285_0 (lie_n hx285_1 (lie_n hx285_2 (lie_n hx285_3 (lie_n hx285_4 (lie_n hx285_5 (lie_n hx285_6 (lie_n hx285_7 (lie_n hx285_8 (lie_n hx285_9 (lie_n hx285_10 (lie_n hx285_11 (lie_n hx285_12 (lie_n hx285_13 (lie_n hx285_14 (lie_n hx285_15 (lie_n hx285_16 (lie_n hx285_17 (lie_n hx285_18 (lie_n hx285_19 (lie_n hx285_20 (lie_n hx285_21 (lie_n hx285_22 (lie_n hx285_23 (lie_n hx285_24 (lie_n hx285_25 (lie_n hx285_26 (lie_n hx285_27 (lie_n hx285_28 (lie_n hx285_29 (lie_n hx285_30 (lie_nil _ _ _)))))))))))))))))))))))))))))))
    cases e285
    replace hx285_0 := cell_go HB hx285_0
    replace hx285_1 := cell_go HB hx285_1
    replace hx285_2 := cell_go HB hx285_2
    replace hx285_3 := cell_go HB hx285_3
    replace hx285_4 := cell_go HB hx285_4
    replace hx285_5 := cell_go HB hx285_5
    replace hx285_6 := cell_go HB hx285_6
    replace hx285_7 := cell_go HB hx285_7
    replace hx285_8 := cell_go HB hx285_8
    replace hx285_9 := cell_go HB hx285_9
    replace hx285_10 := cell_go HB hx285_10
    replace hx285_11 := cell_go HB hx285_11
    replace hx285_12 := cell_go HB hx285_12
    replace hx285_13 := cell_go HB hx285_13
    replace hx285_14 := cell_go HB hx285_14
    replace hx285_15 := cell_go HB hx285_15
    replace hx285_16 := cell_go HB hx285_16
    replace hx285_17 := cell_go HB hx285_17
    replace hx285_18 := cell_go HB hx285_18
    replace hx285_19 := cell_go HB hx285_19
    replace hx285_20 := cell_go HB hx285_20
    replace hx285_21 := cell_go HB hx285_21
    replace hx285_22 := cell_go HB hx285_22
    replace hx285_23 := cell_go HB hx285_23
    replace hx285_24 := cell_go HB hx285_24
    replace hx285_25 := cell_go HB hx285_25
    replace hx285_26 := cell_go HB hx285_26
    replace hx285_27 := cell_go HB hx285_27
    replace hx285_28 := cell_go HB hx285_28
    replace hx285_29 := cell_go HB hx285_29
    replace hx285_30 := cell_go HB hx285_30
    have HR285_9 := mk0 hi285_9
    have HC285_9 := mk0 hl285_9
    clear hi285_9 hl285_9
    have HR285_10 := mk0 hi285_10
    have HC285_10 := mk0 hl285_10
    clear hi285_10 hl285_10
    have HR285_13 := mk0 hi285_13
    have HC285_13 := mk0 hl285_13
    clear hi285_13 hl285_13
    have HR285_29 := mk0 hi285_29
    have HC285_29 := mk0 hl285_29
    clear hi285_29 hl285_29
    have HR285_30 := mk0 hi285_30
    have HC285_30 := mk0 hl285_30
    clear hi285_30 hl285_30
    replace p285 := eq_true p285
    replace q285 := eq_true q285
    go_wp2_with (first | ((with_reducible refine gate_load (t := 69) rfl ?_); refine load_lie (t := 69) rfl rfl hM285 HB (by with_reducible rfl) rfl Try.underlying69 rfl (show (Try.prog.info? 69).map (·.size) = some 31 by kernel_rfl) rfl ?_) | ((with_reducible refine gate_load (t := 69) rfl ?_); refine load_lie0 (t := 69) rfl rfl hM285 (by with_reducible rfl) rfl Try.underlying69 rfl (show (Try.prog.info? 69).map (·.size) = some 31 by kernel_rfl) rfl ?_))
    go_roundg k1
    case measure => have := HK1.out; omega
    case rel => exact ⟨(wrap64 (x5_1 + 1)), rs0, H', ⟨(by have := HK1.out; omega)⟩, ⟨pkb BK284⟩, ⟨z6_3⟩⟩
   rw [if_pos c6] at H
   have c6b0 : (((rd_T69 l0_0 x5_1).f0) == a1) = true := beq_iff_eq.mpr c6
   have c6b1 : (((rd_T69 l0_0 x5_1).f0) != a1) = false := bne_eq_false_iff_eq.mpr c6
   clear c6
   obtain rfl := Option.some.inj H
   simp only [Option.some.injEq, Prod.mk.injEq] at H
   obtain ⟨rfl⟩ := H
   obtain ⟨_, _⟩ := be_1 BK284.out
   have p285 : 0 ≤ (x5_1 : Int) := of_decide_eq_true (by first | (with_reducible assumption) | assumption)
   have q285 : x5_1 < (l0_0.length : Int) := of_decide_eq_true (by first | (with_reducible assumption) | assumption)
   obtain ⟨ad285, A285_9, c285_9, A285_10, c285_10, A285_13, c285_13, A285_29, c285_29, A285_30, c285_30, e285, hx285_0, hx285_1, hx285_2, hx285_3, hx285_4, hx285_5, hx285_6, hx285_7, hx285_8, hx285_9, hx285_10, hx285_11, hx285_12, hx285_13, hx285_14, hx285_15, hx285_16, hx285_17, hx285_18, hx285_19, hx285_20, hx285_21, hx285_22, hx285_23, hx285_24, hx285_25, hx285_26, hx285_27, hx285_28, hx285_29, hx285_30, hl285_9, hi285_9, hl285_10, hi285_10, hl285_13, hi285_13, hl285_29, hi285_29, hl285_30, hi285_30⟩ := at_T69 HR0_0.out x5_1 p285 q285
   have hM285 := lie_zero hx285_0 (lie_n hx285_1 (lie_n hx285_2 (lie_n hx285_3 (lie_n hx285_4 (lie_n hx285_5 (lie_n hx285_6 (lie_n hx285_7 (lie_n hx285_8 (lie_n hx285_9 (lie_n hx285_10 (lie_n hx285_11 (lie_n hx285_12 (lie_n hx285_13 (lie_n hx285_14 (lie_n hx285_15 (lie_n hx285_16 (lie_n hx285_17 (lie_n hx285_18 (lie_n hx285_19 (lie_n hx285_20 (lie_n hx285_21 (lie_n hx285_22 (lie_n hx285_23 (lie_n hx285_24 (lie_n hx285_25 (lie_n hx285_26 (lie_n hx285_27 (lie_n hx285_28 (lie_n hx285_29 (lie_n hx285_30 (lie_nil _ _ _)))))))))))))))))))))))))))))))
   cases e285
   replace hx285_0 := cell_go HB hx285_0
   replace hx285_1 := cell_go HB hx285_1
   replace hx285_2 := cell_go HB hx285_2
   replace hx285_3 := cell_go HB hx285_3
   replace hx285_4 := cell_go HB hx285_4
   replace hx285_5 := cell_go HB hx285_5
   replace hx285_6 := cell_go HB hx285_6
   replace hx285_7 := cell_go HB hx285_7
   replace hx285_8 := cell_go HB hx285_8
   replace hx285_9 := cell_go HB hx285_9
   replace hx285_10 := cell_go HB hx285_10
   replace hx285_11 := cell_go HB hx285_11
   replace hx285_12 := cell_go HB hx285_12
   replace hx285_13 := cell_go HB hx285_13
   replace hx285_14 := cell_go HB hx285_14
   replace hx285_15 := cell_go HB hx285_15
   replace hx285_16 := cell_go HB hx285_16
   replace hx285_17 := cell_go HB hx285_17
   replace hx285_18 := cell_go HB hx285_18
   replace hx285_19 := cell_go HB hx285_19
   replace hx285_20 := cell_go HB hx285_20
   replace hx285_21 := cell_go HB hx285_21
   replace hx285_22 := cell_go HB hx285_22
   replace hx285_23 := cell_go HB hx285_23
   replace hx285_24 := cell_go HB hx285_24
   replace hx285_25 := cell_go HB hx285_25
   replace hx285_26 := cell_go HB hx285_26
   replace hx285_27 := cell_go HB hx285_27
   replace hx285_28 := cell_go HB hx285_28
   replace hx285_29 := cell_go HB hx285_29
   replace hx285_30 := cell_go HB hx285_30
   have HR285_9 := mk0 hi285_9
   have HC285_9 := mk0 hl285_9
   clear hi285_9 hl285_9
   have HR285_10 := mk0 hi285_10
   have HC285_10 := mk0 hl285_10
   clear hi285_10 hl285_10
   have HR285_13 := mk0 hi285_13
   have HC285_13 := mk0 hl285_13
   clear hi285_13 hl285_13
   have HR285_29 := mk0 hi285_29
   have HC285_29 := mk0 hl285_29
   clear hi285_29 hl285_29
   have HR285_30 := mk0 hi285_30
   have HC285_30 := mk0 hl285_30
   clear hi285_30 hl285_30
   replace p285 := eq_true p285
   replace q285 := eq_true q285
   go_wp2_with (first | ((with_reducible refine gate_load (t := 69) rfl ?_); refine load_lie (t := 69) rfl rfl hM285 HB (by with_reducible rfl) rfl Try.underlying69 rfl (show (Try.prog.info? 69).map (·.size) = some 31 by kernel_rfl) rfl ?_) | ((with_reducible refine gate_load (t := 69) rfl ?_); refine load_lie0 (t := 69) rfl rfl hM285 (by with_reducible rfl) rfl Try.underlying69 rfl (show (Try.prog.info? 69).map (·.size) = some 31 by kernel_rfl) rfl ?_))
   go_ret
   exact ⟨(by first | rfl | (simp [errW_none, errW_some] <;> rfl) | (simp [*, errW_none, errW_some] <;> rfl)), z6_3⟩

end Go.Proofs.Ytjfienkbcacijaa.MFnExactUnderOf
