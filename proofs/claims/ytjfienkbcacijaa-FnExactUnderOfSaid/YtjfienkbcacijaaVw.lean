import Derived.Test.YtjfienkbcacijaaWLast
import Derived.Test.YtjfienkbcacijaaWMore
import Derived.Test.YtjfienkbcacijaaWTab
import Derived.KernelRfl
import Derived.Deep.MidRow
namespace Go.Proofs.YtjfienkbcacijaaW.PrintLast
open Go.RowKit Go.Proofs.YtjfienkbcacijaaW.PrintWords
section
variable {P : Program} {ops : Array Oper} {md : Region.Mode} {Q : Exit → Act → World → Prop}
end

section
variable {P : Program} {ops : Array Oper} {rest : List Oper} {o : Oper} {a : Act} {W : World} {Q : Exit → Act → World → Prop}
theorem gate_load {t : TypeId} {x : Operand} (_ho : o.op = .load t x) (h : wpList P ops Q (o :: rest) a W) : wpList P ops Q (o :: rest) a W := h
def Lie (w : World) (p : Addr) : Nat → List Value → Prop
  | _, [] => True
  | n, v :: vs => w.cell? (p.add n) = some v ∧ Lie w p (n + 1) vs
theorem lie_nil (w : World) (p : Addr) (n : Nat) : Lie w p n [] := trivial
theorem lie_zero {w : World} {p : Addr} {v : Value} {vs : List Value} (h : w.cell? p = some v) (t : Lie w p 1 vs) : Lie w p 0 (v :: vs) := ⟨by simpa [Addr.add] using h, t⟩
theorem lie_n {w : World} {p : Addr} {n : Nat} {v : Value} {vs : List Value} (h : w.cell? ⟨p.block, p.off + (n + 1), none⟩ = some v) (t : Lie w p (n + 2) vs) : Lie w p (n + 1) (v :: vs) := ⟨by simpa [Addr.add] using h, t⟩
theorem lie_at : ∀ {w : World} {p : Addr} {n : Nat} {vs : List Value}, Lie w p n vs → ∀ j v, vs[j]? = some v → w.cell? (p.add (n + j)) = some v
  | _, _, _, [], _, j, v, h => by simp at h
  | _, _, _, x :: vs, ⟨h0, h1⟩, 0, v, h => by
    obtain rfl : x = v := by simpa using h
    exact h0
  | w, p, n, x :: vs, ⟨h0, h1⟩, j + 1, v, h => by
    have := lie_at h1 j v (by simpa using h)
    rwa [show n + 1 + j = n + (j + 1) by omega] at this
theorem lie_of : ∀ {w : World} {p : Addr} {n : Nat} {vs : List Value}, (∀ j v, vs[j]? = some v → w.cell? (p.add (n + j)) = some v) → Lie w p n vs
  | _, _, _, [], _ => trivial
  | w, p, n, x :: vs, h => ⟨h 0 x rfl, lie_of fun j v hv => by
    have := h (j + 1) v (by simpa using hv)
    rwa [show n + (j + 1) = n + 1 + j by omega] at this⟩
theorem lie_of_blk {w : World} {g : Nat} {t : TypeId} {cs : Array Value} (h : w.heap[g]? = some (.cells cs t (0, 0))) : Lie w ⟨g, 0, none⟩ 0 cs.toList :=
  lie_of fun j v hv => by
    rw [Nat.zero_add, add_plain, blk_cell h j]
    simpa using hv
theorem load_event (hgd : o.guard = none) {t : TypeId} {x : Operand} (ho : o.op = .load t x) {p : Addr} (hx : a.eval x = .pointer (some p)) (cs : List Value) (d : TypeDesc) (hc : Lie W p 0 cs)
    (hu : P.underlying t = some d) (hd : d.isRow = true) (hi : (P.info? t).map (·.size) = some cs.length) (h : wpList P ops Q rest (a.put o.dst (.agg cs.toArray)) W) : wpList P ops Q (o :: rest) a W := by
  refine wpList_plain hgd fun K hK => ?_
  have hl : (loadCells p cs.length).run P W = .ok cs.toArray W :=
    run_loadCells_list (P := P) W p cs (fun j v hv => by have := lie_at hc j v hv; rwa [Nat.zero_add] at this)
  have hv : (loadVar t p).run P W = .ok (.agg cs.toArray) W := by
    cases hq : P.info? t with
    | none => simp [hq] at hi
    | some i =>
      have hs : i.size = cs.length := by simpa [hq] using hi
      have hagg : (isAgg t).run P W = .ok true W := by
        unfold isAgg
        rw [Sem.run_bind, run_underlying hu W]
        cases d <;> simp_all
      simp [loadVar, Sem.run_bind, hagg, sizeOf, typeInfo, hq, hs, hl]
  unfold Oper.wp execOp
  simp only [ho, hx, Instr.loadAt, Instr.sureAddr, Sem.run_bind, Sem.run_pure, Result.andThen_ok, hv]
  exact hK _ _ h
def allOne : List Value → Bool
  | [] => true
  | v :: vs => v.oneCell' && allOne vs
theorem allOne_mem : ∀ {vs : List Value}, allOne vs = true → ∀ v ∈ vs, v.oneCell' = true
  | [], _, v, hv => by simp at hv
  | x :: vs, h, v, hv => by
    simp only [allOne, Bool.and_eq_true] at h
    rcases List.mem_cons.mp hv with rfl | hv
    · exact h.1
    · exact allOne_mem h.2 v hv
theorem wstore_event (hgd : o.guard = none) {t : TypeId} {x y : Operand} (ho : o.op = .store t x y) {g : Nat} (hx : a.eval x = .pointer (some ⟨g, 0, none⟩)) (cells : Array Value) (hy : a.eval y = .agg cells) {cs : Array Value} (hb : W.heap[g]? = some (.cells cs t (0, 0))) (hs : cs.size = cells.size)
    (hi : (P.info? t).map (·.size) = some cells.size) (h1 : allOne cells.toList = true) (h : wpList P ops Q rest (a.put o.dst undef) (W.setCells g 0 cells.toList)) : wpList P ops Q (o :: rest) a W :=
  wpList_store_mid hgd t x y ho g 0 cells hx hy (fun j hj => ⟨by
    rw [Nat.zero_add, blk_cell hb j]
    simp [hs, hj], by
    rw [Nat.zero_add]
    exact blk_frozen hb j⟩) hi (Array.all_eq_true_iff_forall_mem.2 fun v hv => allOne_mem h1 v (by simpa using hv)) h
theorem there_of {W : World} {g n m : Nat} {c : List Value} (hcl : c.length = m) (hcc : ∀ j u, c[j]? = some u → W.cell? ⟨g, n + j, none⟩ = some u) (hfr : ∀ j, W.frozen? ⟨g, n + j, none⟩ = false) : W.there g n m := fun j hj =>
  ⟨by rw [hcc j _ (List.getElem?_eq_getElem (by omega))]; rfl, hfr j⟩
theorem below_setCells {w : World} {g : Nat} : ∀ (vs : List Value) {W : World} {j : Nat}, Below w.heap.size w W → w.heap.size ≤ g → Below w.heap.size w (W.setCells g j vs)
  | [], _, _, h, _ => h
  | _ :: vs, _, _, h, hg => by
    rw [World.setCells]
    exact below_setCells vs (below_set h hg) hg
theorem kstore_event (hgd : o.guard = none) {t : TypeId} {x y : Operand} (ho : o.op = .store t x y) {g n : Nat} (hx : a.eval x = .pointer (some ⟨g, n, none⟩)) (cells : List Value) (hy : a.eval y = .agg cells.toArray) (ht : W.there g n cells.length)
    (hi : (P.info? t).map (·.size) = some cells.length) (h1 : allOne cells = true) (h : ∀ w1, w1 = W.setCells g n cells → wpList P ops Q rest (a.put o.dst undef) w1) : wpList P ops Q (o :: rest) a W :=
  wpList_store_mid hgd t x y ho g n cells.toArray hx hy (by simpa using ht) (by simpa using hi) (Array.all_eq_true_iff_forall_mem.2 fun v hv => allOne_mem h1 v (by simpa using hv)) (h _ rfl)
theorem lie_below {w W : World} (hb : Below w.heap.size w W) {p : Addr} : ∀ {n : Nat} {cs : List Value}, Lie w p n cs → Lie W p n cs
  | _, [], _ => trivial
  | _, _ :: _, ⟨h0, h1⟩ => ⟨(hb.cell (World.block_lt_of_cell? w _ h0)).trans h0, lie_below hb h1⟩
theorem load_yields {t : TypeId} {x : Operand} (ho : o.op = .load t x) {p : Addr} (hx : a.eval x = .pointer (some p)) (cs : List Value) (d : TypeDesc) (hc : Lie W p 0 cs)
    (hu : P.underlying t = some d) (hd : d.isRow = true) (hi : (P.info? t).map (·.size) = some cs.length) : (execOp a.eval o).run P W = .ok (.value (.agg cs.toArray)) W := by
  have hl : (loadCells p cs.length).run P W = .ok cs.toArray W :=
    run_loadCells_list (P := P) W p cs (fun j v hv => by have := lie_at hc j v hv; rwa [Nat.zero_add] at this)
  have hv : (loadVar t p).run P W = .ok (.agg cs.toArray) W := by
    cases hq : P.info? t with
    | none => simp [hq] at hi
    | some i =>
      have hs : i.size = cs.length := by simpa [hq] using hi
      have hagg : (isAgg t).run P W = .ok true W := by
        unfold isAgg
        rw [Sem.run_bind, run_underlying hu W]
        cases d <;> simp_all
      simp [loadVar, Sem.run_bind, hagg, sizeOf, typeInfo, hq, hs, hl]
  unfold execOp
  simp only [ho, hx, Instr.loadAt, Instr.sureAddr, Sem.run_bind, Sem.run_pure, Result.andThen_ok, hv]
end
section
variable {P : Program} {ops : Array Oper} {rest : List Oper} {o : Oper} {a : Act} {W : World} {Q : Exit → Act → World → Prop}
theorem load_blk (hgd : o.guard = none) {t : TypeId} {x : Operand} (ho : o.op = .load t x) {w0 : World} {g : Nat} {cs : Array Value} (_hB : Aside0 (w0.heap[g]? = some (.cells cs t (0, 0)))) (hx : a.eval x = .pointer (some ⟨g, 0, none⟩)) (hb : W.heap[g]? = some (.cells cs t (0, 0)))
    {d : TypeDesc} (hu : P.underlying t = some d) (hd : d.isRow = true) {n : Nat} (hi : (P.info? t).map (·.size) = some n) (hn : cs.size = n) (h : wpList P ops Q rest (a.put o.dst (.agg cs)) W) : wpList P ops Q (o :: rest) a W :=
  load_event hgd ho hx cs.toList d (lie_of_blk hb) hu hd (by rw [hi, ← hn]; rfl) h
theorem wstore_blk (hgd : o.guard = none) {t : TypeId} {x y : Operand} (ho : o.op = .store t x y) {w0 : World} {g : Nat} {cs : Array Value} (_hB : Aside0 (w0.heap[g]? = some (.cells cs t (0, 0)))) (hx : a.eval x = .pointer (some ⟨g, 0, none⟩)) {cells : Array Value} (hy : a.eval y = .agg cells) (hb : W.heap[g]? = some (.cells cs t (0, 0))) (hs : cs.size = cells.size)
    (hi : (P.info? t).map (·.size) = some cells.size) (h1 : allOne cells.toList = true) (h : wpList P ops Q rest (a.put o.dst undef) (W.setCells g 0 cells.toList)) : wpList P ops Q (o :: rest) a W :=
  wstore_event hgd ho hx cells hy hb hs hi h1 h
end
theorem blk_putQ {w : World} {g : Nat} {t : TypeId} {cs : Array Value} {i : Nat} {u : Value} (h : w.heap[g]? = some (.cells cs t (0, 0))) : (w.setCell ⟨g, i, none⟩ u).heap[g]? = some (.cells (cs.setIfInBounds i u) t (0, 0)) := blk_set h i u
theorem blk_fin {w : World} {g : Nat} {t : TypeId} {cs cs' : Array Value} (h : w.heap[g]? = some (.cells cs t (0, 0))) (e : cs = cs') : w.heap[g]? = some (.cells cs' t (0, 0)) := e ▸ h
theorem blk_ltB {w0 w : World} {g : Nat} {o : Obj} (_hB : Aside0 (w0.heap[g]? = some o)) (h : w.heap[g]? = some o) : g < w.heap.size := blk_lt h
theorem cell_go {w W : World} (hB : Aside0 (Below w.heap.size w W)) {p : Addr} {v : Value} (h : w.cell? p = some v) : W.cell? p = some v := (hB.out.cell (World.block_lt_of_cell? w _ h)).trans h
theorem blk_farQ {w : World} {g : Nat} {o : Obj} {p : Addr} {u : Value} (hne : g ≠ p.block) (h : w.heap[g]? = some o) : (w.setCell p u).heap[g]? = some o := (Below.heap_setCell w p u g hne).trans h
section
variable {P : Program} {ops : Array Oper} {rest : List Oper} {o : Oper} {a : Act} {Q : Exit → Act → World → Prop}
theorem boxz {W : World} {cs : Array Value} {t : TypeId} (hgd : o.guard = none) (h : ∀ g, g = W.heap.size → ∀ w1, w1.heap[g]? = some (.cells cs t (0, 0)) → Below W.heap.size W w1 → wpList P ops Q rest (a.put o.dst (.pointer (some ⟨g, 0, none⟩))) w1)
    (hrun : (execOp a.eval o).run P W = .ok (.value (.pointer (some ⟨W.heap.size, 0, none⟩))) (W.alloc (.cells cs t (0, 0))) := by first | (go_simp; done) | (go_simp; rfl)) : wpList P ops Q (o :: rest) a W :=
  Kd.event_run hgd hrun (h _ rfl _ (blk_new W _) (below_alloc (Below.refl _ _) _))
end
theorem nb_lt {g g' n : Nat} (hg : g' = n) (h : g < n) : g ≠ g' := by omega
theorem nb_gt {g g' n : Nat} (hg : g' = n) (h : g < n) : g' ≠ g := by omega
theorem ge_go {a g n : Nat} (hg : g = n) (h : a ≤ n) : a ≤ g := by omega
section
variable {P : Program} {ops : Array Oper} {rest : List Oper} {o : Oper} {a : Act} {W : World} {Q : Exit → Act → World → Prop}
theorem load_lie (hgd : o.guard = none) {t : TypeId} {x : Operand} (ho : o.op = .load t x) {p : Addr} {w0 W' : World} {cs : List Value} (hM : Lie w0 p 0 cs) (hB : Aside0 (Below w0.heap.size w0 W')) (hW : W = W') (hx : a.eval x = .pointer (some p))
    {d : TypeDesc} (hu : P.underlying t = some d) (hd : d.isRow = true) {n : Nat} (hi : (P.info? t).map (·.size) = some n) (hn : cs.length = n) (h : wpList P ops Q rest (a.put o.dst (.agg cs.toArray)) W) : wpList P ops Q (o :: rest) a W :=
  load_event hgd ho hx cs d (by subst hW; exact lie_below hB.out hM) hu hd (by rw [hi, ← hn]) h
theorem load_lie0 (hgd : o.guard = none) {t : TypeId} {x : Operand} (ho : o.op = .load t x) {p : Addr} {w0 : World} {cs : List Value} (hM : Lie w0 p 0 cs) (hW : W = w0) (hx : a.eval x = .pointer (some p))
    {d : TypeDesc} (hu : P.underlying t = some d) (hd : d.isRow = true) {n : Nat} (hi : (P.info? t).map (·.size) = some n) (hn : cs.length = n) (h : wpList P ops Q rest (a.put o.dst (.agg cs.toArray)) W) : wpList P ops Q (o :: rest) a W :=
  load_event hgd ho hx cs d (by subst hW; exact hM) hu hd (by rw [hi, ← hn]) h
end
theorem blk_belowB {w0 w W : World} {g : Nat} {o : Obj} (_hB : Aside0 (w0.heap[g]? = some o)) (h : w.heap[g]? = some o) (hb : Below w.heap.size w W) : W.heap[g]? = some o := blk_below h hb
section
variable {P : Program} {md : Region.Mode} {ops : Array Oper} {Q : Exit → Act → World → Prop} {S : World → Prop} {ds : List Nat}
theorem pzv {i : Nat} {N : Tmp} {oi : Oper} {v : Value} {fuel : Nat} {l : Array Bool} {a : Act} {w : World} {T : Bool × List (List Nat × List Nat)} (l' : Array Bool) (hT : Aside0 (rtab md ops = T)) (hv : ∀ w, (execOp a.eval oi).run P w = .ok (.value v) w) {a' : Act} (ha : a.put (some N) v = a')
    (h : wpAnyLast P md ops Q S ds fuel l' a' w) (hi : ops[i]? = some oi := by exact rfl) (hN : oi.dst = some N := by exact rfl) (hc : anyT T l.toList l'.toList i = true := by kernel_rfl) (hQ : ∀ c a w, Q (.panic c) (a.put oi.dst v) w → Q (.panic c) a w := by exact fun _ _ _ h => h) (hg : Region.wanted oi (yielded ops a.tmps) = true := by rfl) : wpAnyLast P md ops Q S ds (fuel + 1) l a w :=
  pure_ l' hi hN (any_of hT.out hc) hQ (Or.inl ⟨hg, hv⟩) ha h
end
theorem mk0 {p : Prop} (h : p) : Aside0 p := ⟨h⟩
def bA (n m : Nat) : Array Bool := ((List.range n).map fun i => m.testBit i).toArray
theorem pkb {P Q : Prop} (h : Aside0 Q) (f : Q → P := by intro h_; (with_reducible repeat (first | refine blk_drewN ?_ _ | refine blk_drew ?_ | refine blk_alloc ?_ _)); exact h_) : P := f h.out
theorem pkR {P Q : Prop} (h : Aside0 Q) (f : Q → P := by intro h_; (with_reducible repeat (first | apply Kd.R_alloc | apply Kd.R_drewN | apply Kd.R_drew)); exact h_) : P := f h.out
theorem pkS {P Q : Prop} (h : Aside0 Q) (f : Q → P := by intro h_; (with_reducible repeat (first | apply Kd.S_alloc | apply Kd.S_drewN | apply Kd.S_drew)); exact h_) : P := f h.out
theorem rs0 {P : Prop} (h : P := by first | rfl | (simp; done) | (simp [*]; done)) : P := h
theorem tyq_S {α : Type} {d : Kd α} {e : Nat} {W : World} {base : Nat} {ok : Nat → Prop} {v : Value} {xs : List α} (h : Kd.S d e W base ok v xs) : Kd.S d e W base (fun k_ => ok k_ ∧ ∃ q, q ∈ e :: d.E ∧ ∃ cells, W.heap[k_]? = some (.cells cells q (0, 0))) v xs :=
  Kd.S_mono (Kd.S_bound h) (fun _ hk => ⟨hk.1, hk.2.2.2⟩)
theorem tyq_no {W : World} {g t : Nat} {cs : Array Value} {l : List Nat} (h : W.heap[g]? = some (.cells cs t (0, 0))) (hl : ∀ q, q ∈ l → q ≠ t) : ¬ ∃ q, q ∈ l ∧ ∃ cells, W.heap[g]? = some (.cells cells q (0, 0)) := by
  rintro ⟨q, hq, c, hc⟩
  rw [h] at hc
  injection hc with hc
  injection hc with _ hc
  exact hl q hq hc.symm
section
variable {α : Type} {d : Kd α} {e : Nat} {w0 w W : World} {base g i0 i1 i2 i3 i4 i5 : Nat} {ok : Nat → Prop} {v u0 u1 u2 u3 u4 u5 : Value} {xs : List α}
end
section
variable {P : Program} {md : Region.Mode} {ops : Array Oper} {Q : Exit → Act → World → Prop} {S : World → Prop} {ds : List Nat}
end
section
variable {P : Program} {ops : Array Oper} {Q : Exit → Act → World → Prop} {rest : List Oper} {o : Oper} {a : Act}
end
section
variable {α β : Type} {d : Kd α} {d' : Kd β} {e e2 base n1 : Nat} {W w1 : World} {v u : Value} {xs : List α} {ys : List β} {ok : Nat → Prop}
end
end Go.Proofs.YtjfienkbcacijaaW.PrintLast
