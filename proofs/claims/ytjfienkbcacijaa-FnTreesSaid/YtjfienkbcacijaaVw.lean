import Derived.Test.YtjfienkbcacijaaWLast
import Derived.Test.YtjfienkbcacijaaWMore
import Derived.Test.YtjfienkbcacijaaWTab
import Derived.KernelRfl
import Derived.Deep.MidRow
namespace Go.Proofs.YtjfienkbcacijaaW.PrintLast
open Go.RowKit Go.Proofs.YtjfienkbcacijaaW.PrintWords
section
variable {P : Program} {ops : Array Oper} {md : Region.Mode} {Q : Exit → Act → World → Prop}
end

section
variable {P : Program} {ops : Array Oper} {rest : List Oper} {o : Oper} {a : Act} {W : World} {Q : Exit → Act → World → Prop}
theorem gate_load {t : TypeId} {x : Operand} (_ho : o.op = .load t x) (h : wpList P ops Q (o :: rest) a W) : wpList P ops Q (o :: rest) a W := h
def Lie (w : World) (p : Addr) : Nat → List Value → Prop
  | _, [] => True
  | n, v :: vs => w.cell? (p.add n) = some v ∧ Lie w p (n + 1) vs
theorem lie_nil (w : World) (p : Addr) (n : Nat) : Lie w p n [] := trivial
theorem lie_zero {w : World} {p : Addr} {v : Value} {vs : List Value} (h : w.cell? p = some v) (t : Lie w p 1 vs) : Lie w p 0 (v :: vs) := ⟨by simpa [Addr.add] using h, t⟩
theorem lie_n {w : World} {p : Addr} {n : Nat} {v : Value} {vs : List Value} (h : w.cell? ⟨p.block, p.off + (n + 1), none⟩ = some v) (t : Lie w p (n + 2) vs) : Lie w p (n + 1) (v :: vs) := ⟨by simpa [Addr.add] using h, t⟩
theorem lie_at : ∀ {w : World} {p : Addr} {n : Nat} {vs : List Value}, Lie w p n vs → ∀ j v, vs[j]? = some v → w.cell? (p.add (n + j)) = some v
  | _, _, _, [], _, j, v, h => by simp at h
  | _, _, _, x :: vs, ⟨h0, h1⟩, 0, v, h => by
    obtain rfl : x = v := by simpa using h
    exact h0
  | w, p, n, x :: vs, ⟨h0, h1⟩, j + 1, v, h => by
    have := lie_at h1 j v (by simpa using h)
    rwa [show n + 1 + j = n + (j + 1) by omega] at this
theorem lie_of : ∀ {w : World} {p : Addr} {n : Nat} {vs : List Value}, (∀ j v, vs[j]? = some v → w.cell? (p.add (n + j)) = some v) → Lie w p n vs
  | _, _, _, [], _ => trivial
  | w, p, n, x :: vs, h => ⟨h 0 x rfl, lie_of fun j v hv => by
    have := h (j + 1) v (by simpa using hv)
    rwa [show n + (j + 1) = n + 1 + j by omega] at this⟩
theorem lie_of_blk {w : World} {g : Nat} {t : TypeId} {cs : Array Value} (h : w.heap[g]? = some (.cells cs t (0, 0))) : Lie w ⟨g, 0, none⟩ 0 cs.toList :=
  lie_of fun j v hv => by
    rw [Nat.zero_add, add_plain, blk_cell h j]
    simpa using hv
theorem load_event (hgd : o.guard = none) {t : TypeId} {x : Operand} (ho : o.op = .load t x) {p : Addr} (hx : a.eval x = .pointer (some p)) (cs : List Value) (d : TypeDesc) (hc : Lie W p 0 cs)
    (hu : P.underlying t = some d) (hd : d.isRow = true) (hi : (P.info? t).map (·.size) = some cs.length) (h : wpList P ops Q rest (a.put o.dst (.agg cs.toArray)) W) : wpList P ops Q (o :: rest) a W := by
  refine wpList_plain hgd fun K hK => ?_
  have hl : (loadCells p cs.length).run P W = .ok cs.toArray W :=
    run_loadCells_list (P := P) W p cs (fun j v hv => by have := lie_at hc j v hv; rwa [Nat.zero_add] at this)
  have hv : (loadVar t p).run P W = .ok (.agg cs.toArray) W := by
    cases hq : P.info? t with
    | none => simp [hq] at hi
    | some i =>
      have hs : i.size = cs.length := by simpa [hq] using hi
      have hagg : (isAgg t).run P W = .ok true W := by
        unfold isAgg
        rw [Sem.run_bind, run_underlying hu W]
        cases d <;> simp_all
      simp [loadVar, Sem.run_bind, hagg, sizeOf, typeInfo, hq, hs, hl]
  unfold Oper.wp execOp
  simp only [ho, hx, Instr.loadAt, Instr.sureAddr, Sem.run_bind, Sem.run_pure, Result.andThen_ok, hv]
  exact hK _ _ h
def allOne : List Value → Bool
  | [] => true
  | v :: vs => v.oneCell' && allOne vs
theorem allOne_mem : ∀ {vs : List Value}, allOne vs = true → ∀ v ∈ vs, v.oneCell' = true
  | [], _, v, hv => by simp at hv
  | x :: vs, h, v, hv => by
    simp only [allOne, Bool.and_eq_true] at h
    rcases List.mem_cons.mp hv with rfl | hv
    · exact h.1
    · exact allOne_mem h.2 v hv
theorem wstore_event (hgd : o.guard = none) {t : TypeId} {x y : Operand} (ho : o.op = .store t x y) {g : Nat} (hx : a.eval x = .pointer (some ⟨g, 0, none⟩)) (cells : Array Value) (hy : a.eval y = .agg cells) {cs : Array Value} (hb : W.heap[g]? = some (.cells cs t (0, 0))) (hs : cs.size = cells.size)
    (hi : (P.info? t).map (·.size) = some cells.size) (h1 : allOne cells.toList = true) (h : wpList P ops Q rest (a.put o.dst undef) (W.setCells g 0 cells.toList)) : wpList P ops Q (o :: rest) a W :=
  wpList_store_mid hgd t x y ho g 0 cells hx hy (fun j hj => ⟨by
    rw [Nat.zero_add, blk_cell hb j]
    simp [hs, hj], by
    rw [Nat.zero_add]
    exact blk_frozen hb j⟩) hi (Array.all_eq_true_iff_forall_mem.2 fun v hv => allOne_mem h1 v (by simpa using hv)) h
theorem below_setCells {w : World} {g : Nat} : ∀ (vs : List Value) {W : World} {j : Nat}, Below w.heap.size w W → w.heap.size ≤ g → Below w.heap.size w (W.setCells g j vs)
  | [], _, _, h, _ => h
  | _ :: vs, _, _, h, hg => by
    rw [World.setCells]
    exact below_setCells vs (below_set h hg) hg
theorem lie_below {w W : World} (hb : Below w.heap.size w W) {p : Addr} : ∀ {n : Nat} {cs : List Value}, Lie w p n cs → Lie W p n cs
  | _, [], _ => trivial
  | _, _ :: _, ⟨h0, h1⟩ => ⟨(hb.cell (World.block_lt_of_cell? w _ h0)).trans h0, lie_below hb h1⟩
theorem load_yields {t : TypeId} {x : Operand} (ho : o.op = .load t x) {p : Addr} (hx : a.eval x = .pointer (some p)) (cs : List Value) (d : TypeDesc) (hc : Lie W p 0 cs)
    (hu : P.underlying t = some d) (hd : d.isRow = true) (hi : (P.info? t).map (·.size) = some cs.length) : (execOp a.eval o).run P W = .ok (.value (.agg cs.toArray)) W := by
  have hl : (loadCells p cs.length).run P W = .ok cs.toArray W :=
    run_loadCells_list (P := P) W p cs (fun j v hv => by have := lie_at hc j v hv; rwa [Nat.zero_add] at this)
  have hv : (loadVar t p).run P W = .ok (.agg cs.toArray) W := by
    cases hq : P.info? t with
    | none => simp [hq] at hi
    | some i =>
      have hs : i.size = cs.length := by simpa [hq] using hi
      have hagg : (isAgg t).run P W = .ok true W := by
        unfold isAgg
        rw [Sem.run_bind, run_underlying hu W]
        cases d <;> simp_all
      simp [loadVar, Sem.run_bind, hagg, sizeOf, typeInfo, hq, hs, hl]
  unfold execOp
  simp only [ho, hx, Instr.loadAt, Instr.sureAddr, Sem.run_bind, Sem.run_pure, Result.andThen_ok, hv]
def ix4 (i a b c d : Int) : Int := if i = 0 then a else if i = 1 then b else if i = 2 then c else d
theorem gate_index {t : TypeId} {x y : Operand} (_ho : o.op = .index t x y) (h : wpList P ops Q (o :: rest) a W) : wpList P ops Q (o :: rest) a W := h
theorem index_four (hgd : o.guard = none) {t e : TypeId} {x y : Operand} (ho : o.op = .index t x y) (hu : P.underlying t = some (.array 4 e)) {m : Nat} (hi : (P.info? e).map (·.size) = some m) {cells : Array Value} (hx : a.eval x = .agg cells) {i : Int} (hy : a.eval y = .int .i64 i) (h0 : 0 ≤ i) (h1 : i < 4)
    {v : Value} (hv : (part e cells (i.toNat * m)).run P W = .ok v W) (h : wpList P ops Q rest (a.put o.dst v) W) : wpList P ops Q (o :: rest) a W := by
  refine wpList_plain hgd fun K hK => ?_
  have hs : (sizeOf e).run P W = .ok m W := by
    cases hq : P.info? e with
    | none => simp [hq] at hi
    | some z =>
      have hz : z.size = m := by simpa [hq] using hi
      simp [sizeOf, typeInfo, hq, hz]
  unfold Oper.wp execOp
  have hr : (Instr.index t (.agg cells) (.int .i64 i)).run P W = .ok v W := by
    unfold Instr.index
    have h1' : i < ((4 : Nat) : Int) := h1
    simp only [asIntOf, Sem.run_bind, Sem.run_pure, Result.andThen_ok, run_underlying hu, h0, h1', and_self, if_true, hs, hv]
  simp only [ho, hx, hy, Sem.run_bind, hr, Result.andThen_ok, Sem.run_pure]
  exact hK _ _ h
theorem index_one (hgd : o.guard = none) {t e : TypeId} {x y : Operand} (ho : o.op = .index t x y) (hu : P.underlying t = some (.array 4 e)) {k : IntKind} (he : P.underlying e = some (.int k)) (hi : (P.info? e).map (·.size) = some 1) {A B C D : Int} (hx : a.eval x = .agg #[.int .i64 A, .int .i64 B, .int .i64 C, .int .i64 D]) {i : Int} (hy : a.eval y = .int .i64 i) (h0 : 0 ≤ i) (h1 : i < 4)
    (h : wpList P ops Q rest (a.put o.dst (.int .i64 (ix4 i A B C D))) W) : wpList P ops Q (o :: rest) a W := by
  refine index_four hgd ho hu hi hx hy h0 h1 ?_ h
  have hi4 : i = 0 ∨ i = 1 ∨ i = 2 ∨ i = 3 := by omega
  rcases hi4 with rfl | rfl | rfl | rfl <;> simp [part, isAgg, run_underlying he, ix4]
end
section
variable {P : Program} {ops : Array Oper} {rest : List Oper} {o : Oper} {a : Act} {W : World} {Q : Exit → Act → World → Prop}
theorem load_blk (hgd : o.guard = none) {t : TypeId} {x : Operand} (ho : o.op = .load t x) {w0 : World} {g : Nat} {cs : Array Value} (_hB : Aside0 (w0.heap[g]? = some (.cells cs t (0, 0)))) (hx : a.eval x = .pointer (some ⟨g, 0, none⟩)) (hb : W.heap[g]? = some (.cells cs t (0, 0)))
    {d : TypeDesc} (hu : P.underlying t = some d) (hd : d.isRow = true) {n : Nat} (hi : (P.info? t).map (·.size) = some n) (hn : cs.size = n) (h : wpList P ops Q rest (a.put o.dst (.agg cs)) W) : wpList P ops Q (o :: rest) a W :=
  load_event hgd ho hx cs.toList d (lie_of_blk hb) hu hd (by rw [hi, ← hn]; rfl) h
theorem load_at {t : TypeId} {x : Operand} (g : Nat) (_ho : o.op = .load t x) (_hx : a.eval x = .pointer (some ⟨g, 0, none⟩)) (h : wpList P ops Q (o :: rest) a W) : wpList P ops Q (o :: rest) a W := h
theorem load_blkQ (hgd : o.guard = none) {t : TypeId} {x : Operand} (ho : o.op = .load t x) {w0 : World} {g : Nat} {c0 : Array Value} (_hB : Aside0 (w0.heap[g]? = some (.cells c0 t (0, 0)))) (hx : a.eval x = .pointer (some ⟨g, 0, none⟩)) {cs : Array Value} (hb : W.heap[g]? = some (.cells cs t (0, 0)))
    {d : TypeDesc} (hu : P.underlying t = some d) (hd : d.isRow = true) {n : Nat} (hi : (P.info? t).map (·.size) = some n) (hn : cs.size = n) (h : wpList P ops Q rest (a.put o.dst (.agg cs)) W) : wpList P ops Q (o :: rest) a W :=
  load_event hgd ho hx cs.toList d (lie_of_blk hb) hu hd (by rw [hi, ← hn]; rfl) h
theorem wstore_blk (hgd : o.guard = none) {t : TypeId} {x y : Operand} (ho : o.op = .store t x y) {w0 : World} {g : Nat} {cs : Array Value} (_hB : Aside0 (w0.heap[g]? = some (.cells cs t (0, 0)))) (hx : a.eval x = .pointer (some ⟨g, 0, none⟩)) {cells : Array Value} (hy : a.eval y = .agg cells) (hb : W.heap[g]? = some (.cells cs t (0, 0))) (hs : cs.size = cells.size)
    (hi : (P.info? t).map (·.size) = some cells.size) (h1 : allOne cells.toList = true) (h : wpList P ops Q rest (a.put o.dst undef) (W.setCells g 0 cells.toList)) : wpList P ops Q (o :: rest) a W :=
  wstore_event hgd ho hx cells hy hb hs hi h1 h
end
theorem blk_putQ {w : World} {g : Nat} {t : TypeId} {cs : Array Value} {i : Nat} {u : Value} (h : w.heap[g]? = some (.cells cs t (0, 0))) : (w.setCell ⟨g, i, none⟩ u).heap[g]? = some (.cells (cs.setIfInBounds i u) t (0, 0)) := blk_set h i u
theorem blk_fin {w : World} {g : Nat} {t : TypeId} {cs cs' : Array Value} (h : w.heap[g]? = some (.cells cs t (0, 0))) (e : cs = cs') : w.heap[g]? = some (.cells cs' t (0, 0)) := e ▸ h
theorem blk_ltB {w0 w : World} {g : Nat} {o : Obj} (_hB : Aside0 (w0.heap[g]? = some o)) (h : w.heap[g]? = some o) : g < w.heap.size := blk_lt h
theorem cell_go {w W : World} (hB : Aside0 (Below w.heap.size w W)) {p : Addr} {v : Value} (h : w.cell? p = some v) : W.cell? p = some v := (hB.out.cell (World.block_lt_of_cell? w _ h)).trans h
theorem blk_farQ {w : World} {g : Nat} {o : Obj} {p : Addr} {u : Value} (hne : g ≠ p.block) (h : w.heap[g]? = some o) : (w.setCell p u).heap[g]? = some o := (Below.heap_setCell w p u g hne).trans h
section
variable {P : Program} {ops : Array Oper} {rest : List Oper} {o : Oper} {a : Act} {Q : Exit → Act → World → Prop}
theorem boxz {W : World} {cs : Array Value} {t : TypeId} (hgd : o.guard = none) (h : ∀ g, g = W.heap.size → ∀ w1, w1.heap[g]? = some (.cells cs t (0, 0)) → Below W.heap.size W w1 → wpList P ops Q rest (a.put o.dst (.pointer (some ⟨g, 0, none⟩))) w1)
    (hrun : (execOp a.eval o).run P W = .ok (.value (.pointer (some ⟨W.heap.size, 0, none⟩))) (W.alloc (.cells cs t (0, 0))) := by first | (go_simp; done) | (go_simp; rfl)) : wpList P ops Q (o :: rest) a W :=
  Kd.event_run hgd hrun (h _ rfl _ (blk_new W _) (below_alloc (Below.refl _ _) _))
end
theorem nb_lt {g g' n : Nat} (hg : g' = n) (h : g < n) : g ≠ g' := by omega
theorem nb_gt {g g' n : Nat} (hg : g' = n) (h : g < n) : g' ≠ g := by omega
theorem ge_go {a g n : Nat} (hg : g = n) (h : a ≤ n) : a ≤ g := by omega
section
variable {P : Program} {ops : Array Oper} {rest : List Oper} {o : Oper} {a : Act} {W : World} {Q : Exit → Act → World → Prop}
theorem load_lie (hgd : o.guard = none) {t : TypeId} {x : Operand} (ho : o.op = .load t x) {p : Addr} {w0 W' : World} {cs : List Value} (hM : Lie w0 p 0 cs) (hB : Aside0 (Below w0.heap.size w0 W')) (hW : W = W') (hx : a.eval x = .pointer (some p))
    {d : TypeDesc} (hu : P.underlying t = some d) (hd : d.isRow = true) {n : Nat} (hi : (P.info? t).map (·.size) = some n) (hn : cs.length = n) (h : wpList P ops Q rest (a.put o.dst (.agg cs.toArray)) W) : wpList P ops Q (o :: rest) a W :=
  load_event hgd ho hx cs d (by subst hW; exact lie_below hB.out hM) hu hd (by rw [hi, ← hn]) h
theorem load_lie0 (hgd : o.guard = none) {t : TypeId} {x : Operand} (ho : o.op = .load t x) {p : Addr} {w0 : World} {cs : List Value} (hM : Lie w0 p 0 cs) (hW : W = w0) (hx : a.eval x = .pointer (some p))
    {d : TypeDesc} (hu : P.underlying t = some d) (hd : d.isRow = true) {n : Nat} (hi : (P.info? t).map (·.size) = some n) (hn : cs.length = n) (h : wpList P ops Q rest (a.put o.dst (.agg cs.toArray)) W) : wpList P ops Q (o :: rest) a W :=
  load_event hgd ho hx cs d (by subst hW; exact hM) hu hd (by rw [hi, ← hn]) h
end
theorem Kd.C_belowB {α : Type} {d : Kd α} {w0 w w1 : World} {A : Option Addr} {n : Nat} {xs : List α} (_hx : Aside0 (d.C w0 A n xs)) (h : d.C w A n xs) (hb : Below w.heap.size w w1) : d.C w1 A n xs := Kd.C_below h hb
theorem blk_belowB {w0 w W : World} {g : Nat} {o : Obj} (_hB : Aside0 (w0.heap[g]? = some o)) (h : w.heap[g]? = some o) (hb : Below w.heap.size w W) : W.heap[g]? = some o := blk_below h hb
section
variable {P : Program} {md : Region.Mode} {ops : Array Oper} {Q : Exit → Act → World → Prop} {S : World → Prop} {ds : List Nat}
theorem pzv {i : Nat} {N : Tmp} {oi : Oper} {v : Value} {fuel : Nat} {l : Array Bool} {a : Act} {w : World} {T : Bool × List (List Nat × List Nat)} (l' : Array Bool) (hT : Aside0 (rtab md ops = T)) (hv : ∀ w, (execOp a.eval oi).run P w = .ok (.value v) w) {a' : Act} (ha : a.put (some N) v = a')
    (h : wpAnyLast P md ops Q S ds fuel l' a' w) (hi : ops[i]? = some oi := by exact rfl) (hN : oi.dst = some N := by exact rfl) (hc : anyT T l.toList l'.toList i = true := by kernel_rfl) (hQ : ∀ c a w, Q (.panic c) (a.put oi.dst v) w → Q (.panic c) a w := by exact fun _ _ _ h => h) (hg : Region.wanted oi (yielded ops a.tmps) = true := by rfl) : wpAnyLast P md ops Q S ds (fuel + 1) l a w :=
  pure_ l' hi hN (any_of hT.out hc) hQ (Or.inl ⟨hg, hv⟩) ha h
theorem pzu {i : Nat} {N : Tmp} {oi : Oper} {fuel : Nat} {l : Array Bool} {a : Act} {w : World} {T : Bool × List (List Nat × List Nat)} (l' : Array Bool) (hT : Aside0 (rtab md ops = T)) {a' : Act} (ha : a.put (some N) undef = a')
    (h : wpAnyLast P md ops Q S ds fuel l' a' w) (hi : ops[i]? = some oi := by exact rfl) (hN : oi.dst = some N := by exact rfl) (hc : anyT T l.toList l'.toList i = true := by kernel_rfl) (hQ : ∀ c a w, Q (.panic c) (a.put oi.dst undef) w → Q (.panic c) a w := by exact fun _ _ _ h => h) (hg : Region.wanted oi (yielded ops a.tmps) = false := by rfl) : wpAnyLast P md ops Q S ds (fuel + 1) l a w :=
  pure_ l' hi hN (any_of hT.out hc) hQ (Or.inr ⟨hg, rfl⟩) ha h
end
theorem mk0 {p : Prop} (h : p) : Aside0 p := ⟨h⟩
def bA (n m : Nat) : Array Bool := ((List.range n).map fun i => m.testBit i).toArray
theorem pkb {P Q : Prop} (h : Aside0 Q) (f : Q → P := by intro h_; (with_reducible repeat (first | refine blk_drewN ?_ _ | refine blk_drew ?_ | refine blk_alloc ?_ _)); exact h_) : P := f h.out
theorem pkR {P Q : Prop} (h : Aside0 Q) (f : Q → P := by intro h_; (with_reducible repeat (first | apply Kd.R_alloc | apply Kd.R_drewN | apply Kd.R_drew)); exact h_) : P := f h.out
theorem pkN {P Q : Prop} (h : Aside0 Q) (f : Q → P := by intro h_; (with_reducible repeat (first | apply Kd.N_alloc | apply Kd.N_drewN | apply Kd.N_drew)); exact h_) : P := f h.out
theorem pkV {P Q : Prop} (h : Aside0 Q) (f : Q → P := by intro h_; (with_reducible repeat (first | apply Kd.V_alloc | apply Kd.V_drewN | apply Kd.V_drew)); exact h_) : P := f h.out
theorem rs0 {P : Prop} (h : P := by first | rfl | (simp; done) | (simp [*]; done)) : P := h
theorem heap_setCells {g k : Nat} (hne : k ≠ g) : ∀ (vs : List Value) (W : World) (j : Nat), (W.setCells g j vs).heap[k]? = W.heap[k]?
  | [], _, _ => rfl
  | v :: vs, W, j => by
    rw [World.setCells, heap_setCells hne vs]
    exact Below.heap_setCell W ⟨g, j, none⟩ v k hne
theorem Kd.R_farW0 {α : Type} {d : Kd α} {e : Nat} {base : Nat} {ok : Nat → Prop} {v : Value} {xs : List α} {g : Nat} (hok : ∀ k, ok k → k ≠ g) : ∀ {vs : List Value} {w : World} {j : Nat}, d.R e w base ok v xs → d.R e (w.setCells g j vs) base ok v xs
  | [], _, _, h => h
  | u :: vs, w, j, h => by
    rw [World.setCells]
    exact Kd.R_farW0 hok (Kd.R_far (p := ⟨g, j, none⟩) h hok u)
theorem Kd.N_farW0 {α : Type} {d : Kd α} {e : Nat} {base : Nat} {ok : Nat → Prop} {v : Value} {xs : List α} {g : Nat} (hok : ∀ k, ok k → k ≠ g) : ∀ {vs : List Value} {w : World} {j : Nat}, Kd.N d e w base ok v xs → Kd.N d e (w.setCells g j vs) base ok v xs
  | [], _, _, h => h
  | u :: vs, w, j, h => by
    rw [World.setCells]
    exact Kd.N_farW0 hok (Kd.N_far (p := ⟨g, j, none⟩) h hok u)
theorem Kd.V_farW0 {α : Type} {d : Kd α} {e : Nat} {base : Nat} {ok : Nat → Prop} {v : Value} {xs : List α} {g : Nat} (hok : ∀ k, ok k → k ≠ g) : ∀ {vs : List Value} {w : World} {j : Nat}, Kd.V d e w base ok v xs → Kd.V d e (w.setCells g j vs) base ok v xs
  | [], _, _, h => h
  | u :: vs, w, j, h => by
    rw [World.setCells]
    exact Kd.V_farW0 hok (Kd.V_far (p := ⟨g, j, none⟩) h hok u)
theorem Kd.R_farW {α : Type} {d : Kd α} {e : Nat} {base : Nat} {ok : Nat → Prop} {v : Value} {xs : List α} {w : World} (h : d.R e w base ok v xs) {g : Nat} (hok : ∀ k, ok k → k ≠ g) {vs : List Value} {j : Nat} : d.R e (w.setCells g j vs) base ok v xs := Kd.R_farW0 hok h
theorem Kd.N_farW {α : Type} {d : Kd α} {e : Nat} {base : Nat} {ok : Nat → Prop} {v : Value} {xs : List α} {w : World} (h : Kd.N d e w base ok v xs) {g : Nat} (hok : ∀ k, ok k → k ≠ g) {vs : List Value} {j : Nat} : Kd.N d e (w.setCells g j vs) base ok v xs := Kd.N_farW0 hok h
theorem Kd.V_farW {α : Type} {d : Kd α} {e : Nat} {base : Nat} {ok : Nat → Prop} {v : Value} {xs : List α} {w : World} (h : Kd.V d e w base ok v xs) {g : Nat} (hok : ∀ k, ok k → k ≠ g) {vs : List Value} {j : Nat} : Kd.V d e (w.setCells g j vs) base ok v xs := Kd.V_farW0 hok h
theorem blk_farW {w : World} {g g' j : Nat} {o : Obj} {vs : List Value} (h : w.heap[g]? = some o) (hne : g ≠ g') : (w.setCells g' j vs).heap[g]? = some o := (heap_setCells hne vs w j).trans h
theorem cell_farW {g j : Nat} : ∀ {vs : List Value} {W : World} {a : Addr} (_h : a.block ≠ g), (W.setCells g j vs).cell? a = W.cell? a := by
  intro vs
  induction vs generalizing j with
  | nil => intro W a _; rfl
  | cons v vs ih =>
    intro W a h
    rw [World.setCells, ih h]
    exact cell_far (p := ⟨g, j, none⟩) h v
theorem keep_farW {w : World} {g g' : Nat} {row : Option Nat} {vs : List Value} (hp : w.heap.size ≤ g') : ∀ {W : World} {j : Nat}, KeepBut w W g row → KeepBut w (W.setCells g' j vs) g row := by
  induction vs with
  | nil => intro W j h; exact h
  | cons v vs ih =>
    intro W j h
    rw [World.setCells]
    exact ih (keep_far (p := ⟨g', j, none⟩) h hp v)
def setAll (cs : Array Value) (j : Nat) : List Value → Array Value
  | [] => cs
  | v :: vs => setAll (cs.setIfInBounds j v) (j + 1) vs
theorem blk_setQ {g : Nat} {t : TypeId} : ∀ {vs : List Value} {w : World} {cs : Array Value} {j : Nat}, w.heap[g]? = some (.cells cs t (0, 0)) → (w.setCells g j vs).heap[g]? = some (.cells (setAll cs j vs) t (0, 0))
  | [], _, _, _, h => h
  | v :: vs, w, cs, j, h => by
    rw [World.setCells, setAll]
    exact blk_setQ (blk_set h j v)
theorem setAll_full : ∀ (ds : List Value) (vs : List Value) (cs : List Value), cs.length = vs.length → setAll (ds ++ cs).toArray ds.length vs = (ds ++ vs).toArray
  | ds, [], cs, h => by
    obtain rfl := List.eq_nil_of_length_eq_zero h
    rfl
  | ds, v :: vs, [], h => absurd h (by simp)
  | ds, v :: vs, c :: cs, h => by
    have e : (ds ++ c :: cs).toArray.setIfInBounds ds.length v = ((ds ++ [v]) ++ cs).toArray := by simp
    have ih := setAll_full (ds ++ [v]) vs cs (by simpa using h)
    rw [setAll, e]
    rw [List.length_append, List.length_singleton] at ih
    rw [ih]
    simp
theorem blk_setW {g : Nat} {t : TypeId} {w : World} {cs cells : Array Value} (h : w.heap[g]? = some (.cells cs t (0, 0))) (hs : cs.size = cells.size) : (w.setCells g 0 cells.toList).heap[g]? = some (.cells cells t (0, 0)) := by
  have h2 := blk_setQ (vs := cells.toList) (j := 0) h
  have e := setAll_full [] cells.toList cs.toList (by simpa using hs)
  simp only [List.nil_append, List.length_nil, Array.toArray_toList] at e
  rw [e] at h2
  exact h2
theorem Kd.R_farE {α : Type} {d : Kd α} {e : Nat} {base : Nat} {ok : Nat → Prop} {v : Value} {xs : List α} {w w1 : World} {g j : Nat} {vs : List Value} (hw : w1 = w.setCells g j vs) (h : d.R e w base ok v xs) (hok : ∀ k, ok k → k ≠ g) : d.R e w1 base ok v xs := hw ▸ Kd.R_farW h hok
theorem Kd.N_farE {α : Type} {d : Kd α} {e : Nat} {base : Nat} {ok : Nat → Prop} {v : Value} {xs : List α} {w w1 : World} {g j : Nat} {vs : List Value} (hw : w1 = w.setCells g j vs) (h : Kd.N d e w base ok v xs) (hok : ∀ k, ok k → k ≠ g) : Kd.N d e w1 base ok v xs := hw ▸ Kd.N_farW h hok
theorem Kd.V_farE {α : Type} {d : Kd α} {e : Nat} {base : Nat} {ok : Nat → Prop} {v : Value} {xs : List α} {w w1 : World} {g j : Nat} {vs : List Value} (hw : w1 = w.setCells g j vs) (h : Kd.V d e w base ok v xs) (hok : ∀ k, ok k → k ≠ g) : Kd.V d e w1 base ok v xs := hw ▸ Kd.V_farW h hok
theorem blk_farE {w w1 : World} {g g' j : Nat} {o : Obj} {vs : List Value} (hw : w1 = w.setCells g' j vs) (h : w.heap[g]? = some o) (hne : g ≠ g') : w1.heap[g]? = some o := hw ▸ blk_farW h hne
theorem cell_farE {w w1 : World} {g j : Nat} {vs : List Value} (hw : w1 = w.setCells g j vs) {a : Addr} (h : a.block ≠ g) : w1.cell? a = w.cell? a := hw ▸ cell_farW h
theorem keep_farE {w w' w1 : World} {g g' j : Nat} {row : Option Nat} {vs : List Value} (hw : w1 = w'.setCells g' j vs) (h : KeepBut w w' g row) (hp : w.heap.size ≤ g') : KeepBut w w1 g row := hw ▸ keep_farW hp h
theorem below_setE {w W w1 : World} {g j : Nat} {vs : List Value} (hw : w1 = W.setCells g j vs) (h : Below w.heap.size w W) (hg : w.heap.size ≤ g) : Below w.heap.size w w1 := hw ▸ below_setCells vs h hg
theorem blk_setE {w w1 : World} {g t : Nat} {cs : Array Value} {vs : List Value} (hw : w1 = w.setCells g 0 vs) (h : w.heap[g]? = some (.cells cs t (0, 0))) (hs : cs.size = vs.length) : w1.heap[g]? = some (.cells vs.toArray t (0, 0)) := hw ▸ (by have h2 := blk_setW (cells := vs.toArray) h (by simpa using hs); simpa using h2)
theorem lie_step {w W : World} {p : Addr} {n : Nat} {cs : List Value} (h : Lie w p n cs) (hc : ∀ (a : Addr) (v : Value), a.block = p.block → w.cell? a = some v → W.cell? a = some v) : Lie W p n cs :=
  lie_of (fun j v hv => hc _ v (add_block _ _) (lie_at h j v hv))
theorem lie_keep {w w1 : World} {g : Nat} {p : Addr} {n : Nat} {cs : List Value} (hk : KeepBut w w1 g none) (h : Lie w p n cs) (hne : p.block ≠ g) : Lie w1 p n cs :=
  lie_step h (fun _ _ e hv => keep_cell hk hv (by rw [e]; exact hne))
theorem lie_farE {w w1 : World} {g j : Nat} {vs : List Value} {p : Addr} {n : Nat} {cs : List Value} (hw : w1 = w.setCells g j vs) (h : Lie w p n cs) (hne : p.block ≠ g) : Lie w1 p n cs :=
  lie_step h (fun _ _ e hv => (cell_farE hw (by rw [e]; exact hne)).trans hv)
section
variable {P : Program} {ops : Array Oper} {Q : Exit → Act → World → Prop} {rest : List Oper} {o : Oper} {a : Act} {W : World}
theorem store_yields {t : TypeId} {x y : Operand} (ho : o.op = .store t x y) {g : Nat} (hx : a.eval x = .pointer (some ⟨g, 0, none⟩)) {cells : Array Value} (hy : a.eval y = .agg cells) {cs : Array Value} (hb : W.heap[g]? = some (.cells cs t (0, 0))) (hs : cs.size = cells.size)
    (hi : (P.info? t).map (·.size) = some cells.size) (h1 : allOne cells.toList = true) : (execOp a.eval o).run P W = .ok .skip (W.setCells g 0 cells.toList) := by
  unfold execOp
  simp only [ho, hx, hy, Instr.storeAt, Instr.sureAddr, Sem.run_bind, Sem.run_pure, Result.andThen_ok, run_storeVar_mid W g 0 t cells (fun j hj => ⟨by
    rw [Nat.zero_add, blk_cell hb j]
    simp [hs, hj], by
    rw [Nat.zero_add]
    exact blk_frozen hb j⟩) hi (Array.all_eq_true_iff_forall_mem.2 fun v hv => allOne_mem h1 v (by simpa using hv))]
theorem wstore_blkW (hgd : o.guard = none) {t : TypeId} {x y : Operand} (ho : o.op = .store t x y) {w0 : World} {g : Nat} {cs : Array Value} (_hB : Aside0 (w0.heap[g]? = some (.cells cs t (0, 0)))) (hx : a.eval x = .pointer (some ⟨g, 0, none⟩)) {cells : Array Value} (hy : a.eval y = .agg cells) (hb : W.heap[g]? = some (.cells cs t (0, 0))) (hs : cs.size = cells.size)
    (hi : (P.info? t).map (·.size) = some cells.size) (h1 : allOne cells.toList = true) (h : ∀ w1, w1 = W.setCells g 0 cells.toList → w1.heap[g]? = some (.cells cells t (0, 0)) → wpList P ops Q rest (a.put o.dst undef) w1) : wpList P ops Q (o :: rest) a W :=
  wstore_event hgd ho hx cells hy hb hs hi h1 (h _ rfl (blk_setW hb hs))
end
theorem bnd {α β : Type} {f : Option α} {g : α → Option β} {r : β} (h : f.bind g = some r) : ∃ t, Aside0 (f = some t) ∧ g t = some r := by
  obtain ⟨t, h1, h2⟩ := Option.bind_eq_some_iff.mp h
  exact ⟨t, ⟨h1⟩, h2⟩
theorem bB {w0 w W : World} {g : Nat} {o : Obj} (h : Aside0 (w0.heap[g]? = some o)) (hb : Below w.heap.size w W) (f : w0.heap[g]? = some o → w.heap[g]? = some o := by intro h_; (with_reducible repeat (first | refine blk_drewN ?_ _ | refine blk_drew ?_ | refine blk_alloc ?_ _)); exact h_) : Aside0 (W.heap[g]? = some o) := ⟨blk_below (f h.out) hb⟩
theorem bS {w W w2 : World} (h : Below w.heap.size w W) (k : Below W.heap.size W w2) : Aside0 (Below w.heap.size w w2) := ⟨below_step h k⟩
theorem fB {w0 w : World} {g : Nat} {o : Obj} (_h : Aside0 (w0.heap[g]? = some o)) (hb : w.heap[g]? = some o) : ∀ k, w.heap.size ≤ k → k ≠ g := Kd.freshB hb
theorem gB {w0 w w1 : World} {g : Nat} {o : Obj} {row : Option Nat} (_h : Aside0 (w0.heap[g]? = some o)) (h : w.heap[g]? = some o) (hg : w.grownBy w1 row) (hne : some g ≠ row) : w1.heap[g]? = some o := blk_grown h hg hne
theorem kB {w0 W w1 : World} {g g' : Nat} {o : Obj} (_h : Aside0 (w0.heap[g']? = some o)) (hk : KeepBut W w1 g none) (hb : W.heap[g']? = some o) (hn : Aside0 (g' ≠ g)) : Aside0 (w1.heap[g']? = some o) := ⟨KeepBut.blk hk hb hn.out (by simp)⟩
section
variable {α : Type} {d : Kd α} {e : Nat} {w0 w W : World} {base g i0 i1 i2 i3 i4 i5 : Nat} {ok : Nat → Prop} {v u0 u1 u2 u3 u4 u5 : Value} {xs : List α}
theorem bR (h : Aside0 (d.R e w0 base ok v xs)) (hb : Below w.heap.size w W) (f : d.R e w0 base ok v xs → d.R e w base ok v xs := by intro h_; (with_reducible repeat (first | apply Kd.R_alloc | apply Kd.R_drewN | apply Kd.R_drew)); exact h_) : Aside0 (d.R e W base ok v xs) := ⟨Kd.R_below (f h.out) hb⟩
theorem R_f2 (h : Kd.R d e w base ok v xs) (hok : ∀ k, ok k → k ≠ g) : Kd.R d e ((w.setCell ⟨g, i0, none⟩ u0).setCell ⟨g, i1, none⟩ u1) base ok v xs := (Kd.R_far (p := ⟨g, i1, none⟩) (Kd.R_far (p := ⟨g, i0, none⟩) h hok u0) hok u1)
theorem R_f6 (h : Kd.R d e w base ok v xs) (hok : ∀ k, ok k → k ≠ g) : Kd.R d e ((((((w.setCell ⟨g, i0, none⟩ u0).setCell ⟨g, i1, none⟩ u1).setCell ⟨g, i2, none⟩ u2).setCell ⟨g, i3, none⟩ u3).setCell ⟨g, i4, none⟩ u4).setCell ⟨g, i5, none⟩ u5) base ok v xs := (Kd.R_far (p := ⟨g, i5, none⟩) (Kd.R_far (p := ⟨g, i4, none⟩) (Kd.R_far (p := ⟨g, i3, none⟩) (Kd.R_far (p := ⟨g, i2, none⟩) (Kd.R_far (p := ⟨g, i1, none⟩) (Kd.R_far (p := ⟨g, i0, none⟩) h hok u0) hok u1) hok u2) hok u3) hok u4) hok u5)
end
section
variable {P : Program} {md : Region.Mode} {ops : Array Oper} {Q : Exit → Act → World → Prop} {S : World → Prop} {ds : List Nat}
theorem pzx {i : Nat} {N : Tmp} {oi : Oper} {v : Value} {fuel : Nat} {l : Array Bool} {a : Act} {w : World} {T : Bool × List (List Nat × List Nat)} (l' : Array Bool) (hT : Aside0 (rtab md ops = T)) {a' : Act}
    (h : wpAnyLast P md ops Q S ds fuel l' a' w) (hi : ops[i]? = some oi := by exact rfl) (hN : oi.dst = some N := by exact rfl) (hv : ∀ w, (execOp a.eval oi).run P w = .ok (.value v) w := by intro w'; go_simp; with_reducible rfl) (ha : a.put (some N) v = a' := by simp only [Act.put, List.setIfInBounds_toArray, List.set_cons_zero, List.set_cons_succ, i64_w, i32_w]; rfl) (hc : anyT T l.toList l'.toList i = true := by kernel_rfl) (hQ : ∀ c a w, Q (.panic c) (a.put oi.dst v) w → Q (.panic c) a w := by exact fun _ _ _ h => h) (hg : Region.wanted oi (yielded ops a.tmps) = true := by rfl) : wpAnyLast P md ops Q S ds (fuel + 1) l a w :=
  pzv l' hT hv ha h hi hN hc hQ hg
theorem pzy {i : Nat} {N : Tmp} {oi : Oper} {fuel : Nat} {l : Array Bool} {a : Act} {w : World} {T : Bool × List (List Nat × List Nat)} (l' : Array Bool) (hT : Aside0 (rtab md ops = T)) {a' : Act}
    (h : wpAnyLast P md ops Q S ds fuel l' a' w) (hi : ops[i]? = some oi := by exact rfl) (hN : oi.dst = some N := by exact rfl) (ha : a.put (some N) undef = a' := by simp only [Act.put, List.setIfInBounds_toArray, List.set_cons_zero, List.set_cons_succ, i64_w, i32_w]; rfl) (hc : anyT T l.toList l'.toList i = true := by kernel_rfl) (hQ : ∀ c a w, Q (.panic c) (a.put oi.dst undef) w → Q (.panic c) a w := by exact fun _ _ _ h => h) (hg : Region.wanted oi (yielded ops a.tmps) = false := by rfl) : wpAnyLast P md ops Q S ds (fuel + 1) l a w :=
  pzu l' hT ha h hi hN hc hQ hg
theorem gl_ {rest : List Oper} {oi : Oper} {a : Act} {w : World} (N : Option Tmp) {f : FuncId} {fn : Func} {as : Array Operand} {ts : Array TypeId} (hf : P.funcs[f]? = some fn) (args : Array Value) (hop : oi.op = .call { callee := .value (.func f), args := as, argTypes := ts }) (hargs : as.map a.eval = args)
    (h : Calls P f args w fun e w' => ∃ v, e = .returned v ∧ wpList P ops Q rest (a.put N v) w') (hd : oi.dst = N := by exact rfl) (hg : oi.guard = none := by exact rfl) (hname : (fn.name == "runtime.NumGoroutine") = false := by kernel_rfl) (hb : fn.body.isSome = true := by exact rfl) : wpList P ops Q (oi :: rest) a w :=
  goesL_ N hd hg hf hname hb args hop hargs h
end
section
variable {P : Program} {ops : Array Oper} {Q : Exit → Act → World → Prop} {rest : List Oper} {o : Oper} {a : Act}
end
section
variable {α β : Type} {d : Kd α} {d' : Kd β} {e e2 base n1 : Nat} {W w1 : World} {v u : Value} {xs : List α} {ys : List β} {ok : Nat → Prop}
end
end Go.Proofs.YtjfienkbcacijaaW.PrintLast
