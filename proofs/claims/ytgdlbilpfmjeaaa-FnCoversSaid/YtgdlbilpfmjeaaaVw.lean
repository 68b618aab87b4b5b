import Derived.Test.YtgdlbilpfmjeaaaWLast
import Derived.Test.YtgdlbilpfmjeaaaWMore
import Derived.Test.YtgdlbilpfmjeaaaWTab
import Derived.KernelRfl
import Derived.Deep.MidRow
namespace Go.Proofs.YtgdlbilpfmjeaaaW.PrintLast
open Go.RowKit Go.Proofs.YtgdlbilpfmjeaaaW.PrintWords
section
variable {P : Program} {ops : Array Oper} {md : Region.Mode} {Q : Exit → Act → World → Prop}
end

section
variable {P : Program} {ops : Array Oper} {rest : List Oper} {o : Oper} {a : Act} {W : World} {Q : Exit → Act → World → Prop}
def ix4 (i a b c d : Int) : Int := if i = 0 then a else if i = 1 then b else if i = 2 then c else d
theorem gate_index {t : TypeId} {x y : Operand} (_ho : o.op = .index t x y) (h : wpList P ops Q (o :: rest) a W) : wpList P ops Q (o :: rest) a W := h
theorem index_four (hgd : o.guard = none) {t e : TypeId} {x y : Operand} (ho : o.op = .index t x y) (hu : P.underlying t = some (.array 4 e)) {m : Nat} (hi : (P.info? e).map (·.size) = some m) {cells : Array Value} (hx : a.eval x = .agg cells) {i : Int} (hy : a.eval y = .int .i64 i) (h0 : 0 ≤ i) (h1 : i < 4)
    {v : Value} (hv : (part e cells (i.toNat * m)).run P W = .ok v W) (h : wpList P ops Q rest (a.put o.dst v) W) : wpList P ops Q (o :: rest) a W := by
  refine wpList_plain hgd fun K hK => ?_
  have hs : (sizeOf e).run P W = .ok m W := by
    cases hq : P.info? e with
    | none => simp [hq] at hi
    | some z =>
      have hz : z.size = m := by simpa [hq] using hi
      simp [sizeOf, typeInfo, hq, hz]
  unfold Oper.wp execOp
  have hr : (Instr.index t (.agg cells) (.int .i64 i)).run P W = .ok v W := by
    unfold Instr.index
    have h1' : i < ((4 : Nat) : Int) := h1
    simp only [asIntOf, Sem.run_bind, Sem.run_pure, Result.andThen_ok, run_underlying hu, h0, h1', and_self, if_true, hs, hv]
  simp only [ho, hx, hy, Sem.run_bind, hr, Result.andThen_ok, Sem.run_pure]
  exact hK _ _ h
theorem index_two (hgd : o.guard = none) {t e : TypeId} {x y : Operand} (ho : o.op = .index t x y) (hu : P.underlying t = some (.array 4 e)) {d : TypeDesc} (he : P.underlying e = some d) (hd : d.isRow = true) (hi : (P.info? e).map (·.size) = some 2) {A A' B B' C C' D D' : Int} (hx : a.eval x = .agg #[.int .i64 A, .int .i64 A', .int .i64 B, .int .i64 B', .int .i64 C, .int .i64 C', .int .i64 D, .int .i64 D']) {i : Int} (hy : a.eval y = .int .i64 i) (h0 : 0 ≤ i) (h1 : i < 4)
    (h : wpList P ops Q rest (a.put o.dst (.agg #[.int .i64 (ix4 i A B C D), .int .i64 (ix4 i A' B' C' D')])) W) : wpList P ops Q (o :: rest) a W := by
  refine index_four hgd ho hu hi hx hy h0 h1 ?_ h
  have hs : (sizeOf e).run P W = .ok 2 W := by
    cases hq : P.info? e with
    | none => simp [hq] at hi
    | some z =>
      have hz : z.size = 2 := by simpa [hq] using hi
      simp [sizeOf, typeInfo, hq, hz]
  have hi4 : i = 0 ∨ i = 1 ∨ i = 2 ∨ i = 3 := by omega
  cases d <;> simp [TypeDesc.isRow] at hd <;> rcases hi4 with rfl | rfl | rfl | rfl <;> simp [part, isAgg, run_underlying he, ix4, hs]
end
section
variable {P : Program} {ops : Array Oper} {rest : List Oper} {o : Oper} {a : Act} {W : World} {Q : Exit → Act → World → Prop}
end
theorem blk_putQ {w : World} {g : Nat} {t : TypeId} {cs : Array Value} {i : Nat} {u : Value} (h : w.heap[g]? = some (.cells cs t (0, 0))) : (w.setCell ⟨g, i, none⟩ u).heap[g]? = some (.cells (cs.setIfInBounds i u) t (0, 0)) := blk_set h i u
theorem blk_fin {w : World} {g : Nat} {t : TypeId} {cs cs' : Array Value} (h : w.heap[g]? = some (.cells cs t (0, 0))) (e : cs = cs') : w.heap[g]? = some (.cells cs' t (0, 0)) := e ▸ h
theorem blk_ltB {w0 w : World} {g : Nat} {o : Obj} (_hB : Aside0 (w0.heap[g]? = some o)) (h : w.heap[g]? = some o) : g < w.heap.size := blk_lt h
theorem blk_farQ {w : World} {g : Nat} {o : Obj} {p : Addr} {u : Value} (hne : g ≠ p.block) (h : w.heap[g]? = some o) : (w.setCell p u).heap[g]? = some o := (Below.heap_setCell w p u g hne).trans h
section
variable {P : Program} {ops : Array Oper} {rest : List Oper} {o : Oper} {a : Act} {Q : Exit → Act → World → Prop}
theorem boxz {W : World} {cs : Array Value} {t : TypeId} (hgd : o.guard = none) (h : ∀ g, g = W.heap.size → ∀ w1, w1.heap[g]? = some (.cells cs t (0, 0)) → Below W.heap.size W w1 → wpList P ops Q rest (a.put o.dst (.pointer (some ⟨g, 0, none⟩))) w1)
    (hrun : (execOp a.eval o).run P W = .ok (.value (.pointer (some ⟨W.heap.size, 0, none⟩))) (W.alloc (.cells cs t (0, 0))) := by first | (go_simp; done) | (go_simp; rfl)) : wpList P ops Q (o :: rest) a W :=
  Kd.event_run hgd hrun (h _ rfl _ (blk_new W _) (below_alloc (Below.refl _ _) _))
end
theorem nb_lt {g g' n : Nat} (hg : g' = n) (h : g < n) : g ≠ g' := by omega
theorem nb_gt {g g' n : Nat} (hg : g' = n) (h : g < n) : g' ≠ g := by omega
theorem ge_go {a g n : Nat} (hg : g = n) (h : a ≤ n) : a ≤ g := by omega
section
variable {P : Program} {ops : Array Oper} {rest : List Oper} {o : Oper} {a : Act} {W : World} {Q : Exit → Act → World → Prop}
end
theorem blk_belowB {w0 w W : World} {g : Nat} {o : Obj} (_hB : Aside0 (w0.heap[g]? = some o)) (h : w.heap[g]? = some o) (hb : Below w.heap.size w W) : W.heap[g]? = some o := blk_below h hb
section
variable {P : Program} {md : Region.Mode} {ops : Array Oper} {Q : Exit → Act → World → Prop} {S : World → Prop} {ds : List Nat}
theorem pzv {i : Nat} {N : Tmp} {oi : Oper} {v : Value} {fuel : Nat} {l : Array Bool} {a : Act} {w : World} {T : Bool × List (List Nat × List Nat)} (l' : Array Bool) (hT : Aside0 (rtab md ops = T)) (hv : ∀ w, (execOp a.eval oi).run P w = .ok (.value v) w) {a' : Act} (ha : a.put (some N) v = a')
    (h : wpAnyLast P md ops Q S ds fuel l' a' w) (hi : ops[i]? = some oi := by exact rfl) (hN : oi.dst = some N := by exact rfl) (hc : anyT T l.toList l'.toList i = true := by kernel_rfl) (hQ : ∀ c a w, Q (.panic c) (a.put oi.dst v) w → Q (.panic c) a w := by exact fun _ _ _ h => h) (hg : Region.wanted oi (yielded ops a.tmps) = true := by rfl) : wpAnyLast P md ops Q S ds (fuel + 1) l a w :=
  pure_ l' hi hN (any_of hT.out hc) hQ (Or.inl ⟨hg, hv⟩) ha h
theorem pzu {i : Nat} {N : Tmp} {oi : Oper} {fuel : Nat} {l : Array Bool} {a : Act} {w : World} {T : Bool × List (List Nat × List Nat)} (l' : Array Bool) (hT : Aside0 (rtab md ops = T)) {a' : Act} (ha : a.put (some N) undef = a')
    (h : wpAnyLast P md ops Q S ds fuel l' a' w) (hi : ops[i]? = some oi := by exact rfl) (hN : oi.dst = some N := by exact rfl) (hc : anyT T l.toList l'.toList i = true := by kernel_rfl) (hQ : ∀ c a w, Q (.panic c) (a.put oi.dst undef) w → Q (.panic c) a w := by exact fun _ _ _ h => h) (hg : Region.wanted oi (yielded ops a.tmps) = false := by rfl) : wpAnyLast P md ops Q S ds (fuel + 1) l a w :=
  pure_ l' hi hN (any_of hT.out hc) hQ (Or.inr ⟨hg, rfl⟩) ha h
end
end Go.Proofs.YtgdlbilpfmjeaaaW.PrintLast
