/- A call of a function value, as one step of a region that draws its order. Written for this set of claims. -/
import Derived.Test.YtndeonfbolookaaWLast
import Derived.Test.YtndeonfbolookaaWMore
import Derived.Deep.MidRow
namespace Go.Proofs.YtndeonfbolookaaW.PrintLast
open Go.RowKit Go.Proofs.YtndeonfbolookaaW.PrintWords
section
variable {P : Program} {ops : Array Oper} {md : Region.Mode} {Q : Exit → Act → World → Prop}
theorem goesV_ {oi : Oper} {N : Option Tmp} {a : Act} {w : World} {K : Act → World → Prop} {f : FuncId} {fn : Func} {x : Operand} {as : Array Operand} {ts : Array TypeId} {caps : Array Value} (hf : P.funcs[f]? = some fn) (hname : (fn.name == "runtime.NumGoroutine") = false) (hb : fn.body.isSome = true) (args : Array Value)
    (hw : Region.wanted oi (yielded ops a.tmps) = true) (hN : oi.dst = N) (hop : oi.op = .call { callee := .value x, args := as, argTypes := ts }) (hx : a.eval x = .func (.func f) #[] caps) (hargs : as.map a.eval ++ caps = args)
    (h : Calls P f args w fun e w' => ∃ v, e = .returned v ∧ K (a.put N v) w') : if Region.wanted oi (yielded ops a.tmps) = true then Oper.wp P oi a w K Q else K (a.put N undef) w := by
  refine call_ f args hw hN ?_ h
  have he := enters_ hf hname hb args w
  have hx2 : Act.eval a x = .func (.func f) #[] caps := hx
  unfold execOp
  simp [hop, resolve, Deferred.ofValue, invoke, hx2, hargs, he]
end

section
variable {P : Program} {ops : Array Oper} {rest : List Oper} {o : Oper} {a : Act} {W : World} {Q : Exit → Act → World → Prop}
theorem gate_load {t : TypeId} {x : Operand} (_ho : o.op = .load t x) (h : wpList P ops Q (o :: rest) a W) : wpList P ops Q (o :: rest) a W := h
/-- The values 'cs' lie from the n-th cell behind p on. -/
def Lie (w : World) (p : Addr) : Nat → List Value → Prop
  | _, [] => True
  | n, v :: vs => w.cell? (p.add n) = some v ∧ Lie w p (n + 1) vs
theorem lie_nil (w : World) (p : Addr) (n : Nat) : Lie w p n [] := trivial
theorem lie_cons {w : World} {p : Addr} {n : Nat} {v : Value} {vs : List Value} (h : w.cell? (p.add n) = some v) (t : Lie w p (n + 1) vs) : Lie w p n (v :: vs) := ⟨h, t⟩
theorem lie_at : ∀ {w : World} {p : Addr} {n : Nat} {vs : List Value}, Lie w p n vs → ∀ j v, vs[j]? = some v → w.cell? (p.add (n + j)) = some v
  | _, _, _, [], _, j, v, h => by simp at h
  | _, _, _, x :: vs, ⟨h0, h1⟩, 0, v, h => by
    obtain rfl : x = v := by simpa using h
    exact h0
  | w, p, n, x :: vs, ⟨h0, h1⟩, j + 1, v, h => by
    have := lie_at h1 j v (by simpa using h)
    rwa [show n + 1 + j = n + (j + 1) by omega] at this
theorem lie_of : ∀ {w : World} {p : Addr} {n : Nat} {vs : List Value}, (∀ j v, vs[j]? = some v → w.cell? (p.add (n + j)) = some v) → Lie w p n vs
  | _, _, _, [], _ => trivial
  | w, p, n, x :: vs, h => ⟨h 0 x rfl, lie_of fun j v hv => by
    have := h (j + 1) v (by simpa using hv)
    rwa [show n + (j + 1) = n + 1 + j by omega] at this⟩
theorem lie_of_blk {w : World} {g : Nat} {t : TypeId} {cs : Array Value} (h : w.heap[g]? = some (.cells cs t (0, 0))) : Lie w ⟨g, 0, none⟩ 0 cs.toList :=
  lie_of fun j v hv => by
    rw [Nat.zero_add, add_plain, blk_cell h j]
    simpa using hv
/-- A struct of many cells is loaded as a whole: no unrolling. -/
theorem load_event (hgd : o.guard = none) {t : TypeId} {x : Operand} (ho : o.op = .load t x) {p : Addr} (hx : a.eval x = .pointer (some p)) (cs : List Value) (d : TypeDesc) (hc : Lie W p 0 cs)
    (hu : P.underlying t = some d) (hd : d.isRow = true) (hi : (P.info? t).map (·.size) = some cs.length) (h : wpList P ops Q rest (a.put o.dst (.agg cs.toArray)) W) : wpList P ops Q (o :: rest) a W := by
  refine wpList_plain hgd fun K hK => ?_
  have hl : (loadCells p cs.length).run P W = .ok cs.toArray W :=
    run_loadCells_list (P := P) W p cs (fun j v hv => by have := lie_at hc j v hv; rwa [Nat.zero_add] at this)
  have hv : (loadVar t p).run P W = .ok (.agg cs.toArray) W := by
    cases hq : P.info? t with
    | none => simp [hq] at hi
    | some i =>
      have hs : i.size = cs.length := by simpa [hq] using hi
      have hagg : (isAgg t).run P W = .ok true W := by
        unfold isAgg
        rw [Sem.run_bind, run_underlying hu W]
        cases d <;> simp_all
      simp [loadVar, Sem.run_bind, hagg, sizeOf, typeInfo, hq, hs, hl]
  unfold Oper.wp execOp
  simp only [ho, hx, Instr.loadAt, Instr.sureAddr, Sem.run_bind, Sem.run_pure, Result.andThen_ok, hv]
  exact hK _ _ h
end
end Go.Proofs.YtndeonfbolookaaW.PrintLast
