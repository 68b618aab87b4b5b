/- A call of a function value, as one step of a region that draws its order. Written for this set of claims. -/
import Derived.Test.YtamfgkeaohookaaWLast
import Derived.Test.YtamfgkeaohookaaWMore
namespace Go.Proofs.YtamfgkeaohookaaW.PrintLast
open Go.RowKit Go.Proofs.YtamfgkeaohookaaW.PrintWords
section
variable {P : Program} {ops : Array Oper} {md : Region.Mode} {Q : Exit → Act → World → Prop}
theorem goesV_ {oi : Oper} {N : Option Tmp} {a : Act} {w : World} {K : Act → World → Prop} {f : FuncId} {fn : Func} {x : Operand} {as : Array Operand} {ts : Array TypeId} {caps : Array Value} (hf : P.funcs[f]? = some fn) (hname : (fn.name == "runtime.NumGoroutine") = false) (hb : fn.body.isSome = true) (args : Array Value)
    (hw : Region.wanted oi (yielded ops a.tmps) = true) (hN : oi.dst = N) (hop : oi.op = .call { callee := .value x, args := as, argTypes := ts }) (hx : a.eval x = .func (.func f) #[] caps) (hargs : as.map a.eval ++ caps = args)
    (h : Calls P f args w fun e w' => ∃ v, e = .returned v ∧ K (a.put N v) w') : if Region.wanted oi (yielded ops a.tmps) = true then Oper.wp P oi a w K Q else K (a.put N undef) w := by
  refine call_ f args hw hN ?_ h
  have he := enters_ hf hname hb args w
  have hx2 : Act.eval a x = .func (.func f) #[] caps := hx
  unfold execOp
  simp [hop, resolve, Deferred.ofValue, invoke, hx2, hargs, he]
end
end Go.Proofs.YtamfgkeaohookaaW.PrintLast
