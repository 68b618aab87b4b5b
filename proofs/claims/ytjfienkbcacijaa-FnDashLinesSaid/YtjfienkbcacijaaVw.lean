import Derived.Test.YtjfienkbcacijaaWLast
import Derived.Test.YtjfienkbcacijaaWMore
import Derived.Test.YtjfienkbcacijaaWTab
import Derived.KernelRfl
import Derived.Deep.MidRow
namespace Go.Proofs.YtjfienkbcacijaaW.PrintLast
open Go.RowKit Go.Proofs.YtjfienkbcacijaaW.PrintWords
section
variable {P : Program} {ops : Array Oper} {md : Region.Mode} {Q : Exit → Act → World → Prop}
end

section
variable {P : Program} {ops : Array Oper} {rest : List Oper} {o : Oper} {a : Act} {W : World} {Q : Exit → Act → World → Prop}
end
section
variable {P : Program} {ops : Array Oper} {rest : List Oper} {o : Oper} {a : Act} {W : World} {Q : Exit → Act → World → Prop}
end
theorem blk_putQ {w : World} {g : Nat} {t : TypeId} {cs : Array Value} {i : Nat} {u : Value} (h : w.heap[g]? = some (.cells cs t (0, 0))) : (w.setCell ⟨g, i, none⟩ u).heap[g]? = some (.cells (cs.setIfInBounds i u) t (0, 0)) := blk_set h i u
theorem blk_fin {w : World} {g : Nat} {t : TypeId} {cs cs' : Array Value} (h : w.heap[g]? = some (.cells cs t (0, 0))) (e : cs = cs') : w.heap[g]? = some (.cells cs' t (0, 0)) := e ▸ h
section
variable {P : Program} {ops : Array Oper} {rest : List Oper} {o : Oper} {a : Act} {Q : Exit → Act → World → Prop}
end
section
variable {P : Program} {ops : Array Oper} {rest : List Oper} {o : Oper} {a : Act} {W : World} {Q : Exit → Act → World → Prop}
end
section
variable {P : Program} {md : Region.Mode} {ops : Array Oper} {Q : Exit → Act → World → Prop} {S : World → Prop} {ds : List Nat}
end
section
variable {α : Type} {d : Kd α} {e : Nat} {w0 w W : World} {base g i0 i1 i2 i3 i4 i5 : Nat} {ok : Nat → Prop} {v u0 u1 u2 u3 u4 u5 : Value} {xs : List α}
end
section
variable {P : Program} {md : Region.Mode} {ops : Array Oper} {Q : Exit → Act → World → Prop} {S : World → Prop} {ds : List Nat}
end
section
variable {P : Program} {ops : Array Oper} {Q : Exit → Act → World → Prop} {rest : List Oper} {o : Oper} {a : Act}
end
section
variable {α β : Type} {d : Kd α} {d' : Kd β} {e e2 base n1 : Nat} {W w1 : World} {v u : Value} {xs : List α} {ys : List β} {ok : Nat → Prop}
end
end Go.Proofs.YtjfienkbcacijaaW.PrintLast
