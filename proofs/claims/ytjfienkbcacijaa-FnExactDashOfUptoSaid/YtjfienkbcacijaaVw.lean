import Derived.Test.YtjfienkbcacijaaWLast
import Derived.Test.YtjfienkbcacijaaWMore
import Derived.Test.YtjfienkbcacijaaWTab
import Derived.KernelRfl
import Derived.Deep.MidRow
namespace Go.Proofs.YtjfienkbcacijaaW.PrintLast
open Go.RowKit Go.Proofs.YtjfienkbcacijaaW.PrintWords
section
variable {P : Program} {ops : Array Oper} {md : Region.Mode} {Q : Exit → Act → World → Prop}
end

section
variable {P : Program} {ops : Array Oper} {rest : List Oper} {o : Oper} {a : Act} {W : World} {Q : Exit → Act → World → Prop}
end
section
variable {P : Program} {ops : Array Oper} {rest : List Oper} {o : Oper} {a : Act} {W : World} {Q : Exit → Act → World → Prop}
end
theorem blk_putQ {w : World} {g : Nat} {t : TypeId} {cs : Array Value} {i : Nat} {u : Value} (h : w.heap[g]? = some (.cells cs t (0, 0))) : (w.setCell ⟨g, i, none⟩ u).heap[g]? = some (.cells (cs.setIfInBounds i u) t (0, 0)) := blk_set h i u
theorem blk_fin {w : World} {g : Nat} {t : TypeId} {cs cs' : Array Value} (h : w.heap[g]? = some (.cells cs t (0, 0))) (e : cs = cs') : w.heap[g]? = some (.cells cs' t (0, 0)) := e ▸ h
theorem blk_farQ {w : World} {g : Nat} {o : Obj} {p : Addr} {u : Value} (hne : g ≠ p.block) (h : w.heap[g]? = some o) : (w.setCell p u).heap[g]? = some o := (Below.heap_setCell w p u g hne).trans h
section
variable {P : Program} {ops : Array Oper} {rest : List Oper} {o : Oper} {a : Act} {Q : Exit → Act → World → Prop}
end
section
variable {P : Program} {ops : Array Oper} {rest : List Oper} {o : Oper} {a : Act} {W : World} {Q : Exit → Act → World → Prop}
end
section
variable {P : Program} {md : Region.Mode} {ops : Array Oper} {Q : Exit → Act → World → Prop} {S : World → Prop} {ds : List Nat}
end
theorem mark_back {α : Type} {q : Nat} {d : Kd α} {e : Nat} {W w1 : World} {base : Nat} {ok oki : Nat → Prop} {v u : Value} {xs : List (List α)} {i : Int} {x' : List α} (h : Kd.H (Kd.slice q d) e W base ok v xs i oki [u]) (hk : Kept W w1 (fun k_ => oki k_)) (hR : d.R q w1 base (fun k_ => oki k_ ∨ W.heap.size ≤ k_) u x') (hn : ∀ k, W.heap.size ≤ k → ok k) : Kd.S (Kd.slice q d) e w1 base ok v (xs.set i.toNat x') :=
  Kd.H_back (Kd.H_kept (Kd.H_widen h) hk (fun _ _ hno ho => hno (.inl ho))) (okp := fun k_ => oki k_ ∨ W.heap.size ≤ k_) ⟨u, rfl, hR⟩ (fun k hk2 => hk2.elim .inl (fun h2 => .inr ⟨hn k h2, h2⟩))
def TyP (W : World) (a b : Nat) (k : Nat) : Prop := ∃ q, (q = a ∨ q = b) ∧ ∃ cells, W.heap[k]? = some (.cells cells q (0, 0))
theorem szx_ {α : Type} {d : Kd α} {e : Nat} {w1 : World} {b : Nat} {ok : Nat → Prop} {v : Value} {xs : List α} (_h : Kd.S d e w1 b ok v xs) : ∃ n : Nat, n = b := ⟨_, rfl⟩
theorem oldN_ {α : Type} {d : Kd α} {e n : Nat} {W w1 : World} {base : Nat} {ok : Nat → Prop} {v : Value} {xs : List α} (hn : n = W.heap.size) (h : Kd.N d e W base ok v xs) (hb : Below W.heap.size W w1) : Kd.N d e w1 base (fun k_ => ok k_ ∧ k_ < n) v xs := by
  subst hn
  exact Kd.N_old h hb
theorem newx_ {α : Type} {d : Kd α} {e n : Nat} {w1 : World} {b : Nat} {ok : Nat → Prop} {v : Value} {xs : List α} (hn : n = b) (h : Kd.S d e w1 b ok v xs) : Kd.S d e w1 b (fun k_ => ok k_ ∧ n ≤ k_) v xs := by
  subst hn
  exact Kd.S_mono (Kd.S_bound h) (fun _ hk => ⟨hk.1, hk.2.1⟩)
theorem tyn_S {α : Type} {q : Nat} {d : Kd α} {e n : Nat} {W : World} {base : Nat} {ok : Nat → Prop} {v : Value} {xs : List (List α)} (h : Kd.S (Kd.slice q d) e W base ok v xs) (hE : d.E = []) (hn : ∀ k, ok k → n ≤ k) : Kd.S (Kd.slice q d) e W base (fun k_ => TyP W e q k_ ∧ n ≤ k_) v xs :=
  Kd.S_mono (Kd.S_bound h) (fun k hk => by
    obtain ⟨h1, _, _, r, hr, hc⟩ := hk
    refine ⟨⟨r, ?_, hc⟩, hn k h1⟩
    have h2 : r ∈ e :: q :: d.E := hr
    rw [hE] at h2
    simpa using h2)
section
variable {α : Type} {d : Kd α} {e : Nat} {w0 w W : World} {base g i0 i1 i2 i3 i4 i5 : Nat} {ok : Nat → Prop} {v u0 u1 u2 u3 u4 u5 : Value} {xs : List α}
end
section
variable {P : Program} {md : Region.Mode} {ops : Array Oper} {Q : Exit → Act → World → Prop} {S : World → Prop} {ds : List Nat}
end
section
variable {P : Program} {ops : Array Oper} {Q : Exit → Act → World → Prop} {rest : List Oper} {o : Oper} {a : Act}
end
section
variable {α β : Type} {d : Kd α} {d' : Kd β} {e e2 base n1 : Nat} {W w1 : World} {v u : Value} {xs : List α} {ys : List β} {ok : Nat → Prop}
end
end Go.Proofs.YtjfienkbcacijaaW.PrintLast
