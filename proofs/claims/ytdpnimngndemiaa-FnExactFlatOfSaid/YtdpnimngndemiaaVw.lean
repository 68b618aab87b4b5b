import Derived.Test.YtdpnimngndemiaaWLast
import Derived.Test.YtdpnimngndemiaaWMore
import Derived.Test.YtdpnimngndemiaaWTab
import Derived.KernelRfl
import Derived.Deep.MidRow
namespace Go.Proofs.YtdpnimngndemiaaW.PrintLast
open Go.RowKit Go.Proofs.YtdpnimngndemiaaW.PrintWords
section
variable {P : Program} {ops : Array Oper} {md : Region.Mode} {Q : Exit → Act → World → Prop}
end

section
variable {P : Program} {ops : Array Oper} {rest : List Oper} {o : Oper} {a : Act} {W : World} {Q : Exit → Act → World → Prop}
end
section
variable {P : Program} {ops : Array Oper} {rest : List Oper} {o : Oper} {a : Act} {W : World} {Q : Exit → Act → World → Prop}
end
theorem blk_putQ {w : World} {g : Nat} {t : TypeId} {cs : Array Value} {i : Nat} {u : Value} (h : w.heap[g]? = some (.cells cs t (0, 0))) : (w.setCell ⟨g, i, none⟩ u).heap[g]? = some (.cells (cs.setIfInBounds i u) t (0, 0)) := blk_set h i u
theorem blk_fin {w : World} {g : Nat} {t : TypeId} {cs cs' : Array Value} (h : w.heap[g]? = some (.cells cs t (0, 0))) (e : cs = cs') : w.heap[g]? = some (.cells cs' t (0, 0)) := e ▸ h
theorem blk_ltB {w0 w : World} {g : Nat} {o : Obj} (_hB : Aside0 (w0.heap[g]? = some o)) (h : w.heap[g]? = some o) : g < w.heap.size := blk_lt h
theorem cell_go {w W : World} (hB : Aside0 (Below w.heap.size w W)) {p : Addr} {v : Value} (h : w.cell? p = some v) : W.cell? p = some v := (hB.out.cell (World.block_lt_of_cell? w _ h)).trans h
theorem blk_farQ {w : World} {g : Nat} {o : Obj} {p : Addr} {u : Value} (hne : g ≠ p.block) (h : w.heap[g]? = some o) : (w.setCell p u).heap[g]? = some o := (Below.heap_setCell w p u g hne).trans h
section
variable {P : Program} {ops : Array Oper} {rest : List Oper} {o : Oper} {a : Act} {Q : Exit → Act → World → Prop}
theorem boxz {W : World} {cs : Array Value} {t : TypeId} (hgd : o.guard = none) (h : ∀ g, g = W.heap.size → ∀ w1, w1.heap[g]? = some (.cells cs t (0, 0)) → Below W.heap.size W w1 → wpList P ops Q rest (a.put o.dst (.pointer (some ⟨g, 0, none⟩))) w1)
    (hrun : (execOp a.eval o).run P W = .ok (.value (.pointer (some ⟨W.heap.size, 0, none⟩))) (W.alloc (.cells cs t (0, 0))) := by first | (go_simp; done) | (go_simp; rfl)) : wpList P ops Q (o :: rest) a W :=
  Kd.event_run hgd hrun (h _ rfl _ (blk_new W _) (below_alloc (Below.refl _ _) _))
end
theorem nb_lt {g g' n : Nat} (hg : g' = n) (h : g < n) : g ≠ g' := by omega
theorem nb_gt {g g' n : Nat} (hg : g' = n) (h : g < n) : g' ≠ g := by omega
theorem ge_go {a g n : Nat} (hg : g = n) (h : a ≤ n) : a ≤ g := by omega
section
variable {P : Program} {ops : Array Oper} {rest : List Oper} {o : Oper} {a : Act} {W : World} {Q : Exit → Act → World → Prop}
end
theorem blk_belowB {w0 w W : World} {g : Nat} {o : Obj} (_hB : Aside0 (w0.heap[g]? = some o)) (h : w.heap[g]? = some o) (hb : Below w.heap.size w W) : W.heap[g]? = some o := blk_below h hb
section
variable {P : Program} {md : Region.Mode} {ops : Array Oper} {Q : Exit → Act → World → Prop} {S : World → Prop} {ds : List Nat}
theorem pzv {i : Nat} {N : Tmp} {oi : Oper} {v : Value} {fuel : Nat} {l : Array Bool} {a : Act} {w : World} {T : Bool × List (List Nat × List Nat)} (l' : Array Bool) (hT : Aside0 (rtab md ops = T)) (hv : ∀ w, (execOp a.eval oi).run P w = .ok (.value v) w) {a' : Act} (ha : a.put (some N) v = a')
    (h : wpAnyLast P md ops Q S ds fuel l' a' w) (hi : ops[i]? = some oi := by exact rfl) (hN : oi.dst = some N := by exact rfl) (hc : anyT T l.toList l'.toList i = true := by kernel_rfl) (hQ : ∀ c a w, Q (.panic c) (a.put oi.dst v) w → Q (.panic c) a w := by exact fun _ _ _ h => h) (hg : Region.wanted oi (yielded ops a.tmps) = true := by rfl) : wpAnyLast P md ops Q S ds (fuel + 1) l a w :=
  pure_ l' hi hN (any_of hT.out hc) hQ (Or.inl ⟨hg, hv⟩) ha h
end
theorem mk0 {p : Prop} (h : p) : Aside0 p := ⟨h⟩
def bA (n m : Nat) : Array Bool := ((List.range n).map fun i => m.testBit i).toArray
theorem pkb {P Q : Prop} (h : Aside0 Q) (f : Q → P := by intro h_; (with_reducible repeat (first | refine blk_drewN ?_ _ | refine blk_drew ?_ | refine blk_alloc ?_ _)); exact h_) : P := f h.out
theorem pkR {P Q : Prop} (h : Aside0 Q) (f : Q → P := by intro h_; (with_reducible repeat (first | apply Kd.R_alloc | apply Kd.R_drewN | apply Kd.R_drew)); exact h_) : P := f h.out
theorem pkS {P Q : Prop} (h : Aside0 Q) (f : Q → P := by intro h_; (with_reducible repeat (first | apply Kd.S_alloc | apply Kd.S_drewN | apply Kd.S_drew)); exact h_) : P := f h.out
theorem pkV {P Q : Prop} (h : Aside0 Q) (f : Q → P := by intro h_; (with_reducible repeat (first | apply Kd.V_alloc | apply Kd.V_drewN | apply Kd.V_drew)); exact h_) : P := f h.out
theorem rs0 {P : Prop} (h : P := by first | rfl | (simp; done) | (simp [*]; done)) : P := h
theorem mark_back {α : Type} {q : Nat} {d : Kd α} {e : Nat} {W w1 : World} {base : Nat} {ok oki : Nat → Prop} {v u : Value} {xs : List (List α)} {i : Int} {x' : List α} (h : Kd.H (Kd.slice q d) e W base ok v xs i oki [u]) (hk : Kept W w1 (fun k_ => oki k_)) (hR : d.R q w1 base (fun k_ => oki k_ ∨ W.heap.size ≤ k_) u x') (hn : ∀ k, W.heap.size ≤ k → ok k) : Kd.S (Kd.slice q d) e w1 base ok v (xs.set i.toNat x') :=
  Kd.H_back (Kd.H_kept (Kd.H_widen h) hk (fun _ _ hno ho => hno (.inl ho))) (okp := fun k_ => oki k_ ∨ W.heap.size ≤ k_) ⟨u, rfl, hR⟩ (fun k hk2 => hk2.elim .inl (fun h2 => .inr ⟨hn k h2, h2⟩))
def TyP (W : World) (a b : Nat) (k : Nat) : Prop := ∃ q, (q = a ∨ q = b) ∧ ∃ cells, W.heap[k]? = some (.cells cells q (0, 0))
theorem ty_no {W : World} {a b g t : Nat} {cells : Array Value} (h : W.heap[g]? = some (.cells cells t (0, 0))) (ha : t ≠ a) (hb : t ≠ b) : ¬ TyP W a b g := by
  rintro ⟨q, hq, c, hc⟩
  rw [h] at hc
  injection hc with hc
  injection hc with _ hc
  rcases hq with hq | hq
  · exact ha (hc.trans hq)
  · exact hb (hc.trans hq)
theorem ty_R {α : Type} {d : Kd α} {e a b : Nat} {W w1 : World} {base : Nat} {ok : Nat → Prop} {v : Value} {xs : List α} (h : d.R e W base ok v xs) (hE : d.E = []) (ha : e ≠ a) (hb : e ≠ b) (hk : Kept W w1 (fun k_ => TyP W a b k_)) : d.R e w1 base ok v xs :=
  Kd.R_mono (Kd.R_kept (Kd.R_bound h) hk (fun k ho hs => by
    obtain ⟨_, _, _, q, hq, c, hc⟩ := ho
    rw [hE] at hq
    simp only [List.mem_singleton] at hq
    subst hq
    exact ty_no hc ha hb hs)) (fun _ hk => hk.1)
theorem ty_blk {W w1 : World} {a b g t : Nat} {cells : Array Value} (h : W.heap[g]? = some (.cells cells t (0, 0))) (ha : t ≠ a) (hb : t ≠ b) (hk : Kept W w1 (fun k_ => TyP W a b k_)) : w1.heap[g]? = some (.cells cells t (0, 0)) := blk_kept h hk (ty_no h ha hb)
theorem szx_ {α : Type} {d : Kd α} {e : Nat} {w1 : World} {b : Nat} {ok : Nat → Prop} {v : Value} {xs : List α} (_h : Kd.S d e w1 b ok v xs) : ∃ n : Nat, n = b := ⟨_, rfl⟩
theorem oldx_ {α : Type} {d : Kd α} {e n : Nat} {W w1 : World} {base : Nat} {ok : Nat → Prop} {v : Value} {xs : List α} (hn : n = W.heap.size) (h : Kd.S d e W base ok v xs) (hb : Below W.heap.size W w1) : Kd.S d e w1 base (fun k_ => ok k_ ∧ k_ < n) v xs := by
  subst hn
  exact Kd.S_old h hb
theorem newx_ {α : Type} {d : Kd α} {e n : Nat} {w1 : World} {b : Nat} {ok : Nat → Prop} {v : Value} {xs : List α} (hn : n = b) (h : Kd.S d e w1 b ok v xs) : Kd.S d e w1 b (fun k_ => ok k_ ∧ n ≤ k_) v xs := by
  subst hn
  exact Kd.S_mono (Kd.S_bound h) (fun _ hk => ⟨hk.1, hk.2.1⟩)
theorem tyn_S {α : Type} {q : Nat} {d : Kd α} {e n : Nat} {W : World} {base : Nat} {ok : Nat → Prop} {v : Value} {xs : List (List α)} (h : Kd.S (Kd.slice q d) e W base ok v xs) (hE : d.E = []) (hn : ∀ k, ok k → n ≤ k) : Kd.S (Kd.slice q d) e W base (fun k_ => TyP W e q k_ ∧ n ≤ k_) v xs :=
  Kd.S_mono (Kd.S_bound h) (fun k hk => by
    obtain ⟨h1, _, _, r, hr, hc⟩ := hk
    refine ⟨⟨r, ?_, hc⟩, hn k h1⟩
    have h2 : r ∈ e :: q :: d.E := hr
    rw [hE] at h2
    simpa using h2)
theorem ktl_ {W w1 : World} {P Q : Nat → Prop} (h : Kept W w1 (fun k_ => P k_ ∧ Q k_)) : Kept W w1 (fun k_ => P k_) := Kept.mono h (fun _ hk => hk.1)
section
variable {α : Type} {d : Kd α} {e : Nat} {w0 w W : World} {base g i0 i1 i2 i3 i4 i5 : Nat} {ok : Nat → Prop} {v u0 u1 u2 u3 u4 u5 : Value} {xs : List α}
end
section
variable {P : Program} {md : Region.Mode} {ops : Array Oper} {Q : Exit → Act → World → Prop} {S : World → Prop} {ds : List Nat}
end
section
variable {P : Program} {ops : Array Oper} {Q : Exit → Act → World → Prop} {rest : List Oper} {o : Oper} {a : Act}
end
section
variable {α β : Type} {d : Kd α} {d' : Kd β} {e e2 base n1 : Nat} {W w1 : World} {v u : Value} {xs : List α} {ys : List β} {ok : Nat → Prop}
end
end Go.Proofs.YtdpnimngndemiaaW.PrintLast
