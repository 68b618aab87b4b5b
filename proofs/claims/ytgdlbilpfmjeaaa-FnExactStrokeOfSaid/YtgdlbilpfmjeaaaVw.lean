import Derived.Test.YtgdlbilpfmjeaaaWLast
import Derived.Test.YtgdlbilpfmjeaaaWMore
import Derived.Test.YtgdlbilpfmjeaaaWTab
import Derived.KernelRfl
import Derived.Deep.MidRow
namespace Go.Proofs.YtgdlbilpfmjeaaaW.PrintLast
open Go.RowKit Go.Proofs.YtgdlbilpfmjeaaaW.PrintWords
section
variable {P : Program} {ops : Array Oper} {md : Region.Mode} {Q : Exit → Act → World → Prop}
end

section
variable {P : Program} {ops : Array Oper} {rest : List Oper} {o : Oper} {a : Act} {W : World} {Q : Exit → Act → World → Prop}
end
section
variable {P : Program} {ops : Array Oper} {rest : List Oper} {o : Oper} {a : Act} {W : World} {Q : Exit → Act → World → Prop}
end
theorem blk_putQ {w : World} {g : Nat} {t : TypeId} {cs : Array Value} {i : Nat} {u : Value} (h : w.heap[g]? = some (.cells cs t (0, 0))) : (w.setCell ⟨g, i, none⟩ u).heap[g]? = some (.cells (cs.setIfInBounds i u) t (0, 0)) := blk_set h i u
theorem blk_fin {w : World} {g : Nat} {t : TypeId} {cs cs' : Array Value} (h : w.heap[g]? = some (.cells cs t (0, 0))) (e : cs = cs') : w.heap[g]? = some (.cells cs' t (0, 0)) := e ▸ h
theorem blk_farQ {w : World} {g : Nat} {o : Obj} {p : Addr} {u : Value} (hne : g ≠ p.block) (h : w.heap[g]? = some o) : (w.setCell p u).heap[g]? = some o := (Below.heap_setCell w p u g hne).trans h
section
variable {P : Program} {ops : Array Oper} {rest : List Oper} {o : Oper} {a : Act} {Q : Exit → Act → World → Prop}
end
section
variable {P : Program} {ops : Array Oper} {rest : List Oper} {o : Oper} {a : Act} {W : World} {Q : Exit → Act → World → Prop}
end
section
variable {P : Program} {md : Region.Mode} {ops : Array Oper} {Q : Exit → Act → World → Prop} {S : World → Prop} {ds : List Nat}
end
theorem mark_back {α : Type} {q : Nat} {d : Kd α} {e : Nat} {W w1 : World} {base : Nat} {ok oki : Nat → Prop} {v u : Value} {xs : List (List α)} {i : Int} {x' : List α} (h : Kd.H (Kd.slice q d) e W base ok v xs i oki [u]) (hk : Kept W w1 (fun k_ => oki k_)) (hR : d.R q w1 base (fun k_ => oki k_ ∨ W.heap.size ≤ k_) u x') (hn : ∀ k, W.heap.size ≤ k → ok k) : Kd.S (Kd.slice q d) e w1 base ok v (xs.set i.toNat x') :=
  Kd.H_back (Kd.H_kept (Kd.H_widen h) hk (fun _ _ hno ho => hno (.inl ho))) (okp := fun k_ => oki k_ ∨ W.heap.size ≤ k_) ⟨u, rfl, hR⟩ (fun k hk2 => hk2.elim .inl (fun h2 => .inr ⟨hn k h2, h2⟩))
section
variable {α : Type} {d : Kd α} {e : Nat} {w0 w W : World} {base g i0 i1 i2 i3 i4 i5 : Nat} {ok : Nat → Prop} {v u0 u1 u2 u3 u4 u5 : Value} {xs : List α}
end
section
variable {P : Program} {md : Region.Mode} {ops : Array Oper} {Q : Exit → Act → World → Prop} {S : World → Prop} {ds : List Nat}
end
theorem reads_at {α : Type} {d : Kd α} {W : World} {base sz m len : Nat} {okp : Nat → Prop} {f g : Nat → Nat} {A : Option Addr} {ys : List α} (h : ReadsRow (fun (p : α × Nat) c => d.M W base (fun k => okp k ∧ f k = p.2) p.1 c) sz W A m ys.zipIdx) (hg : ∀ k, okp k → g k = f k + len) :
    ReadsRow (fun (p : α × Nat) c => d.M W base (fun k => okp k ∧ g k = p.2) p.1 c) sz W A m (ys.zipIdx len) := by
  obtain ⟨h1, h2, h3⟩ := h
  refine ⟨by simpa using h1, h2, fun hm => ?_⟩
  obtain ⟨ad, e, hc⟩ := h3 hm
  refine ⟨ad, e, fun j p hp => ?_⟩
  rw [List.getElem?_zipIdx] at hp
  obtain ⟨y, hy, rfl⟩ := Option.map_eq_some_iff.mp hp
  obtain ⟨c, c1, c2, c3⟩ := hc j (y, j) (Kd.zip_at hy)
  refine ⟨c, c1, d.M_mono (fun k hk => ⟨hk.1, ?_⟩) c2, c3⟩
  have := hg k hk.1
  have := hk.2
  simp only at *
  omega
section
variable {P : Program} {ops : Array Oper} {Q : Exit → Act → World → Prop} {rest : List Oper} {o : Oper} {a : Act}
open Classical in
theorem S_append_rows {α : Type} (d : Kd α) {w0 W : World} (base : Nat) (hgd : o.guard = none) (s x : Operand) (t e e2 : TypeId) (z : Value) (bytes : Nat)
    (ho : o.op = .call { callee := .builtin .append, args := #[s, x], argTypes := #[t, t] })
    (ht : P.underlying t = some (.slice e)) (hinfo : (P.info? e).map (fun i => (i.zero, i.size, i.bytes)) = some (some z, d.sz, bytes)) (hz : z.cells.size = d.sz) (hs0 : 0 < d.sz) (hb0 : 0 < bytes)
    (v u : Value) (xs ys : List α) (n : Nat) (hs : a.eval s = v) (hx : a.eval x = u)
    (HO : Kd.S d e W base (fun k => base ≤ k ∧ k < n) v xs) (HU : Kd.S d e2 W base (fun k => n ≤ k) u ys) (hbn : base ≤ n) (hnW : n ≤ W.heap.size)
    (HB : Below base w0 W) (hl : (xs.length + ys.length) * bytes ≤ 140737488355328)
    (h : ∀ v1 w1, Kd.S d e w1 base (fun k => base ≤ k) v1 (xs ++ ys) → Below base w0 w1 → wpList P ops Q rest (a.put o.dst v1) w1) :
    wpList P ops Q (o :: rest) a W := by
  obtain ⟨f, hf0, hf⟩ := HO
  obtain ⟨g, hg0, hgR⟩ := HU
  obtain ⟨A, c, hu, hcc, hR⟩ := OwnRow.reads hgR
  rw [List.length_zipIdx] at hu hcc hR
  have hv : ∀ k, n ≤ k → some k ≠ v.ownBlock := fun k hk he => by
    have := (hf0 k he.symm).2
    omega
  let f' : Nat → Nat := fun k => if n ≤ k then g k + xs.length else f k
  have HO' : (Kd.tag f' d).R e W base (fun k => base ≤ k) v xs.zipIdx := ⟨fun k hk => (hf0 k hk).1, hf.imp_ (fun p c hp => d.M_mono (fun k hk => ⟨⟨hk.1.1.1, hk.1.2⟩, by
    have h1 : k < n := hk.1.1.2
    have h2 : f k = p.2 := hk.2
    show (if n ≤ k then g k + xs.length else f k) = p.2
    rw [if_neg (by omega)]
    exact h2⟩) hp)⟩
  have HR' : ReadsRow (fun (p : α × Nat) c => d.M W base (fun k => n ≤ k ∧ f' k = p.2) p.1 c) d.sz W A ys.length (ys.zipIdx xs.length) :=
    reads_at (okp := fun k => n ≤ k) (f := g) (ReadsRow.imp_ hR (Below.refl _ _) (fun p c hp => d.M_mono (fun k hk => ⟨hk.1.1, hk.2⟩) hp)) (fun k hk => by
      show (if n ≤ k then g k + xs.length else f k) = g k + xs.length
      rw [if_pos hk])
  refine Kd.R_append_rows (Kd.tag f' d) base hgd s x t e z bytes ho ht hinfo hz hs0 hb0 v xs.zipIdx (ys.zipIdx xs.length) A ys.length c (fun k => base ≤ k) (fun k => n ≤ k) hs (hx.trans hu) HO' HR' (fun p c hp => hp) (fun k hk => ⟨Nat.le_trans hbn hk, hv k hk⟩) (fun k hk => Nat.le_trans hbn (Nat.le_trans hnW hk)) HB (Nat.le_trans hbn hnW) (by simpa using hl) ?_
  intro v1 w1 hr hb _ _
  refine h v1 w1 ⟨f', ?_⟩ hb
  rw [List.zipIdx_append]
  simpa using hr
end
section
variable {α β : Type} {d : Kd α} {d' : Kd β} {e e2 base n1 : Nat} {W w1 : World} {v u : Value} {xs : List α} {ys : List β} {ok : Nat → Prop}
theorem sep_ (hs : base ≤ W.heap.size) (h : Kd.S d e W base (fun k => base ≤ k) v xs) (hu : Kd.S d' e2 w1 W.heap.size (fun _ => True) u ys) (hb : Below W.heap.size W w1) :
    ∃ n, (base ≤ n ∧ n ≤ w1.heap.size) ∧ Aside0 (Kd.S d e w1 base (fun k => base ≤ k ∧ k < n) v xs) ∧ Aside0 (Kd.S d' e2 w1 base (fun k => n ≤ k) u ys) :=
  ⟨W.heap.size, ⟨hs, hb.size⟩, ⟨Kd.S_below (Kd.S_mono (Kd.S_bound h) (fun _ hk => ⟨hk.1, hk.2.2.1⟩)) hb⟩, ⟨Kd.S_lower (Kd.S_mono (Kd.S_bound hu) (fun _ hk => hk.2.1)) hs⟩⟩
theorem sepw_ (hs : base ≤ W.heap.size) (h : Kd.S d e W base ok v xs) (hu : Kd.S d' e2 w1 W.heap.size (fun _ => True) u ys) (hb : Below W.heap.size W w1) :
    ∃ n, n ≤ w1.heap.size ∧ Aside0 (Kd.S d e w1 base (fun k => k < n) v xs) ∧ Aside0 (Kd.S d' e2 w1 base (fun k => n ≤ k) u ys) :=
  ⟨W.heap.size, hb.size, ⟨Kd.S_below (Kd.S_mono (Kd.S_bound h) (fun _ hk => hk.2.2.1)) hb⟩, ⟨Kd.S_lower (Kd.S_mono (Kd.S_bound hu) (fun _ hk => hk.2.1)) hs⟩⟩
theorem sepx_ (hs : base ≤ W.heap.size) (hn : n1 ≤ W.heap.size) (h : Kd.S d e W base (fun k => n1 ≤ k) v xs) (hu : Kd.S d' e2 w1 W.heap.size (fun _ => True) u ys) (hb : Below W.heap.size W w1) :
    ∃ n, n1 ≤ n ∧ Aside0 (Kd.S d e w1 base (fun k => n1 ≤ k ∧ k < n) v xs) ∧ Aside0 (Kd.S d' e2 w1 base (fun k => n ≤ k) u ys) :=
  ⟨W.heap.size, hn, ⟨Kd.S_below (Kd.S_mono (Kd.S_bound h) (fun _ hk => ⟨hk.1, hk.2.2.1⟩)) hb⟩, ⟨Kd.S_lower (Kd.S_mono (Kd.S_bound hu) (fun _ hk => hk.2.1)) hs⟩⟩
end
end Go.Proofs.YtgdlbilpfmjeaaaW.PrintLast
