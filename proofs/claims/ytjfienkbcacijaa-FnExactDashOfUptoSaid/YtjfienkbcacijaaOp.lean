/- What a struct, a slice, a number that comes in reads as: the bridge from the row's reading (DataW.trod) to the printed contracts' kinds (Kd). Written for this set of claims. -/
import Derived.Test.YtjfienkbcacijaaWWords
import Derived.ChangeSlices
import Derived.ChangeOld
import Derived.WalkKit
import Derived.ProofKit
import Derived.OpenShut
import Derived.Below
import Derived.SizedLaws
import Derived.Deep.Slices
namespace Go.Proofs.Ytjfienkbcacijaa.Op
open Go.RowKit Go.ChangeShapes Go.WideShapes Go.Proofs.YtjfienkbcacijaaW.PrintWords

/-- Cells of type t that read as data are a value of the kind k, and meet wf. -/
def Opn {α : Type} (P : Program) (t : TypeId) (k : Kd α) (wf : α → Prop) : Prop :=
  ∀ (H : Type) (enc : TypeId × Value → H) (w : World) (spare : Nat → Bool) (held : Bool) (fuel : Nat) (cs : List Value) (x : DataW H × List MemPlace),
    DataW.trod enc P w 0 spare held fuel t cs = some x → ∃ a, k.K w a cs ∧ wf a

theorem opn_int {P : Program} {t : TypeId} {k : IntKind} (ht : P.underlying t = some (.int k)) : Opn P t (Kd.int k) (fun n => (Lit.int k n).wf = true) := by
  intro H enc w spare held fuel cs x h
  obtain ⟨n, rfl, _, hw⟩ := DataW.trod_int ht h
  exact ⟨n, rfl, hw⟩

theorem opn_bool {P : Program} {t : TypeId} (ht : P.underlying t = some .bool) : Opn P t Kd.bool (fun _ => True) := by
  intro H enc w spare held fuel cs x h
  obtain ⟨b, rfl, _⟩ := DataW.trod_bool ht h
  exact ⟨b, rfl, trivial⟩

theorem opn_slice {α : Type} {P : Program} {t e : TypeId} {k : Kd α} {wf : α → Prop} (ht : P.underlying t = some (.slice e)) (hc : P.cellsOf e = k.sz) (h : Opn P e k wf) :
    Opn P t (Kd.slice e k) (fun xs => xs.length ≤ maxLen ∧ ∀ x ∈ xs, wf x) := by
  intro H enc w spare held fuel cs x hx
  rcases DataW.trod_slice ht hx with ⟨rfl, _⟩ | ⟨a, len, cap, elems, rest, n, _, rfl, rfl, hb, hl, hm, hlen, hel, _, _⟩
  · exact ⟨[], ⟨none, 0, rfl, Nat.le_refl _, rfl, by simp, fun h => absurd h (Nat.lt_irrefl 0)⟩, by simp, by simp⟩
  · have each : ∀ i, i < len → ∃ (p : α) (c : List Value), k.K w p c ∧ wf p ∧ (∀ j u, c[j]? = some u → w.cell? (a.add (i * k.sz + j)) = some u) := by
      intro i hi
      have hb := hel i hi
      have hs : ∃ y, elems[i]? = some y := ⟨_, List.getElem?_eq_getElem (by omega)⟩
      obtain ⟨y, hy⟩ := hs
      rw [hy, Option.bind_eq_some_iff] at hb
      obtain ⟨c, hcs, hy'⟩ := hb
      obtain ⟨p, hp, hwf⟩ := h H enc w spare held n c y hy'
      refine ⟨p, c, hp, hwf, fun j u hj => ?_⟩
      obtain ⟨_, hcl, hcell⟩ := World.cells?_some hcs
      have hjl : j < P.cellsOf e := by have := (List.getElem?_eq_some_iff.1 hj).1; omega
      have := hcell j hjl
      rw [hj, Addr.add_add] at this
      rw [← hc]
      exact this
    have ex : ∀ m, m ≤ len → ∃ ps : List α, ps.length = m ∧ ∀ i p, ps[i]? = some p → ∃ c, k.K w p c ∧ wf p ∧ (∀ j u, c[j]? = some u → w.cell? (a.add (i * k.sz + j)) = some u) := by
      intro m
      induction m with
      | zero => intro _; exact ⟨[], rfl, by simp⟩
      | succ m ih =>
        intro hm2
        obtain ⟨ps, hps, hall⟩ := ih (by omega)
        obtain ⟨p, c, h1, h2, h3⟩ := each m (by omega)
        refine ⟨ps ++ [p], by simp [hps], fun i q hq => ?_⟩
        by_cases hi : i < ps.length
        · rw [List.getElem?_append_left hi] at hq
          exact hall i q hq
        · have hi2 : i = m := by
            have := (List.getElem?_eq_some_iff.1 hq).1
            simp at this
            omega
          subst hi2
          rw [List.getElem?_append_right (by omega), hps] at hq
          simp at hq
          subst hq
          exact ⟨c, h1, h2, h3⟩
    obtain ⟨ps, hps, hall⟩ := ex len (Nat.le_refl _)
    refine ⟨ps, ⟨some a, cap, by rw [hps], by omega, rfl, by unfold maxLen at hm; omega, fun _ => ⟨a, rfl, fun j p hj => ?_⟩⟩, by omega, fun x hx => ?_⟩
    · obtain ⟨c, h1, _, h3⟩ := hall j p hj
      exact ⟨c, k.K_len h1, h1, h3⟩
    · obtain ⟨i, hi⟩ := List.getElem?_of_mem hx
      obtain ⟨c, _, h2, _⟩ := hall i x hi
      exact h2

/-- Fields fs, laid from off on, read as k. -/
def OpnF {α : Type} (P : Program) (fs : List Field) (off : Nat) (k : Kd α) (wf : α → Prop) : Prop :=
  ∀ (H : Type) (enc : TypeId × Value → H) (w : World) (spare : Nat → Bool) (held : Bool) (fuel : Nat) (cs : List Value),
    (∀ f ∈ fs, ∃ x, DataW.trod enc P w 0 spare held fuel f.type ((cs.drop f.offset).take (P.cellsOf f.type)) = some x) → cs.length = off + k.sz → ∃ a, k.K w a (cs.drop off) ∧ wf a

theorem opnF_one {α : Type} {P : Program} {f : Field} {off : Nat} {k : Kd α} {wf : α → Prop} (ho : f.offset = off) (hc : P.cellsOf f.type = k.sz) (h : Opn P f.type k wf) : OpnF P [f] off k wf := by
  intro H enc w spare held fuel cs hx hl
  obtain ⟨y, hy⟩ := hx f (List.mem_singleton.2 rfl)
  rw [ho, hc] at hy
  rw [List.take_of_length_le (by simp; omega)] at hy
  exact h H enc w spare held fuel _ y hy

theorem opnF_cons {α β : Type} {P : Program} {f : Field} {fs : List Field} {off : Nat} {k : Kd α} {k2 : Kd β} {wf : α → Prop} {wf2 : β → Prop} (ho : f.offset = off) (hc : P.cellsOf f.type = k.sz)
    (h : Opn P f.type k wf) (h2 : OpnF P fs (off + k.sz) k2 wf2) : OpnF P (f :: fs) off (Kd.pair k k2) (fun p => wf p.1 ∧ wf2 p.2) := by
  intro H enc w spare held fuel cs hx hl
  obtain ⟨y, hy⟩ := hx f List.mem_cons_self
  rw [ho, hc] at hy
  obtain ⟨a, ha, wa⟩ := h H enc w spare held fuel _ y hy
  have hl2 : cs.length = off + (k.sz + k2.sz) := hl
  obtain ⟨b, hb, wb⟩ := h2 H enc w spare held fuel cs (fun g hg => hx g (List.mem_cons_of_mem _ hg)) (by omega)
  refine ⟨(a, b), ⟨_, _, ?_, ha, hb⟩, wa, wb⟩
  rw [← List.drop_drop, List.take_append_drop]

theorem opn_struct {α β : Type} {P : Program} {t : TypeId} {fs : Array Field} {k : Kd α} {wf : α → Prop} (ht : P.underlying t = some (.struct fs)) (hc : P.cellsOf t = k.sz) (f : β → α) (g : α → β) (hfg : ∀ a, f (g a) = a)
    (h : OpnF P fs.toList 0 k wf) : Opn P t (Kd.iso k f) (fun b => wf (f b)) := by
  intro H enc w spare held fuel cs x hx
  obtain ⟨xs, n, _, _, hl, hlen, hf⟩ := DataW.trod_struct ht hx
  have hm : ∀ f ∈ fs.toList, ∃ x, DataW.trod enc P w 0 spare held n f.type ((cs.drop f.offset).take (P.cellsOf f.type)) = some x := by
    intro f hfm
    obtain ⟨i, hi⟩ := List.getElem?_of_mem hfm
    have hi2 : fs[i]? = some f := by simpa using hi
    have hlt : i < fs.size := (Array.getElem?_eq_some_iff.1 hi2).1
    exact ⟨xs[i]'(by omega), by rw [hf i f hi2]; exact List.getElem?_eq_getElem (by omega)⟩
  obtain ⟨a, ha, hw⟩ := h H enc w spare held n cs hm (by omega)
  refine ⟨g a, ?_, ?_⟩
  · show k.K w (f (g a)) cs
    rw [hfg]
    simpa using ha
  · show wf (f (g a))
    rw [hfg]
    exact hw

theorem opn_pair {α : Type} {P : Program} {t : TypeId} {fs : Array Field} {k : Kd α} {wf : α → Prop} (ht : P.underlying t = some (.struct fs)) (hc : P.cellsOf t = k.sz)
    (h : OpnF P fs.toList 0 k wf) : Opn P t k wf := fun H enc w spare held fuel cs x hx => by
  obtain ⟨a, ha, hw⟩ := opn_struct ht hc (fun b => b) (fun b => b) (fun _ => rfl) h H enc w spare held fuel cs x hx
  exact ⟨a, ha, hw⟩

end Go.Proofs.Ytjfienkbcacijaa.Op
