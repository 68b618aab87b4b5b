/- The row of laws_FnExactDashOf where what it reads is of bulk at most 1048576: out of its pure statement and the printed contract. Printed by rowgen.py (this session's own). -/
import Derived.Test.YtjfienkbcacijaaRows
import Derived.Test.YtjfienkbcacijaaTFnExactDashOf
import Derived.Test.YtjfienkbcacijaaQFnExactDashOf
import Derived.WalkKit
import Derived.ProofKit
import Derived.OpenShut
import Derived.ShutString
import Derived.ChangeOld
import Derived.Below
import Derived.SizedLaws
import Derived.JoinedCond
import Derived.ChangeSame
namespace Go.Proofs.Ytjfienkbcacijaa.fnExactDashOf
open Go.ChangeShapes Go.WideShapes Go.ChangeAt Go.RowKit Go.Proofs.Ytjfienkbcacijaa.Op Go.Proofs.YtjfienkbcacijaaW.PrintWords Go.Proofs.YtjfienkbcacijaaW.PrintLast Go.Proofs.Ytjfienkbcacijaa.MFnExactDashOf Go.Proofs.Ytjfienkbcacijaa.TFnExactDashOf
open Go.ChangeMaps (open_string shut_string)
set_option linter.unusedVariables false
theorem own : ownKnob Try.prog.godebug = none := by kernel_rfl
theorem laidOut : laidOutB Try.prog = true := by kernel_rfl
theorem one_le {H : Type} (d : DataW H) : 1 ≤ Rows.uptoBulk d := by
  cases d with
  | lit l => cases l <;> simp [Rows.uptoBulk]
  | nil => simp [Rows.uptoBulk]
  | ptr d => simp [Rows.uptoBulk]
  | slice elems spare => simp [Rows.uptoBulk]
  | agg parts => simp [Rows.uptoBulk]
  | iface t d => simp [Rows.uptoBulk]
  | map entries => simp [Rows.uptoBulk]
  | held h => simp [Rows.uptoBulk]
theorem all_three {H : Type} : ∀ (l : List (DataW H × List MemPlace)), (∀ y ∈ l, 3 ≤ Rows.uptoBulk y.1) → 3 * l.length ≤ Rows.uptoBulkAll (l.map (·.1))
  | [], _ => by simp
  | y :: t, h => by
    have h1 := h y List.mem_cons_self
    have h2 := all_three t (fun z hz => h z (List.mem_cons_of_mem _ hz))
    simp only [List.map_cons, Rows.uptoBulkAll, List.length_cons]
    omega
theorem row_bulk {H : Type} {enc : TypeId × Value → H} {w : World} {spare : Nat → Bool} {held : Bool} {fuel : Nat} {A0 : Option Addr} {len cap : Nat} {x : DataW H × List MemPlace} (h : DataW.trod enc Try.prog w 0 spare held fuel 37 [.slice A0 len cap] = some x) : 3 * len + 1 ≤ Rows.uptoBulk x.1 := by
  rcases DataW.trod_slice Try.underlying37 h with ⟨hc, hx⟩ | ⟨a, len2, cap2, elems, rest, n, _, hc, hx, _, _, _, hlen, hel, _, _⟩
  · have e : len = 0 := by
      have h1 := (List.cons.inj hc).1
      injection h1
    subst hx
    have := one_le (DataW.nil (H := H))
    show 3 * len + 1 ≤ Rows.uptoBulk DataW.nil
    omega
  · have e : len = len2 := by
      have h1 := (List.cons.inj hc).1
      injection h1
    subst hx
    subst e
    have h3 : ∀ y ∈ elems, 3 ≤ Rows.uptoBulk y.1 := by
      intro y hy
      obtain ⟨i, hi⟩ := List.getElem?_of_mem hy
      have hlt : i < len := by
        have := (List.getElem?_eq_some_iff.1 hi).1
        omega
      have hb := hel i hlt
      rw [hi, Option.bind_eq_some_iff] at hb
      obtain ⟨c, _, hy2⟩ := hb
      obtain ⟨y0, y1, _, rfl, _, _, _⟩ := trod_struct2 Try.underlying89 hy2
      have o0 := one_le y0.1
      have o1 := one_le y1.1
      simp only [Rows.uptoBulk, Rows.uptoBulkAll]
      omega
    have h4 := all_three elems h3
    simp only [Rows.uptoBulk]
    omega
set_option maxHeartbeats 8000000 in
set_option maxRecDepth 100000 in
theorem contract (H : Type) (enc : TypeId × Value → H) (W : World) (base : Nat) (args : Array Value) (ds gs : List (DataW H)) (before : List MemPlace)
    (hval0 : ∀ (j : Nat) t v, Try.f5.params[j]? = some t → args[j]? = some v → Value.okWide Try.prog W .any base t v)
    (hW : DataW.Whole enc Try.prog Try.f5.params.toList Rows.fnExactDashOfSpec.vars false W args.toList ds gs before) (hkb : Rows.uptoSmall H (ds ++ gs) = true) :
    Calls Try.prog 5 args W fun e W' => ∃ v, e = .returned v ∧ Rows.fnExactDashOfSpec.post enc Try.prog Try.f5 false true false false W args v W' := by
  have hval : ∀ (j : Nat) t v, Try.f5.params[j]? = some t → args[j]? = some v → Value.okWide Try.prog W .any base t v := hval0
  have hW' := hW
  obtain ⟨p, q, hA0, hV, rfl, hfz, hnd⟩ := hW
  have hA : DataW.TrodAll enc Try.prog W 0 (fun _ => true) true Try.f5.params.toList args.toList ds p := hA0
  rw [Try.params5] at hA hval
  obtain ⟨v0, vs0, d0, ds0, p0, q0, hargs, rfl, rfl, h0, r0⟩ := trodAll_cons hA
  obtain ⟨v1, vs1, d1, ds1, p1, q1, rfl, rfl, rfl, h1, r1⟩ := trodAll_cons r0
  obtain ⟨v2, vs2, d2, ds2, p2, q2, rfl, rfl, rfl, h2, r2⟩ := trodAll_cons r1
  obtain ⟨rfl, rfl, rfl⟩ := trodAll_nil r2
  obtain rfl : args = #[v0, v1, v2] := by cases args; simp_all
  obtain ⟨rfl, rfl⟩ := trodVars_none hV
  obtain ⟨A0, len0, cap0, rfl⟩ := okWide_slice Try.underlying37 (hval 0 37 v0 rfl rfl)
  have k0 := h0
  have lt0 : ∀ x ∈ p0, x.block < W.heap.size := by obtain ⟨m, hm⟩ := k0; exact DataW.trod_lt m _ _ _ hm
  obtain ⟨fuel0, hf0⟩ := h0
  have hb0 : 3 * len0 + 1 ≤ Rows.uptoBulk d0 := row_bulk hf0
  obtain ⟨l0, ⟨B0, c0, hcs0, hc0, hr0⟩, w0⟩ := (opn_slice (k := k89) Try.underlying37 (by kernel_rfl) opn89) _ enc W _ _ fuel0 _ _ hf0
  obtain ⟨rfl, rfl, ec0⟩ : A0 = B0 ∧ len0 = l0.length ∧ cap0 = c0 := by simpa [Value.cells] using hcs0
  obtain rfl := ec0.symm
  obtain ⟨A1, len1, cap1, rfl⟩ := okWide_slice Try.underlying24 (hval 1 24 v1 rfl rfl)
  have k1 := h1
  have lt1 : ∀ x ∈ p1, x.block < W.heap.size := by obtain ⟨m, hm⟩ := k1; exact DataW.trod_lt m _ _ _ hm
  obtain ⟨fuel1, hf1⟩ := h1
  obtain ⟨l1, ⟨B1, c1, hcs1, hc1, hr1⟩, w1⟩ := (opn_slice (k := (Kd.int .i64)) Try.underlying24 (by kernel_rfl) (opn_int Try.underlying3)) _ enc W _ _ fuel1 _ _ hf1
  obtain ⟨rfl, rfl, ec1⟩ : A1 = B1 ∧ len1 = l1.length ∧ cap1 = c1 := by simpa [Value.cells] using hcs1
  obtain rfl := ec1.symm
  obtain ⟨a2, rfl, rfl, rfl, w2⟩ := open_int Try.underlying3 (hval 2 3 v2 rfl rfl) h2
  have hk2 : Rows.uptoBulkAll ([d0, d1, .lit (.int .i64 a2)] ++ []) ≤ 1048576 := of_decide_eq_true hkb
  have hs0 : l0.length ≤ 400000 := by
    simp only [List.append_nil, Rows.uptoBulkAll] at hk2
    omega
  clear hA0 hval0
  have hp := QFnExactDashOf.pure l0 l1 a2 hs0 w0 w1 w2
  obtain ⟨k, hk⟩ := hp
  refine (laws_FnExactDashOf.calls k A0 c0 l0 A1 c1 l1 a2 true W hr0 hc0 hr1 hc1 rfl hk).mono fun e W' ⟨he, bel0⟩ => ?_
  have bel : Below W.heap.size W W' := bel0
  subst he
  exact ⟨_, rfl, _, _, _, [], _, [], hW', trodAll_mk1 (shut_bool Try.underlying4 _), (trodAll_cons_mk (Below.trod laidOut (by kernel_rfl) (of_decide_eq_true (by kernel_rfl)) k0 bel lt0) (trodAll_cons_mk (Below.trod laidOut (by kernel_rfl) (of_decide_eq_true (by kernel_rfl)) k1 bel lt1) (trodAll_cons_mk (shut_int Try.underlying3 w2) trodAll_mk0))), rfl, bel.frame _, fun h => by cases h⟩
set_option maxRecDepth 100000 in
theorem lifted (os : Os) (started : os.Started) (H : Type) (enc : TypeId × Value → H) (F : Stop.Interp) :
    ReturnsInHanded {} Try.checked os 5 .any ((Rows.OpenSpec.upto Rows.fnExactDashOfSpec).pre6 enc Try.prog Try.f5 Rows.fnExactDashOfUptoRow.domain false) (((Rows.OpenSpec.upto Rows.fnExactDashOfSpec).at F).post enc Try.prog Try.f5 false true false false) := by
  refine returnsInHanded_of_cond (C := Try.checked) (s := Rows.OpenSpec.upto Rows.fnExactDashOfSpec) (k := Rows.uptoSmall) rfl own started (by kernel_rfl) Try.func5
    (OpenSpec.witness (enc := enc) (C := Try.checked) (s := Rows.OpenSpec.upto Rows.fnExactDashOfSpec) (k := Rows.uptoSmall) rfl false ⟨#[], #[.slice none 0 0, .slice none 0 0, .int .i64 0], []⟩ 8 (by kernel_rfl) (by kernel_rfl) (by kernel_rfl)
      (x := ([.nil, .nil, .lit (.int .i64 0)], [], [])) (by kernel_rfl) rfl (by kernel_rfl)) ?_
  intro W base args ds gs before hval hW _ hk _
  exact contract H enc W base args ds gs before hval hW hk
theorem over : Rows.fnExactDashOfUptoRow.holds Try.pinned (Rows.OpenSpec.upto Rows.fnExactDashOfSpec) :=
  OpenClaim.holds_of_cond 5 Try.f5 rfl rfl rfl rfl rfl rfl rfl ⟨rfl, rfl, rfl, rfl, rfl⟩ rfl rfl rfl rfl rfl (by kernel_rfl) Try.func5 (by kernel_rfl)
    (of_decide_eq_true (by kernel_rfl)) (by unfold Func.isWrapper; first | (rw [if_pos (by decide +kernel)]; kernel_rfl) | (rw [if_neg (by decide +kernel)]; exact ⟨rfl, rfl⟩))
    (fun os started H enc _ F => lifted os started H enc F)
theorem proved : Rows.FnExactDashOfUptoSaid := over
#print axioms proved
end Go.Proofs.Ytjfienkbcacijaa.fnExactDashOf
namespace Go.Proofs.Ytjfienkbcacijaa
/-- The row, under a short name, for the claim. -/
theorem fnExactDashOf_holds : Rows.FnExactDashOfUptoSaid := fnExactDashOf.proved
end Go.Proofs.Ytjfienkbcacijaa
