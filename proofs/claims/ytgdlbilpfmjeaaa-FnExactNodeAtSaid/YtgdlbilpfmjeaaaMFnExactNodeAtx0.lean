/- Functions of the program as Lean functions, and the proof that a call comes to just these: machine text of this session's own program (myprint.py). -/
import Derived.Test.YtgdlbilpfmjeaaaProg
import Derived.Below
import Derived.Deep.Draws
import Derived.Deep.AppendLies
import Derived.Maps.AppendAt
import Derived.OwnWalk
import Derived.Laws.BytesArg
import Derived.Laws.MakeOwn
import Derived.Laws.OwnMore
import Derived.Deep.OwnRows
import Derived.Tactics
import Derived.Lib.ConvBytes
import Derived.Laws.Slices
import Derived.WalkKit
import Derived.KernelRfl
import Derived.RowKit3
import Derived.Deep.LoopGhost
import Derived.Deep.QuietTactic
import Derived.BigQuiet
import Derived.WideLaws
import Derived.Deep.DeepCutAuto
import Derived.Deep.CutBlock
import Derived.Deep.RegionHeld3
import Derived.Laws.Rows
import Derived.Lib.AppendStr
import Derived.ArgAppend
import Derived.Laws.IdiomCopy
import Derived.OrdersHeld
import Derived.Laws.BitsLemmas
import Derived.RowKit
import Derived.Test.YtgdlbilpfmjeaaaVw
import Derived.Test.YtgdlbilpfmjeaaaWWords
import Derived.Test.YtgdlbilpfmjeaaaWLast
import Derived.Test.YtgdlbilpfmjeaaaWTab
import Derived.Test.YtgdlbilpfmjeaaaWFour
import Derived.Test.YtgdlbilpfmjeaaaWQPut
import Derived.Test.YtgdlbilpfmjeaaaWApart
import Derived.Test.YtgdlbilpfmjeaaaWArr
import Derived.Test.YtgdlbilpfmjeaaaWZeros
import Derived.Test.YtgdlbilpfmjeaaaWFoot
import Derived.Test.YtgdlbilpfmjeaaaWKept
import Derived.Test.YtgdlbilpfmjeaaaWShare
import Derived.Test.YtgdlbilpfmjeaaaWN
import Derived.Test.YtgdlbilpfmjeaaaWFootNe
import Derived.Test.YtgdlbilpfmjeaaaWAt
import Derived.Test.YtgdlbilpfmjeaaaWEqStruct
import Derived.Test.YtgdlbilpfmjeaaaWRepsOne
import Derived.Test.YtgdlbilpfmjeaaaWInv
import Derived.Test.YtgdlbilpfmjeaaaWInvWords
import Derived.Test.YtgdlbilpfmjeaaaWGuard
import Derived.Test.YtgdlbilpfmjeaaaWNEv
import Derived.Test.YtgdlbilpfmjeaaaWMore
namespace Go.Proofs.Ytgdlbilpfmjeaaa.MFnExactNodeAt
open Go.RowKit Go.Proofs.YtgdlbilpfmjeaaaW.PrintWords Go.Proofs.YtgdlbilpfmjeaaaW.PrintLast Go.Proofs.YtgdlbilpfmjeaaaW.PrintMore
attribute [local go_sem] max2_int min2_int max_two min_two max_three min_three max_four min_four   -- for this text's walks alone
set_option linter.unusedVariables false
set_option linter.unusedSimpArgs false



def errW : Option Int → Value
  | none => .nilIface
  | some c => .iface 0 (.int .i64 c)
theorem errW_none : errW none = .nilIface := rfl
theorem errW_some (c : Int) : errW (some c) = .iface 0 (.int .i64 c) := rfl

theorem info3 : (Try.prog.info? 3).map (fun i => (i.zero, i.size, i.bytes)) = some (some (.int .i64 0), 1, 8) := by kernel_rfl
theorem info32 : (Try.prog.info? 32).map (fun i => (i.zero, i.size, i.bytes)) = some (some (.agg #[(.int .i64 0), (.int .i64 0)]), 2, 16) := by kernel_rfl
theorem info96 : (Try.prog.info? 96).map (fun i => (i.zero, i.size, i.bytes)) = some (some (.agg #[(.int .i64 0), (.int .i64 0), (.bool false), (.int .i64 0), (.int .i64 0), (.int .i64 0), (.int .i64 0), (.int .i64 0), (.int .i64 0), (.slice none 0 0), (.slice none 0 0), (.bool false), (.int .i64 0), (.slice none 0 0), (.int .i64 0), (.int .i64 0), (.int .i64 0), (.int .i64 0), (.int .i64 0), (.int .i64 0), (.int .i64 0), (.int .i64 0), (.int .i64 0), (.int .i64 0), (.int .i64 0), (.int .i64 0), (.int .i64 0), (.int .i64 0), (.int .i64 0), (.slice none 0 0), (.slice none 0 0)]), 31, 328) := by kernel_rfl
-- the values' own types
/-! #### struct type 157 -/
structure S157 where
 f0 : Int
 f1 : Int
def z157 : S157 := ⟨(0 : Int), (0 : Int)⟩
def k157 : Kd S157 := Kd.iso (Kd.pair (Kd.int .i64) (Kd.int .i64)) (fun x : S157 => (x.f0, x.f1))
theorem k157_open {w : World} {x : S157} {cs : List Value} (h : k157.K w x cs) : cs = [.int .i64 x.f0, .int .i64 x.f1] := by
 obtain ⟨_, _, rfl, rfl, rfl⟩ := h
 exact rfl
theorem k157_openM {w : World} {base : Nat} {ok : Nat → Prop} {x : S157} {cs : List Value} (h : k157.M w base ok x cs) : cs = [.int .i64 x.f0, .int .i64 x.f1] := by
 obtain ⟨_, _, rfl, rfl, rfl⟩ := h
 exact rfl
theorem k157_mk (w : World) (x : S157)  : k157.K w x [.int .i64 x.f0, .int .i64 x.f1] := ⟨[.int .i64 x.f0], [.int .i64 x.f1], rfl, rfl, rfl⟩
theorem k157_mkM (w : World) (base : Nat) (ok : Nat → Prop) (x : S157)  : k157.M w base ok x [.int .i64 x.f0, .int .i64 x.f1] := ⟨[.int .i64 x.f0], [.int .i64 x.f1], rfl, rfl, rfl⟩
def rd_T157 (xs : List S157) (i : Int) : S157 := xs.getD i.toNat z157
theorem at_T157 {w : World} {A : Option Addr} {n : Nat} {xs : List S157} (h : Kd.C k157 w A n xs) (i : Int) (h0 : 0 ≤ i) (h1 : i < n) : ∃ ad , A = some ad ∧ w.cell? (ad.add (i.toNat * 2)) = some (.int .i64 (rd_T157 xs i).f0) ∧ w.cell? ⟨(ad.add (i.toNat * 2)).block, (ad.add (i.toNat * 2)).off + 1, none⟩ = some (.int .i64 (rd_T157 xs i).f1) := by
 obtain ⟨ad, c, e, _, hK, hc0⟩ := Kd.C_get h z157 i h0 h1
 have hc : ∀ j u, c[j]? = some u → w.cell? (ad.add (i.toNat * 2 + j)) = some u := hc0
 obtain rfl := k157_open hK
 exact ⟨ad, e, hc 0 _ rfl, by rw [← add_field _ _ 1 (by omega)]; exact hc 1 _ rfl⟩

/-! #### struct type 166 -/
structure S166 where
 f0 : Int
 f1 : Int
 f2 : Int
 f3 : Int
 f4 : Int
 f5 : Int
def z166 : S166 := ⟨(0 : Int), (0 : Int), (0 : Int), (0 : Int), (0 : Int), (0 : Int)⟩
def k166 : Kd S166 := Kd.iso (Kd.pair (Kd.int .i64) (Kd.pair (Kd.int .i64) (Kd.pair (Kd.int .i64) (Kd.pair (Kd.int .i64) (Kd.pair (Kd.int .i64) (Kd.int .i64)))))) (fun x : S166 => (x.f0, x.f1, x.f2, x.f3, x.f4, x.f5))
theorem k166_open {w : World} {x : S166} {cs : List Value} (h : k166.K w x cs) : cs = [.int .i64 x.f0, .int .i64 x.f1, .int .i64 x.f2, .int .i64 x.f3, .int .i64 x.f4, .int .i64 x.f5] := by
 obtain ⟨_, _, rfl, rfl, ⟨_, _, rfl, rfl, ⟨_, _, rfl, rfl, ⟨_, _, rfl, rfl, ⟨_, _, rfl, rfl, rfl⟩⟩⟩⟩⟩ := h
 exact rfl
theorem k166_openM {w : World} {base : Nat} {ok : Nat → Prop} {x : S166} {cs : List Value} (h : k166.M w base ok x cs) : cs = [.int .i64 x.f0, .int .i64 x.f1, .int .i64 x.f2, .int .i64 x.f3, .int .i64 x.f4, .int .i64 x.f5] := by
 obtain ⟨_, _, rfl, rfl, ⟨_, _, rfl, rfl, ⟨_, _, rfl, rfl, ⟨_, _, rfl, rfl, ⟨_, _, rfl, rfl, rfl⟩⟩⟩⟩⟩ := h
 exact rfl
theorem k166_mk (w : World) (x : S166)  : k166.K w x [.int .i64 x.f0, .int .i64 x.f1, .int .i64 x.f2, .int .i64 x.f3, .int .i64 x.f4, .int .i64 x.f5] := ⟨[.int .i64 x.f0], [.int .i64 x.f1, .int .i64 x.f2, .int .i64 x.f3, .int .i64 x.f4, .int .i64 x.f5], rfl, rfl, ⟨[.int .i64 x.f1], [.int .i64 x.f2, .int .i64 x.f3, .int .i64 x.f4, .int .i64 x.f5], rfl, rfl, ⟨[.int .i64 x.f2], [.int .i64 x.f3, .int .i64 x.f4, .int .i64 x.f5], rfl, rfl, ⟨[.int .i64 x.f3], [.int .i64 x.f4, .int .i64 x.f5], rfl, rfl, ⟨[.int .i64 x.f4], [.int .i64 x.f5], rfl, rfl, rfl⟩⟩⟩⟩⟩
theorem k166_mkM (w : World) (base : Nat) (ok : Nat → Prop) (x : S166)  : k166.M w base ok x [.int .i64 x.f0, .int .i64 x.f1, .int .i64 x.f2, .int .i64 x.f3, .int .i64 x.f4, .int .i64 x.f5] := ⟨[.int .i64 x.f0], [.int .i64 x.f1, .int .i64 x.f2, .int .i64 x.f3, .int .i64 x.f4, .int .i64 x.f5], rfl, rfl, ⟨[.int .i64 x.f1], [.int .i64 x.f2, .int .i64 x.f3, .int .i64 x.f4, .int .i64 x.f5], rfl, rfl, ⟨[.int .i64 x.f2], [.int .i64 x.f3, .int .i64 x.f4, .int .i64 x.f5], rfl, rfl, ⟨[.int .i64 x.f3], [.int .i64 x.f4, .int .i64 x.f5], rfl, rfl, ⟨[.int .i64 x.f4], [.int .i64 x.f5], rfl, rfl, rfl⟩⟩⟩⟩⟩
def rd_T166 (xs : List S166) (i : Int) : S166 := xs.getD i.toNat z166
theorem at_T166 {w : World} {A : Option Addr} {n : Nat} {xs : List S166} (h : Kd.C k166 w A n xs) (i : Int) (h0 : 0 ≤ i) (h1 : i < n) : ∃ ad , A = some ad ∧ w.cell? (ad.add (i.toNat * 6)) = some (.int .i64 (rd_T166 xs i).f0) ∧ w.cell? ⟨(ad.add (i.toNat * 6)).block, (ad.add (i.toNat * 6)).off + 1, none⟩ = some (.int .i64 (rd_T166 xs i).f1) ∧ w.cell? ⟨(ad.add (i.toNat * 6)).block, (ad.add (i.toNat * 6)).off + 2, none⟩ = some (.int .i64 (rd_T166 xs i).f2) ∧ w.cell? ⟨(ad.add (i.toNat * 6)).block, (ad.add (i.toNat * 6)).off + 3, none⟩ = some (.int .i64 (rd_T166 xs i).f3) ∧ w.cell? ⟨(ad.add (i.toNat * 6)).block, (ad.add (i.toNat * 6)).off + 4, none⟩ = some (.int .i64 (rd_T166 xs i).f4) ∧ w.cell? ⟨(ad.add (i.toNat * 6)).block, (ad.add (i.toNat * 6)).off + 5, none⟩ = some (.int .i64 (rd_T166 xs i).f5) := by
 obtain ⟨ad, c, e, _, hK, hc0⟩ := Kd.C_get h z166 i h0 h1
 have hc : ∀ j u, c[j]? = some u → w.cell? (ad.add (i.toNat * 6 + j)) = some u := hc0
 obtain rfl := k166_open hK
 exact ⟨ad, e, hc 0 _ rfl, by rw [← add_field _ _ 1 (by omega)]; exact hc 1 _ rfl, by rw [← add_field _ _ 2 (by omega)]; exact hc 2 _ rfl, by rw [← add_field _ _ 3 (by omega)]; exact hc 3 _ rfl, by rw [← add_field _ _ 4 (by omega)]; exact hc 4 _ rfl, by rw [← add_field _ _ 5 (by omega)]; exact hc 5 _ rfl⟩

def rd_L4 (xs : List (List Int)) (i : Int) : (List Int) := xs.getD i.toNat ([] : List Int)
theorem at_L4 {w : World} {A : Option Addr} {n : Nat} {xs : List (List Int)} (h : Kd.C (Kd.slice 3 (Kd.int .i64)) w A n xs) (i : Int) (h0 : 0 ≤ i) (h1 : i < n) : ∃ ad A0 c0, A = some ad ∧ w.cell? (ad.add i.toNat) = some (.slice A0 (rd_L4 xs i).length c0) ∧ (rd_L4 xs i).length ≤ c0 ∧ (Kd.int .i64).C w A0 (rd_L4 xs i).length (rd_L4 xs i) := by
 obtain ⟨ad, c, e, _, hK, hc0⟩ := Kd.C_get h ([] : List Int) i h0 h1
 have hc : ∀ j u, c[j]? = some u → w.cell? (ad.add (i.toNat * 1 + j)) = some u := hc0
 obtain ⟨A0, c0, rfl, l0, g0⟩ := hK
 exact ⟨ad, A0, c0, e, by have hq := hc 0 _ rfl; rwa [Nat.mul_one, Nat.add_zero] at hq, l0, g0⟩

def rd_L5 (xs : List (List S157)) (i : Int) : (List S157) := xs.getD i.toNat ([] : List S157)
theorem at_L5 {w : World} {A : Option Addr} {n : Nat} {xs : List (List S157)} (h : Kd.C (Kd.slice 157 k157) w A n xs) (i : Int) (h0 : 0 ≤ i) (h1 : i < n) : ∃ ad A0 c0, A = some ad ∧ w.cell? (ad.add i.toNat) = some (.slice A0 (rd_L5 xs i).length c0) ∧ (rd_L5 xs i).length ≤ c0 ∧ k157.C w A0 (rd_L5 xs i).length (rd_L5 xs i) := by
 obtain ⟨ad, c, e, _, hK, hc0⟩ := Kd.C_get h ([] : List S157) i h0 h1
 have hc : ∀ j u, c[j]? = some u → w.cell? (ad.add (i.toNat * 1 + j)) = some u := hc0
 obtain ⟨A0, c0, rfl, l0, g0⟩ := hK
 exact ⟨ad, A0, c0, e, by have hq := hc 0 _ rfl; rwa [Nat.mul_one, Nat.add_zero] at hq, l0, g0⟩

/-! #### struct type 168 -/
structure S168 where
 f0 : (List Int)
 f1 : (List S157)
def z168 : S168 := ⟨([] : List Int), ([] : List S157)⟩
def k168 : Kd S168 := Kd.iso (Kd.pair (Kd.slice 3 (Kd.int .i64)) (Kd.slice 157 k157)) (fun x : S168 => (x.f0, x.f1))
theorem k168_open {w : World} {x : S168} {cs : List Value} (h : k168.K w x cs) : ∃ A0 c0 A1 c1, cs = [.slice A0 x.f0.length c0, .slice A1 x.f1.length c1] ∧ x.f0.length ≤ c0 ∧ (Kd.int .i64).C w A0 x.f0.length x.f0 ∧ x.f1.length ≤ c1 ∧ k157.C w A1 x.f1.length x.f1 := by
 obtain ⟨_, _, rfl, ⟨A0, c0, rfl, l0, g0⟩, ⟨A1, c1, rfl, l1, g1⟩⟩ := h
 exact ⟨A0, c0, A1, c1, rfl, l0, g0, l1, g1⟩
theorem k168_openM {w : World} {base : Nat} {ok : Nat → Prop} {x : S168} {cs : List Value} (h : k168.M w base ok x cs) : ∃ v0 v1, cs = [v0, v1] ∧ (Kd.int .i64).R 3 w base ok v0 x.f0 ∧ k157.R 157 w base ok v1 x.f1 := by
 obtain ⟨_, _, rfl, ⟨v0, rfl, g0⟩, ⟨v1, rfl, g1⟩⟩ := h
 exact ⟨v0, v1, rfl, g0, g1⟩
theorem k168_mk (w : World) (x : S168) {A0 : Option Addr} {c0 : Nat} (l0 : x.f0.length ≤ c0) (g0 : (Kd.int .i64).C w A0 x.f0.length x.f0) {A1 : Option Addr} {c1 : Nat} (l1 : x.f1.length ≤ c1) (g1 : k157.C w A1 x.f1.length x.f1) : k168.K w x [.slice A0 x.f0.length c0, .slice A1 x.f1.length c1] := ⟨[.slice A0 x.f0.length c0], [.slice A1 x.f1.length c1], rfl, ⟨A0, c0, rfl, l0, g0⟩, ⟨A1, c1, rfl, l1, g1⟩⟩
theorem k168_mkM (w : World) (base : Nat) (ok : Nat → Prop) (x : S168) {v0 : Value} (g0 : (Kd.int .i64).R 3 w base ok v0 x.f0) {v1 : Value} (g1 : k157.R 157 w base ok v1 x.f1) : k168.M w base ok x [v0, v1] := ⟨[v0], [v1], rfl, ⟨v0, rfl, g0⟩, ⟨v1, rfl, g1⟩⟩
def rd_T168 (xs : List S168) (i : Int) : S168 := xs.getD i.toNat z168
theorem at_T168 {w : World} {A : Option Addr} {n : Nat} {xs : List S168} (h : Kd.C k168 w A n xs) (i : Int) (h0 : 0 ≤ i) (h1 : i < n) : ∃ ad A0 c0 A1 c1, A = some ad ∧ w.cell? (ad.add (i.toNat * 2)) = some (.slice A0 (rd_T168 xs i).f0.length c0) ∧ w.cell? ⟨(ad.add (i.toNat * 2)).block, (ad.add (i.toNat * 2)).off + 1, none⟩ = some (.slice A1 (rd_T168 xs i).f1.length c1) ∧ (rd_T168 xs i).f0.length ≤ c0 ∧ (Kd.int .i64).C w A0 (rd_T168 xs i).f0.length (rd_T168 xs i).f0 ∧ (rd_T168 xs i).f1.length ≤ c1 ∧ k157.C w A1 (rd_T168 xs i).f1.length (rd_T168 xs i).f1 := by
 obtain ⟨ad, c, e, _, hK, hc0⟩ := Kd.C_get h z168 i h0 h1
 have hc : ∀ j u, c[j]? = some u → w.cell? (ad.add (i.toNat * 2 + j)) = some u := hc0
 obtain ⟨A0, c0, A1, c1, rfl, l0, g0, l1, g1⟩ := k168_open hK
 exact ⟨ad, A0, c0, A1, c1, e, hc 0 _ rfl, by rw [← add_field _ _ 1 (by omega)]; exact hc 1 _ rfl, l0, g0, l1, g1⟩

/-! #### struct type 169 -/
structure S169 where
 f0 : Int
 f1 : Int
 f2 : Int
 f3 : Int
def z169 : S169 := ⟨(0 : Int), (0 : Int), (0 : Int), (0 : Int)⟩
def k169 : Kd S169 := Kd.iso (Kd.pair (Kd.int .i64) (Kd.pair (Kd.int .i64) (Kd.pair (Kd.int .i64) (Kd.int .i64)))) (fun x : S169 => (x.f0, x.f1, x.f2, x.f3))
theorem k169_open {w : World} {x : S169} {cs : List Value} (h : k169.K w x cs) : cs = [.int .i64 x.f0, .int .i64 x.f1, .int .i64 x.f2, .int .i64 x.f3] := by
 obtain ⟨_, _, rfl, rfl, ⟨_, _, rfl, rfl, ⟨_, _, rfl, rfl, rfl⟩⟩⟩ := h
 exact rfl
theorem k169_openM {w : World} {base : Nat} {ok : Nat → Prop} {x : S169} {cs : List Value} (h : k169.M w base ok x cs) : cs = [.int .i64 x.f0, .int .i64 x.f1, .int .i64 x.f2, .int .i64 x.f3] := by
 obtain ⟨_, _, rfl, rfl, ⟨_, _, rfl, rfl, ⟨_, _, rfl, rfl, rfl⟩⟩⟩ := h
 exact rfl
theorem k169_mk (w : World) (x : S169)  : k169.K w x [.int .i64 x.f0, .int .i64 x.f1, .int .i64 x.f2, .int .i64 x.f3] := ⟨[.int .i64 x.f0], [.int .i64 x.f1, .int .i64 x.f2, .int .i64 x.f3], rfl, rfl, ⟨[.int .i64 x.f1], [.int .i64 x.f2, .int .i64 x.f3], rfl, rfl, ⟨[.int .i64 x.f2], [.int .i64 x.f3], rfl, rfl, rfl⟩⟩⟩
theorem k169_mkM (w : World) (base : Nat) (ok : Nat → Prop) (x : S169)  : k169.M w base ok x [.int .i64 x.f0, .int .i64 x.f1, .int .i64 x.f2, .int .i64 x.f3] := ⟨[.int .i64 x.f0], [.int .i64 x.f1, .int .i64 x.f2, .int .i64 x.f3], rfl, rfl, ⟨[.int .i64 x.f1], [.int .i64 x.f2, .int .i64 x.f3], rfl, rfl, ⟨[.int .i64 x.f2], [.int .i64 x.f3], rfl, rfl, rfl⟩⟩⟩
def rd_T169 (xs : List S169) (i : Int) : S169 := xs.getD i.toNat z169
theorem at_T169 {w : World} {A : Option Addr} {n : Nat} {xs : List S169} (h : Kd.C k169 w A n xs) (i : Int) (h0 : 0 ≤ i) (h1 : i < n) : ∃ ad , A = some ad ∧ w.cell? (ad.add (i.toNat * 4)) = some (.int .i64 (rd_T169 xs i).f0) ∧ w.cell? ⟨(ad.add (i.toNat * 4)).block, (ad.add (i.toNat * 4)).off + 1, none⟩ = some (.int .i64 (rd_T169 xs i).f1) ∧ w.cell? ⟨(ad.add (i.toNat * 4)).block, (ad.add (i.toNat * 4)).off + 2, none⟩ = some (.int .i64 (rd_T169 xs i).f2) ∧ w.cell? ⟨(ad.add (i.toNat * 4)).block, (ad.add (i.toNat * 4)).off + 3, none⟩ = some (.int .i64 (rd_T169 xs i).f3) := by
 obtain ⟨ad, c, e, _, hK, hc0⟩ := Kd.C_get h z169 i h0 h1
 have hc : ∀ j u, c[j]? = some u → w.cell? (ad.add (i.toNat * 4 + j)) = some u := hc0
 obtain rfl := k169_open hK
 exact ⟨ad, e, hc 0 _ rfl, by rw [← add_field _ _ 1 (by omega)]; exact hc 1 _ rfl, by rw [← add_field _ _ 2 (by omega)]; exact hc 2 _ rfl, by rw [← add_field _ _ 3 (by omega)]; exact hc 3 _ rfl⟩

/-! #### struct type 171 -/
structure S171 where
 f0 : Int
 f1 : S169
 f2 : S169
 f3 : S157
 f4 : S157
def z171 : S171 := ⟨(0 : Int), z169, z169, z157, z157⟩
def k171 : Kd S171 := Kd.iso (Kd.pair (Kd.int .i64) (Kd.pair k169 (Kd.pair k169 (Kd.pair k157 k157)))) (fun x : S171 => (x.f0, x.f1, x.f2, x.f3, x.f4))
theorem k171_open {w : World} {x : S171} {cs : List Value} (h : k171.K w x cs) : cs = [.int .i64 x.f0, .int .i64 x.f1.f0, .int .i64 x.f1.f1, .int .i64 x.f1.f2, .int .i64 x.f1.f3, .int .i64 x.f2.f0, .int .i64 x.f2.f1, .int .i64 x.f2.f2, .int .i64 x.f2.f3, .int .i64 x.f3.f0, .int .i64 x.f3.f1, .int .i64 x.f4.f0, .int .i64 x.f4.f1] := by
 obtain ⟨_, _, rfl, rfl, ⟨_, _, rfl, s1, ⟨_, _, rfl, s5, ⟨_, _, rfl, s9, s11⟩⟩⟩⟩ := h
 obtain rfl := k169_open s1
 obtain rfl := k169_open s5
 obtain rfl := k157_open s9
 obtain rfl := k157_open s11
 exact rfl
theorem k171_openM {w : World} {base : Nat} {ok : Nat → Prop} {x : S171} {cs : List Value} (h : k171.M w base ok x cs) : cs = [.int .i64 x.f0, .int .i64 x.f1.f0, .int .i64 x.f1.f1, .int .i64 x.f1.f2, .int .i64 x.f1.f3, .int .i64 x.f2.f0, .int .i64 x.f2.f1, .int .i64 x.f2.f2, .int .i64 x.f2.f3, .int .i64 x.f3.f0, .int .i64 x.f3.f1, .int .i64 x.f4.f0, .int .i64 x.f4.f1] := by
 obtain ⟨_, _, rfl, rfl, ⟨_, _, rfl, s1, ⟨_, _, rfl, s5, ⟨_, _, rfl, s9, s11⟩⟩⟩⟩ := h
 obtain rfl := k169_openM s1
 obtain rfl := k169_openM s5
 obtain rfl := k157_openM s9
 obtain rfl := k157_openM s11
 exact rfl
theorem k171_mk (w : World) (x : S171)  : k171.K w x [.int .i64 x.f0, .int .i64 x.f1.f0, .int .i64 x.f1.f1, .int .i64 x.f1.f2, .int .i64 x.f1.f3, .int .i64 x.f2.f0, .int .i64 x.f2.f1, .int .i64 x.f2.f2, .int .i64 x.f2.f3, .int .i64 x.f3.f0, .int .i64 x.f3.f1, .int .i64 x.f4.f0, .int .i64 x.f4.f1] := ⟨[.int .i64 x.f0], [.int .i64 x.f1.f0, .int .i64 x.f1.f1, .int .i64 x.f1.f2, .int .i64 x.f1.f3, .int .i64 x.f2.f0, .int .i64 x.f2.f1, .int .i64 x.f2.f2, .int .i64 x.f2.f3, .int .i64 x.f3.f0, .int .i64 x.f3.f1, .int .i64 x.f4.f0, .int .i64 x.f4.f1], rfl, rfl, ⟨[.int .i64 x.f1.f0, .int .i64 x.f1.f1, .int .i64 x.f1.f2, .int .i64 x.f1.f3], [.int .i64 x.f2.f0, .int .i64 x.f2.f1, .int .i64 x.f2.f2, .int .i64 x.f2.f3, .int .i64 x.f3.f0, .int .i64 x.f3.f1, .int .i64 x.f4.f0, .int .i64 x.f4.f1], rfl, (k169_mk w x.f1 ), ⟨[.int .i64 x.f2.f0, .int .i64 x.f2.f1, .int .i64 x.f2.f2, .int .i64 x.f2.f3], [.int .i64 x.f3.f0, .int .i64 x.f3.f1, .int .i64 x.f4.f0, .int .i64 x.f4.f1], rfl, (k169_mk w x.f2 ), ⟨[.int .i64 x.f3.f0, .int .i64 x.f3.f1], [.int .i64 x.f4.f0, .int .i64 x.f4.f1], rfl, (k157_mk w x.f3 ), (k157_mk w x.f4 )⟩⟩⟩⟩
theorem k171_mkM (w : World) (base : Nat) (ok : Nat → Prop) (x : S171)  : k171.M w base ok x [.int .i64 x.f0, .int .i64 x.f1.f0, .int .i64 x.f1.f1, .int .i64 x.f1.f2, .int .i64 x.f1.f3, .int .i64 x.f2.f0, .int .i64 x.f2.f1, .int .i64 x.f2.f2, .int .i64 x.f2.f3, .int .i64 x.f3.f0, .int .i64 x.f3.f1, .int .i64 x.f4.f0, .int .i64 x.f4.f1] := ⟨[.int .i64 x.f0], [.int .i64 x.f1.f0, .int .i64 x.f1.f1, .int .i64 x.f1.f2, .int .i64 x.f1.f3, .int .i64 x.f2.f0, .int .i64 x.f2.f1, .int .i64 x.f2.f2, .int .i64 x.f2.f3, .int .i64 x.f3.f0, .int .i64 x.f3.f1, .int .i64 x.f4.f0, .int .i64 x.f4.f1], rfl, rfl, ⟨[.int .i64 x.f1.f0, .int .i64 x.f1.f1, .int .i64 x.f1.f2, .int .i64 x.f1.f3], [.int .i64 x.f2.f0, .int .i64 x.f2.f1, .int .i64 x.f2.f2, .int .i64 x.f2.f3, .int .i64 x.f3.f0, .int .i64 x.f3.f1, .int .i64 x.f4.f0, .int .i64 x.f4.f1], rfl, (k169_mkM w base ok x.f1 ), ⟨[.int .i64 x.f2.f0, .int .i64 x.f2.f1, .int .i64 x.f2.f2, .int .i64 x.f2.f3], [.int .i64 x.f3.f0, .int .i64 x.f3.f1, .int .i64 x.f4.f0, .int .i64 x.f4.f1], rfl, (k169_mkM w base ok x.f2 ), ⟨[.int .i64 x.f3.f0, .int .i64 x.f3.f1], [.int .i64 x.f4.f0, .int .i64 x.f4.f1], rfl, (k157_mkM w base ok x.f3 ), (k157_mkM w base ok x.f4 )⟩⟩⟩⟩
def rd_T171 (xs : List S171) (i : Int) : S171 := xs.getD i.toNat z171
theorem at_T171 {w : World} {A : Option Addr} {n : Nat} {xs : List S171} (h : Kd.C k171 w A n xs) (i : Int) (h0 : 0 ≤ i) (h1 : i < n) : ∃ ad , A = some ad ∧ w.cell? (ad.add (i.toNat * 13)) = some (.int .i64 (rd_T171 xs i).f0) ∧ w.cell? ⟨(ad.add (i.toNat * 13)).block, (ad.add (i.toNat * 13)).off + 1, none⟩ = some (.int .i64 (rd_T171 xs i).f1.f0) ∧ w.cell? ⟨(ad.add (i.toNat * 13)).block, (ad.add (i.toNat * 13)).off + 2, none⟩ = some (.int .i64 (rd_T171 xs i).f1.f1) ∧ w.cell? ⟨(ad.add (i.toNat * 13)).block, (ad.add (i.toNat * 13)).off + 3, none⟩ = some (.int .i64 (rd_T171 xs i).f1.f2) ∧ w.cell? ⟨(ad.add (i.toNat * 13)).block, (ad.add (i.toNat * 13)).off + 4, none⟩ = some (.int .i64 (rd_T171 xs i).f1.f3) ∧ w.cell? ⟨(ad.add (i.toNat * 13)).block, (ad.add (i.toNat * 13)).off + 5, none⟩ = some (.int .i64 (rd_T171 xs i).f2.f0) ∧ w.cell? ⟨(ad.add (i.toNat * 13)).block, (ad.add (i.toNat * 13)).off + 6, none⟩ = some (.int .i64 (rd_T171 xs i).f2.f1) ∧ w.cell? ⟨(ad.add (i.toNat * 13)).block, (ad.add (i.toNat * 13)).off + 7, none⟩ = some (.int .i64 (rd_T171 xs i).f2.f2) ∧ w.cell? ⟨(ad.add (i.toNat * 13)).block, (ad.add (i.toNat * 13)).off + 8, none⟩ = some (.int .i64 (rd_T171 xs i).f2.f3) ∧ w.cell? ⟨(ad.add (i.toNat * 13)).block, (ad.add (i.toNat * 13)).off + 9, none⟩ = some (.int .i64 (rd_T171 xs i).f3.f0) ∧ w.cell? ⟨(ad.add (i.toNat * 13)).block, (ad.add (i.toNat * 13)).off + 10, none⟩ = some (.int .i64 (rd_T171 xs i).f3.f1) ∧ w.cell? ⟨(ad.add (i.toNat * 13)).block, (ad.add (i.toNat * 13)).off + 11, none⟩ = some (.int .i64 (rd_T171 xs i).f4.f0) ∧ w.cell? ⟨(ad.add (i.toNat * 13)).block, (ad.add (i.toNat * 13)).off + 12, none⟩ = some (.int .i64 (rd_T171 xs i).f4.f1) := by
 obtain ⟨ad, c, e, _, hK, hc0⟩ := Kd.C_get h z171 i h0 h1
 have hc : ∀ j u, c[j]? = some u → w.cell? (ad.add (i.toNat * 13 + j)) = some u := hc0
 obtain rfl := k171_open hK
 exact ⟨ad, e, hc 0 _ rfl, by rw [← add_field _ _ 1 (by omega)]; exact hc 1 _ rfl, by rw [← add_field _ _ 2 (by omega)]; exact hc 2 _ rfl, by rw [← add_field _ _ 3 (by omega)]; exact hc 3 _ rfl, by rw [← add_field _ _ 4 (by omega)]; exact hc 4 _ rfl, by rw [← add_field _ _ 5 (by omega)]; exact hc 5 _ rfl, by rw [← add_field _ _ 6 (by omega)]; exact hc 6 _ rfl, by rw [← add_field _ _ 7 (by omega)]; exact hc 7 _ rfl, by rw [← add_field _ _ 8 (by omega)]; exact hc 8 _ rfl, by rw [← add_field _ _ 9 (by omega)]; exact hc 9 _ rfl, by rw [← add_field _ _ 10 (by omega)]; exact hc 10 _ rfl, by rw [← add_field _ _ 11 (by omega)]; exact hc 11 _ rfl, by rw [← add_field _ _ 12 (by omega)]; exact hc 12 _ rfl⟩

/-! #### struct type 173 -/
structure S173 where
 f0 : Int
 f1 : Int
 f2 : Bool
 f3 : S166
 f4 : S168
 f5 : Bool
 f6 : Int
 f7 : (List Int)
 f8 : S171
 f9 : Int
 f10 : Int
 f11 : S168
def z173 : S173 := ⟨(0 : Int), (0 : Int), false, z166, z168, false, (0 : Int), ([] : List Int), z171, (0 : Int), (0 : Int), z168⟩
def k173 : Kd S173 := Kd.iso (Kd.pair (Kd.int .i64) (Kd.pair (Kd.int .i64) (Kd.pair Kd.bool (Kd.pair k166 (Kd.pair k168 (Kd.pair Kd.bool (Kd.pair (Kd.int .i64) (Kd.pair (Kd.slice 3 (Kd.int .i64)) (Kd.pair k171 (Kd.pair (Kd.int .i64) (Kd.pair (Kd.int .i64) k168))))))))))) (fun x : S173 => (x.f0, x.f1, x.f2, x.f3, x.f4, x.f5, x.f6, x.f7, x.f8, x.f9, x.f10, x.f11))
theorem k173_open {w : World} {x : S173} {cs : List Value} (h : k173.K w x cs) : ∃ A9 c9 A10 c10 A13 c13 A29 c29 A30 c30, cs = [.int .i64 x.f0, .int .i64 x.f1, .bool x.f2, .int .i64 x.f3.f0, .int .i64 x.f3.f1, .int .i64 x.f3.f2, .int .i64 x.f3.f3, .int .i64 x.f3.f4, .int .i64 x.f3.f5, .slice A9 x.f4.f0.length c9, .slice A10 x.f4.f1.length c10, .bool x.f5, .int .i64 x.f6, .slice A13 x.f7.length c13, .int .i64 x.f8.f0, .int .i64 x.f8.f1.f0, .int .i64 x.f8.f1.f1, .int .i64 x.f8.f1.f2, .int .i64 x.f8.f1.f3, .int .i64 x.f8.f2.f0, .int .i64 x.f8.f2.f1, .int .i64 x.f8.f2.f2, .int .i64 x.f8.f2.f3, .int .i64 x.f8.f3.f0, .int .i64 x.f8.f3.f1, .int .i64 x.f8.f4.f0, .int .i64 x.f8.f4.f1, .int .i64 x.f9, .int .i64 x.f10, .slice A29 x.f11.f0.length c29, .slice A30 x.f11.f1.length c30] ∧ x.f4.f0.length ≤ c9 ∧ (Kd.int .i64).C w A9 x.f4.f0.length x.f4.f0 ∧ x.f4.f1.length ≤ c10 ∧ k157.C w A10 x.f4.f1.length x.f4.f1 ∧ x.f7.length ≤ c13 ∧ (Kd.int .i64).C w A13 x.f7.length x.f7 ∧ x.f11.f0.length ≤ c29 ∧ (Kd.int .i64).C w A29 x.f11.f0.length x.f11.f0 ∧ x.f11.f1.length ≤ c30 ∧ k157.C w A30 x.f11.f1.length x.f11.f1 := by
 obtain ⟨_, _, rfl, rfl, ⟨_, _, rfl, rfl, ⟨_, _, rfl, rfl, ⟨_, _, rfl, s3, ⟨_, _, rfl, s9, ⟨_, _, rfl, rfl, ⟨_, _, rfl, rfl, ⟨_, _, rfl, ⟨A13, c13, rfl, l13, g13⟩, ⟨_, _, rfl, s14, ⟨_, _, rfl, rfl, ⟨_, _, rfl, rfl, s29⟩⟩⟩⟩⟩⟩⟩⟩⟩⟩⟩ := h
 obtain rfl := k166_open s3
 obtain ⟨A9, c9, A10, c10, rfl, l9, g9, l10, g10⟩ := k168_open s9
 obtain rfl := k171_open s14
 obtain ⟨A29, c29, A30, c30, rfl, l29, g29, l30, g30⟩ := k168_open s29
 exact ⟨A9, c9, A10, c10, A13, c13, A29, c29, A30, c30, rfl, l9, g9, l10, g10, l13, g13, l29, g29, l30, g30⟩
theorem k173_openM {w : World} {base : Nat} {ok : Nat → Prop} {x : S173} {cs : List Value} (h : k173.M w base ok x cs) : ∃ v9 v10 v13 v29 v30, cs = [.int .i64 x.f0, .int .i64 x.f1, .bool x.f2, .int .i64 x.f3.f0, .int .i64 x.f3.f1, .int .i64 x.f3.f2, .int .i64 x.f3.f3, .int .i64 x.f3.f4, .int .i64 x.f3.f5, v9, v10, .bool x.f5, .int .i64 x.f6, v13, .int .i64 x.f8.f0, .int .i64 x.f8.f1.f0, .int .i64 x.f8.f1.f1, .int .i64 x.f8.f1.f2, .int .i64 x.f8.f1.f3, .int .i64 x.f8.f2.f0, .int .i64 x.f8.f2.f1, .int .i64 x.f8.f2.f2, .int .i64 x.f8.f2.f3, .int .i64 x.f8.f3.f0, .int .i64 x.f8.f3.f1, .int .i64 x.f8.f4.f0, .int .i64 x.f8.f4.f1, .int .i64 x.f9, .int .i64 x.f10, v29, v30] ∧ (Kd.int .i64).R 3 w base ok v9 x.f4.f0 ∧ k157.R 157 w base ok v10 x.f4.f1 ∧ (Kd.int .i64).R 3 w base ok v13 x.f7 ∧ (Kd.int .i64).R 3 w base ok v29 x.f11.f0 ∧ k157.R 157 w base ok v30 x.f11.f1 := by
 obtain ⟨_, _, rfl, rfl, ⟨_, _, rfl, rfl, ⟨_, _, rfl, rfl, ⟨_, _, rfl, s3, ⟨_, _, rfl, s9, ⟨_, _, rfl, rfl, ⟨_, _, rfl, rfl, ⟨_, _, rfl, ⟨v13, rfl, g13⟩, ⟨_, _, rfl, s14, ⟨_, _, rfl, rfl, ⟨_, _, rfl, rfl, s29⟩⟩⟩⟩⟩⟩⟩⟩⟩⟩⟩ := h
 obtain rfl := k166_openM s3
 obtain ⟨v9, v10, rfl, g9, g10⟩ := k168_openM s9
 obtain rfl := k171_openM s14
 obtain ⟨v29, v30, rfl, g29, g30⟩ := k168_openM s29
 exact ⟨v9, v10, v13, v29, v30, rfl, g9, g10, g13, g29, g30⟩
theorem k173_mk (w : World) (x : S173) {A9 : Option Addr} {c9 : Nat} (l9 : x.f4.f0.length ≤ c9) (g9 : (Kd.int .i64).C w A9 x.f4.f0.length x.f4.f0) {A10 : Option Addr} {c10 : Nat} (l10 : x.f4.f1.length ≤ c10) (g10 : k157.C w A10 x.f4.f1.length x.f4.f1) {A13 : Option Addr} {c13 : Nat} (l13 : x.f7.length ≤ c13) (g13 : (Kd.int .i64).C w A13 x.f7.length x.f7) {A29 : Option Addr} {c29 : Nat} (l29 : x.f11.f0.length ≤ c29) (g29 : (Kd.int .i64).C w A29 x.f11.f0.length x.f11.f0) {A30 : Option Addr} {c30 : Nat} (l30 : x.f11.f1.length ≤ c30) (g30 : k157.C w A30 x.f11.f1.length x.f11.f1) : k173.K w x [.int .i64 x.f0, .int .i64 x.f1, .bool x.f2, .int .i64 x.f3.f0, .int .i64 x.f3.f1, .int .i64 x.f3.f2, .int .i64 x.f3.f3, .int .i64 x.f3.f4, .int .i64 x.f3.f5, .slice A9 x.f4.f0.length c9, .slice A10 x.f4.f1.length c10, .bool x.f5, .int .i64 x.f6, .slice A13 x.f7.length c13, .int .i64 x.f8.f0, .int .i64 x.f8.f1.f0, .int .i64 x.f8.f1.f1, .int .i64 x.f8.f1.f2, .int .i64 x.f8.f1.f3, .int .i64 x.f8.f2.f0, .int .i64 x.f8.f2.f1, .int .i64 x.f8.f2.f2, .int .i64 x.f8.f2.f3, .int .i64 x.f8.f3.f0, .int .i64 x.f8.f3.f1, .int .i64 x.f8.f4.f0, .int .i64 x.f8.f4.f1, .int .i64 x.f9, .int .i64 x.f10, .slice A29 x.f11.f0.length c29, .slice A30 x.f11.f1.length c30] := ⟨[.int .i64 x.f0], [.int .i64 x.f1, .bool x.f2, .int .i64 x.f3.f0, .int .i64 x.f3.f1, .int .i64 x.f3.f2, .int .i64 x.f3.f3, .int .i64 x.f3.f4, .int .i64 x.f3.f5, .slice A9 x.f4.f0.length c9, .slice A10 x.f4.f1.length c10, .bool x.f5, .int .i64 x.f6, .slice A13 x.f7.length c13, .int .i64 x.f8.f0, .int .i64 x.f8.f1.f0, .int .i64 x.f8.f1.f1, .int .i64 x.f8.f1.f2, .int .i64 x.f8.f1.f3, .int .i64 x.f8.f2.f0, .int .i64 x.f8.f2.f1, .int .i64 x.f8.f2.f2, .int .i64 x.f8.f2.f3, .int .i64 x.f8.f3.f0, .int .i64 x.f8.f3.f1, .int .i64 x.f8.f4.f0, .int .i64 x.f8.f4.f1, .int .i64 x.f9, .int .i64 x.f10, .slice A29 x.f11.f0.length c29, .slice A30 x.f11.f1.length c30], rfl, rfl, ⟨[.int .i64 x.f1], [.bool x.f2, .int .i64 x.f3.f0, .int .i64 x.f3.f1, .int .i64 x.f3.f2, .int .i64 x.f3.f3, .int .i64 x.f3.f4, .int .i64 x.f3.f5, .slice A9 x.f4.f0.length c9, .slice A10 x.f4.f1.length c10, .bool x.f5, .int .i64 x.f6, .slice A13 x.f7.length c13, .int .i64 x.f8.f0, .int .i64 x.f8.f1.f0, .int .i64 x.f8.f1.f1, .int .i64 x.f8.f1.f2, .int .i64 x.f8.f1.f3, .int .i64 x.f8.f2.f0, .int .i64 x.f8.f2.f1, .int .i64 x.f8.f2.f2, .int .i64 x.f8.f2.f3, .int .i64 x.f8.f3.f0, .int .i64 x.f8.f3.f1, .int .i64 x.f8.f4.f0, .int .i64 x.f8.f4.f1, .int .i64 x.f9, .int .i64 x.f10, .slice A29 x.f11.f0.length c29, .slice A30 x.f11.f1.length c30], rfl, rfl, ⟨[.bool x.f2], [.int .i64 x.f3.f0, .int .i64 x.f3.f1, .int .i64 x.f3.f2, .int .i64 x.f3.f3, .int .i64 x.f3.f4, .int .i64 x.f3.f5, .slice A9 x.f4.f0.length c9, .slice A10 x.f4.f1.length c10, .bool x.f5, .int .i64 x.f6, .slice A13 x.f7.length c13, .int .i64 x.f8.f0, .int .i64 x.f8.f1.f0, .int .i64 x.f8.f1.f1, .int .i64 x.f8.f1.f2, .int .i64 x.f8.f1.f3, .int .i64 x.f8.f2.f0, .int .i64 x.f8.f2.f1, .int .i64 x.f8.f2.f2, .int .i64 x.f8.f2.f3, .int .i64 x.f8.f3.f0, .int .i64 x.f8.f3.f1, .int .i64 x.f8.f4.f0, .int .i64 x.f8.f4.f1, .int .i64 x.f9, .int .i64 x.f10, .slice A29 x.f11.f0.length c29, .slice A30 x.f11.f1.length c30], rfl, rfl, ⟨[.int .i64 x.f3.f0, .int .i64 x.f3.f1, .int .i64 x.f3.f2, .int .i64 x.f3.f3, .int .i64 x.f3.f4, .int .i64 x.f3.f5], [.slice A9 x.f4.f0.length c9, .slice A10 x.f4.f1.length c10, .bool x.f5, .int .i64 x.f6, .slice A13 x.f7.length c13, .int .i64 x.f8.f0, .int .i64 x.f8.f1.f0, .int .i64 x.f8.f1.f1, .int .i64 x.f8.f1.f2, .int .i64 x.f8.f1.f3, .int .i64 x.f8.f2.f0, .int .i64 x.f8.f2.f1, .int .i64 x.f8.f2.f2, .int .i64 x.f8.f2.f3, .int .i64 x.f8.f3.f0, .int .i64 x.f8.f3.f1, .int .i64 x.f8.f4.f0, .int .i64 x.f8.f4.f1, .int .i64 x.f9, .int .i64 x.f10, .slice A29 x.f11.f0.length c29, .slice A30 x.f11.f1.length c30], rfl, (k166_mk w x.f3 ), ⟨[.slice A9 x.f4.f0.length c9, .slice A10 x.f4.f1.length c10], [.bool x.f5, .int .i64 x.f6, .slice A13 x.f7.length c13, .int .i64 x.f8.f0, .int .i64 x.f8.f1.f0, .int .i64 x.f8.f1.f1, .int .i64 x.f8.f1.f2, .int .i64 x.f8.f1.f3, .int .i64 x.f8.f2.f0, .int .i64 x.f8.f2.f1, .int .i64 x.f8.f2.f2, .int .i64 x.f8.f2.f3, .int .i64 x.f8.f3.f0, .int .i64 x.f8.f3.f1, .int .i64 x.f8.f4.f0, .int .i64 x.f8.f4.f1, .int .i64 x.f9, .int .i64 x.f10, .slice A29 x.f11.f0.length c29, .slice A30 x.f11.f1.length c30], rfl, (k168_mk w x.f4 l9 g9 l10 g10), ⟨[.bool x.f5], [.int .i64 x.f6, .slice A13 x.f7.length c13, .int .i64 x.f8.f0, .int .i64 x.f8.f1.f0, .int .i64 x.f8.f1.f1, .int .i64 x.f8.f1.f2, .int .i64 x.f8.f1.f3, .int .i64 x.f8.f2.f0, .int .i64 x.f8.f2.f1, .int .i64 x.f8.f2.f2, .int .i64 x.f8.f2.f3, .int .i64 x.f8.f3.f0, .int .i64 x.f8.f3.f1, .int .i64 x.f8.f4.f0, .int .i64 x.f8.f4.f1, .int .i64 x.f9, .int .i64 x.f10, .slice A29 x.f11.f0.length c29, .slice A30 x.f11.f1.length c30], rfl, rfl, ⟨[.int .i64 x.f6], [.slice A13 x.f7.length c13, .int .i64 x.f8.f0, .int .i64 x.f8.f1.f0, .int .i64 x.f8.f1.f1, .int .i64 x.f8.f1.f2, .int .i64 x.f8.f1.f3, .int .i64 x.f8.f2.f0, .int .i64 x.f8.f2.f1, .int .i64 x.f8.f2.f2, .int .i64 x.f8.f2.f3, .int .i64 x.f8.f3.f0, .int .i64 x.f8.f3.f1, .int .i64 x.f8.f4.f0, .int .i64 x.f8.f4.f1, .int .i64 x.f9, .int .i64 x.f10, .slice A29 x.f11.f0.length c29, .slice A30 x.f11.f1.length c30], rfl, rfl, ⟨[.slice A13 x.f7.length c13], [.int .i64 x.f8.f0, .int .i64 x.f8.f1.f0, .int .i64 x.f8.f1.f1, .int .i64 x.f8.f1.f2, .int .i64 x.f8.f1.f3, .int .i64 x.f8.f2.f0, .int .i64 x.f8.f2.f1, .int .i64 x.f8.f2.f2, .int .i64 x.f8.f2.f3, .int .i64 x.f8.f3.f0, .int .i64 x.f8.f3.f1, .int .i64 x.f8.f4.f0, .int .i64 x.f8.f4.f1, .int .i64 x.f9, .int .i64 x.f10, .slice A29 x.f11.f0.length c29, .slice A30 x.f11.f1.length c30], rfl, ⟨A13, c13, rfl, l13, g13⟩, ⟨[.int .i64 x.f8.f0, .int .i64 x.f8.f1.f0, .int .i64 x.f8.f1.f1, .int .i64 x.f8.f1.f2, .int .i64 x.f8.f1.f3, .int .i64 x.f8.f2.f0, .int .i64 x.f8.f2.f1, .int .i64 x.f8.f2.f2, .int .i64 x.f8.f2.f3, .int .i64 x.f8.f3.f0, .int .i64 x.f8.f3.f1, .int .i64 x.f8.f4.f0, .int .i64 x.f8.f4.f1], [.int .i64 x.f9, .int .i64 x.f10, .slice A29 x.f11.f0.length c29, .slice A30 x.f11.f1.length c30], rfl, (k171_mk w x.f8 ), ⟨[.int .i64 x.f9], [.int .i64 x.f10, .slice A29 x.f11.f0.length c29, .slice A30 x.f11.f1.length c30], rfl, rfl, ⟨[.int .i64 x.f10], [.slice A29 x.f11.f0.length c29, .slice A30 x.f11.f1.length c30], rfl, rfl, (k168_mk w x.f11 l29 g29 l30 g30)⟩⟩⟩⟩⟩⟩⟩⟩⟩⟩⟩
theorem k173_mkM (w : World) (base : Nat) (ok : Nat → Prop) (x : S173) {v9 : Value} (g9 : (Kd.int .i64).R 3 w base ok v9 x.f4.f0) {v10 : Value} (g10 : k157.R 157 w base ok v10 x.f4.f1) {v13 : Value} (g13 : (Kd.int .i64).R 3 w base ok v13 x.f7) {v29 : Value} (g29 : (Kd.int .i64).R 3 w base ok v29 x.f11.f0) {v30 : Value} (g30 : k157.R 157 w base ok v30 x.f11.f1) : k173.M w base ok x [.int .i64 x.f0, .int .i64 x.f1, .bool x.f2, .int .i64 x.f3.f0, .int .i64 x.f3.f1, .int .i64 x.f3.f2, .int .i64 x.f3.f3, .int .i64 x.f3.f4, .int .i64 x.f3.f5, v9, v10, .bool x.f5, .int .i64 x.f6, v13, .int .i64 x.f8.f0, .int .i64 x.f8.f1.f0, .int .i64 x.f8.f1.f1, .int .i64 x.f8.f1.f2, .int .i64 x.f8.f1.f3, .int .i64 x.f8.f2.f0, .int .i64 x.f8.f2.f1, .int .i64 x.f8.f2.f2, .int .i64 x.f8.f2.f3, .int .i64 x.f8.f3.f0, .int .i64 x.f8.f3.f1, .int .i64 x.f8.f4.f0, .int .i64 x.f8.f4.f1, .int .i64 x.f9, .int .i64 x.f10, v29, v30] := ⟨[.int .i64 x.f0], [.int .i64 x.f1, .bool x.f2, .int .i64 x.f3.f0, .int .i64 x.f3.f1, .int .i64 x.f3.f2, .int .i64 x.f3.f3, .int .i64 x.f3.f4, .int .i64 x.f3.f5, v9, v10, .bool x.f5, .int .i64 x.f6, v13, .int .i64 x.f8.f0, .int .i64 x.f8.f1.f0, .int .i64 x.f8.f1.f1, .int .i64 x.f8.f1.f2, .int .i64 x.f8.f1.f3, .int .i64 x.f8.f2.f0, .int .i64 x.f8.f2.f1, .int .i64 x.f8.f2.f2, .int .i64 x.f8.f2.f3, .int .i64 x.f8.f3.f0, .int .i64 x.f8.f3.f1, .int .i64 x.f8.f4.f0, .int .i64 x.f8.f4.f1, .int .i64 x.f9, .int .i64 x.f10, v29, v30], rfl, rfl, ⟨[.int .i64 x.f1], [.bool x.f2, .int .i64 x.f3.f0, .int .i64 x.f3.f1, .int .i64 x.f3.f2, .int .i64 x.f3.f3, .int .i64 x.f3.f4, .int .i64 x.f3.f5, v9, v10, .bool x.f5, .int .i64 x.f6, v13, .int .i64 x.f8.f0, .int .i64 x.f8.f1.f0, .int .i64 x.f8.f1.f1, .int .i64 x.f8.f1.f2, .int .i64 x.f8.f1.f3, .int .i64 x.f8.f2.f0, .int .i64 x.f8.f2.f1, .int .i64 x.f8.f2.f2, .int .i64 x.f8.f2.f3, .int .i64 x.f8.f3.f0, .int .i64 x.f8.f3.f1, .int .i64 x.f8.f4.f0, .int .i64 x.f8.f4.f1, .int .i64 x.f9, .int .i64 x.f10, v29, v30], rfl, rfl, ⟨[.bool x.f2], [.int .i64 x.f3.f0, .int .i64 x.f3.f1, .int .i64 x.f3.f2, .int .i64 x.f3.f3, .int .i64 x.f3.f4, .int .i64 x.f3.f5, v9, v10, .bool x.f5, .int .i64 x.f6, v13, .int .i64 x.f8.f0, .int .i64 x.f8.f1.f0, .int .i64 x.f8.f1.f1, .int .i64 x.f8.f1.f2, .int .i64 x.f8.f1.f3, .int .i64 x.f8.f2.f0, .int .i64 x.f8.f2.f1, .int .i64 x.f8.f2.f2, .int .i64 x.f8.f2.f3, .int .i64 x.f8.f3.f0, .int .i64 x.f8.f3.f1, .int .i64 x.f8.f4.f0, .int .i64 x.f8.f4.f1, .int .i64 x.f9, .int .i64 x.f10, v29, v30], rfl, rfl, ⟨[.int .i64 x.f3.f0, .int .i64 x.f3.f1, .int .i64 x.f3.f2, .int .i64 x.f3.f3, .int .i64 x.f3.f4, .int .i64 x.f3.f5], [v9, v10, .bool x.f5, .int .i64 x.f6, v13, .int .i64 x.f8.f0, .int .i64 x.f8.f1.f0, .int .i64 x.f8.f1.f1, .int .i64 x.f8.f1.f2, .int .i64 x.f8.f1.f3, .int .i64 x.f8.f2.f0, .int .i64 x.f8.f2.f1, .int .i64 x.f8.f2.f2, .int .i64 x.f8.f2.f3, .int .i64 x.f8.f3.f0, .int .i64 x.f8.f3.f1, .int .i64 x.f8.f4.f0, .int .i64 x.f8.f4.f1, .int .i64 x.f9, .int .i64 x.f10, v29, v30], rfl, (k166_mkM w base ok x.f3 ), ⟨[v9, v10], [.bool x.f5, .int .i64 x.f6, v13, .int .i64 x.f8.f0, .int .i64 x.f8.f1.f0, .int .i64 x.f8.f1.f1, .int .i64 x.f8.f1.f2, .int .i64 x.f8.f1.f3, .int .i64 x.f8.f2.f0, .int .i64 x.f8.f2.f1, .int .i64 x.f8.f2.f2, .int .i64 x.f8.f2.f3, .int .i64 x.f8.f3.f0, .int .i64 x.f8.f3.f1, .int .i64 x.f8.f4.f0, .int .i64 x.f8.f4.f1, .int .i64 x.f9, .int .i64 x.f10, v29, v30], rfl, (k168_mkM w base ok x.f4 g9 g10), ⟨[.bool x.f5], [.int .i64 x.f6, v13, .int .i64 x.f8.f0, .int .i64 x.f8.f1.f0, .int .i64 x.f8.f1.f1, .int .i64 x.f8.f1.f2, .int .i64 x.f8.f1.f3, .int .i64 x.f8.f2.f0, .int .i64 x.f8.f2.f1, .int .i64 x.f8.f2.f2, .int .i64 x.f8.f2.f3, .int .i64 x.f8.f3.f0, .int .i64 x.f8.f3.f1, .int .i64 x.f8.f4.f0, .int .i64 x.f8.f4.f1, .int .i64 x.f9, .int .i64 x.f10, v29, v30], rfl, rfl, ⟨[.int .i64 x.f6], [v13, .int .i64 x.f8.f0, .int .i64 x.f8.f1.f0, .int .i64 x.f8.f1.f1, .int .i64 x.f8.f1.f2, .int .i64 x.f8.f1.f3, .int .i64 x.f8.f2.f0, .int .i64 x.f8.f2.f1, .int .i64 x.f8.f2.f2, .int .i64 x.f8.f2.f3, .int .i64 x.f8.f3.f0, .int .i64 x.f8.f3.f1, .int .i64 x.f8.f4.f0, .int .i64 x.f8.f4.f1, .int .i64 x.f9, .int .i64 x.f10, v29, v30], rfl, rfl, ⟨[v13], [.int .i64 x.f8.f0, .int .i64 x.f8.f1.f0, .int .i64 x.f8.f1.f1, .int .i64 x.f8.f1.f2, .int .i64 x.f8.f1.f3, .int .i64 x.f8.f2.f0, .int .i64 x.f8.f2.f1, .int .i64 x.f8.f2.f2, .int .i64 x.f8.f2.f3, .int .i64 x.f8.f3.f0, .int .i64 x.f8.f3.f1, .int .i64 x.f8.f4.f0, .int .i64 x.f8.f4.f1, .int .i64 x.f9, .int .i64 x.f10, v29, v30], rfl, ⟨v13, rfl, g13⟩, ⟨[.int .i64 x.f8.f0, .int .i64 x.f8.f1.f0, .int .i64 x.f8.f1.f1, .int .i64 x.f8.f1.f2, .int .i64 x.f8.f1.f3, .int .i64 x.f8.f2.f0, .int .i64 x.f8.f2.f1, .int .i64 x.f8.f2.f2, .int .i64 x.f8.f2.f3, .int .i64 x.f8.f3.f0, .int .i64 x.f8.f3.f1, .int .i64 x.f8.f4.f0, .int .i64 x.f8.f4.f1], [.int .i64 x.f9, .int .i64 x.f10, v29, v30], rfl, (k171_mkM w base ok x.f8 ), ⟨[.int .i64 x.f9], [.int .i64 x.f10, v29, v30], rfl, rfl, ⟨[.int .i64 x.f10], [v29, v30], rfl, rfl, (k168_mkM w base ok x.f11 g29 g30)⟩⟩⟩⟩⟩⟩⟩⟩⟩⟩⟩
def rd_T173 (xs : List S173) (i : Int) : S173 := xs.getD i.toNat z173
theorem at_T173 {w : World} {A : Option Addr} {n : Nat} {xs : List S173} (h : Kd.C k173 w A n xs) (i : Int) (h0 : 0 ≤ i) (h1 : i < n) : ∃ ad A9 c9 A10 c10 A13 c13 A29 c29 A30 c30, A = some ad ∧ w.cell? (ad.add (i.toNat * 31)) = some (.int .i64 (rd_T173 xs i).f0) ∧ w.cell? ⟨(ad.add (i.toNat * 31)).block, (ad.add (i.toNat * 31)).off + 1, none⟩ = some (.int .i64 (rd_T173 xs i).f1) ∧ w.cell? ⟨(ad.add (i.toNat * 31)).block, (ad.add (i.toNat * 31)).off + 2, none⟩ = some (.bool (rd_T173 xs i).f2) ∧ w.cell? ⟨(ad.add (i.toNat * 31)).block, (ad.add (i.toNat * 31)).off + 3, none⟩ = some (.int .i64 (rd_T173 xs i).f3.f0) ∧ w.cell? ⟨(ad.add (i.toNat * 31)).block, (ad.add (i.toNat * 31)).off + 4, none⟩ = some (.int .i64 (rd_T173 xs i).f3.f1) ∧ w.cell? ⟨(ad.add (i.toNat * 31)).block, (ad.add (i.toNat * 31)).off + 5, none⟩ = some (.int .i64 (rd_T173 xs i).f3.f2) ∧ w.cell? ⟨(ad.add (i.toNat * 31)).block, (ad.add (i.toNat * 31)).off + 6, none⟩ = some (.int .i64 (rd_T173 xs i).f3.f3) ∧ w.cell? ⟨(ad.add (i.toNat * 31)).block, (ad.add (i.toNat * 31)).off + 7, none⟩ = some (.int .i64 (rd_T173 xs i).f3.f4) ∧ w.cell? ⟨(ad.add (i.toNat * 31)).block, (ad.add (i.toNat * 31)).off + 8, none⟩ = some (.int .i64 (rd_T173 xs i).f3.f5) ∧ w.cell? ⟨(ad.add (i.toNat * 31)).block, (ad.add (i.toNat * 31)).off + 9, none⟩ = some (.slice A9 (rd_T173 xs i).f4.f0.length c9) ∧ w.cell? ⟨(ad.add (i.toNat * 31)).block, (ad.add (i.toNat * 31)).off + 10, none⟩ = some (.slice A10 (rd_T173 xs i).f4.f1.length c10) ∧ w.cell? ⟨(ad.add (i.toNat * 31)).block, (ad.add (i.toNat * 31)).off + 11, none⟩ = some (.bool (rd_T173 xs i).f5) ∧ w.cell? ⟨(ad.add (i.toNat * 31)).block, (ad.add (i.toNat * 31)).off + 12, none⟩ = some (.int .i64 (rd_T173 xs i).f6) ∧ w.cell? ⟨(ad.add (i.toNat * 31)).block, (ad.add (i.toNat * 31)).off + 13, none⟩ = some (.slice A13 (rd_T173 xs i).f7.length c13) ∧ w.cell? ⟨(ad.add (i.toNat * 31)).block, (ad.add (i.toNat * 31)).off + 14, none⟩ = some (.int .i64 (rd_T173 xs i).f8.f0) ∧ w.cell? ⟨(ad.add (i.toNat * 31)).block, (ad.add (i.toNat * 31)).off + 15, none⟩ = some (.int .i64 (rd_T173 xs i).f8.f1.f0) ∧ w.cell? ⟨(ad.add (i.toNat * 31)).block, (ad.add (i.toNat * 31)).off + 16, none⟩ = some (.int .i64 (rd_T173 xs i).f8.f1.f1) ∧ w.cell? ⟨(ad.add (i.toNat * 31)).block, (ad.add (i.toNat * 31)).off + 17, none⟩ = some (.int .i64 (rd_T173 xs i).f8.f1.f2) ∧ w.cell? ⟨(ad.add (i.toNat * 31)).block, (ad.add (i.toNat * 31)).off + 18, none⟩ = some (.int .i64 (rd_T173 xs i).f8.f1.f3) ∧ w.cell? ⟨(ad.add (i.toNat * 31)).block, (ad.add (i.toNat * 31)).off + 19, none⟩ = some (.int .i64 (rd_T173 xs i).f8.f2.f0) ∧ w.cell? ⟨(ad.add (i.toNat * 31)).block, (ad.add (i.toNat * 31)).off + 20, none⟩ = some (.int .i64 (rd_T173 xs i).f8.f2.f1) ∧ w.cell? ⟨(ad.add (i.toNat * 31)).block, (ad.add (i.toNat * 31)).off + 21, none⟩ = some (.int .i64 (rd_T173 xs i).f8.f2.f2) ∧ w.cell? ⟨(ad.add (i.toNat * 31)).block, (ad.add (i.toNat * 31)).off + 22, none⟩ = some (.int .i64 (rd_T173 xs i).f8.f2.f3) ∧ w.cell? ⟨(ad.add (i.toNat * 31)).block, (ad.add (i.toNat * 31)).off + 23, none⟩ = some (.int .i64 (rd_T173 xs i).f8.f3.f0) ∧ w.cell? ⟨(ad.add (i.toNat * 31)).block, (ad.add (i.toNat * 31)).off + 24, none⟩ = some (.int .i64 (rd_T173 xs i).f8.f3.f1) ∧ w.cell? ⟨(ad.add (i.toNat * 31)).block, (ad.add (i.toNat * 31)).off + 25, none⟩ = some (.int .i64 (rd_T173 xs i).f8.f4.f0) ∧ w.cell? ⟨(ad.add (i.toNat * 31)).block, (ad.add (i.toNat * 31)).off + 26, none⟩ = some (.int .i64 (rd_T173 xs i).f8.f4.f1) ∧ w.cell? ⟨(ad.add (i.toNat * 31)).block, (ad.add (i.toNat * 31)).off + 27, none⟩ = some (.int .i64 (rd_T173 xs i).f9) ∧ w.cell? ⟨(ad.add (i.toNat * 31)).block, (ad.add (i.toNat * 31)).off + 28, none⟩ = some (.int .i64 (rd_T173 xs i).f10) ∧ w.cell? ⟨(ad.add (i.toNat * 31)).block, (ad.add (i.toNat * 31)).off + 29, none⟩ = some (.slice A29 (rd_T173 xs i).f11.f0.length c29) ∧ w.cell? ⟨(ad.add (i.toNat * 31)).block, (ad.add (i.toNat * 31)).off + 30, none⟩ = some (.slice A30 (rd_T173 xs i).f11.f1.length c30) ∧ (rd_T173 xs i).f4.f0.length ≤ c9 ∧ (Kd.int .i64).C w A9 (rd_T173 xs i).f4.f0.length (rd_T173 xs i).f4.f0 ∧ (rd_T173 xs i).f4.f1.length ≤ c10 ∧ k157.C w A10 (rd_T173 xs i).f4.f1.length (rd_T173 xs i).f4.f1 ∧ (rd_T173 xs i).f7.length ≤ c13 ∧ (Kd.int .i64).C w A13 (rd_T173 xs i).f7.length (rd_T173 xs i).f7 ∧ (rd_T173 xs i).f11.f0.length ≤ c29 ∧ (Kd.int .i64).C w A29 (rd_T173 xs i).f11.f0.length (rd_T173 xs i).f11.f0 ∧ (rd_T173 xs i).f11.f1.length ≤ c30 ∧ k157.C w A30 (rd_T173 xs i).f11.f1.length (rd_T173 xs i).f11.f1 := by
 obtain ⟨ad, c, e, _, hK, hc0⟩ := Kd.C_get h z173 i h0 h1
 have hc : ∀ j u, c[j]? = some u → w.cell? (ad.add (i.toNat * 31 + j)) = some u := hc0
 obtain ⟨A9, c9, A10, c10, A13, c13, A29, c29, A30, c30, rfl, l9, g9, l10, g10, l13, g13, l29, g29, l30, g30⟩ := k173_open hK
 exact ⟨ad, A9, c9, A10, c10, A13, c13, A29, c29, A30, c30, e, hc 0 _ rfl, by rw [← add_field _ _ 1 (by omega)]; exact hc 1 _ rfl, by rw [← add_field _ _ 2 (by omega)]; exact hc 2 _ rfl, by rw [← add_field _ _ 3 (by omega)]; exact hc 3 _ rfl, by rw [← add_field _ _ 4 (by omega)]; exact hc 4 _ rfl, by rw [← add_field _ _ 5 (by omega)]; exact hc 5 _ rfl, by rw [← add_field _ _ 6 (by omega)]; exact hc 6 _ rfl, by rw [← add_field _ _ 7 (by omega)]; exact hc 7 _ rfl, by rw [← add_field _ _ 8 (by omega)]; exact hc 8 _ rfl, by rw [← add_field _ _ 9 (by omega)]; exact hc 9 _ rfl, by rw [← add_field _ _ 10 (by omega)]; exact hc 10 _ rfl, by rw [← add_field _ _ 11 (by omega)]; exact hc 11 _ rfl, by rw [← add_field _ _ 12 (by omega)]; exact hc 12 _ rfl, by rw [← add_field _ _ 13 (by omega)]; exact hc 13 _ rfl, by rw [← add_field _ _ 14 (by omega)]; exact hc 14 _ rfl, by rw [← add_field _ _ 15 (by omega)]; exact hc 15 _ rfl, by rw [← add_field _ _ 16 (by omega)]; exact hc 16 _ rfl, by rw [← add_field _ _ 17 (by omega)]; exact hc 17 _ rfl, by rw [← add_field _ _ 18 (by omega)]; exact hc 18 _ rfl, by rw [← add_field _ _ 19 (by omega)]; exact hc 19 _ rfl, by rw [← add_field _ _ 20 (by omega)]; exact hc 20 _ rfl, by rw [← add_field _ _ 21 (by omega)]; exact hc 21 _ rfl, by rw [← add_field _ _ 22 (by omega)]; exact hc 22 _ rfl, by rw [← add_field _ _ 23 (by omega)]; exact hc 23 _ rfl, by rw [← add_field _ _ 24 (by omega)]; exact hc 24 _ rfl, by rw [← add_field _ _ 25 (by omega)]; exact hc 25 _ rfl, by rw [← add_field _ _ 26 (by omega)]; exact hc 26 _ rfl, by rw [← add_field _ _ 27 (by omega)]; exact hc 27 _ rfl, by rw [← add_field _ _ 28 (by omega)]; exact hc 28 _ rfl, by rw [← add_field _ _ 29 (by omega)]; exact hc 29 _ rfl, by rw [← add_field _ _ 30 (by omega)]; exact hc 30 _ rfl, l9, g9, l10, g10, l13, g13, l29, g29, l30, g30⟩

/-! #### struct type 90 -/
structure S90 where
 f0 : Int
 f1 : Int
 f2 : Int
 f3 : Int
 f4 : Int
 f5 : Int
def z90 : S90 := ⟨(0 : Int), (0 : Int), (0 : Int), (0 : Int), (0 : Int), (0 : Int)⟩
def k90 : Kd S90 := Kd.iso (Kd.pair (Kd.int .i64) (Kd.pair (Kd.int .i64) (Kd.pair (Kd.int .i64) (Kd.pair (Kd.int .i64) (Kd.pair (Kd.int .i64) (Kd.int .i64)))))) (fun x : S90 => (x.f0, x.f1, x.f2, x.f3, x.f4, x.f5))
theorem k90_open {w : World} {x : S90} {cs : List Value} (h : k90.K w x cs) : cs = [.int .i64 x.f0, .int .i64 x.f1, .int .i64 x.f2, .int .i64 x.f3, .int .i64 x.f4, .int .i64 x.f5] := by
 obtain ⟨_, _, rfl, rfl, ⟨_, _, rfl, rfl, ⟨_, _, rfl, rfl, ⟨_, _, rfl, rfl, ⟨_, _, rfl, rfl, rfl⟩⟩⟩⟩⟩ := h
 exact rfl
theorem k90_openM {w : World} {base : Nat} {ok : Nat → Prop} {x : S90} {cs : List Value} (h : k90.M w base ok x cs) : cs = [.int .i64 x.f0, .int .i64 x.f1, .int .i64 x.f2, .int .i64 x.f3, .int .i64 x.f4, .int .i64 x.f5] := by
 obtain ⟨_, _, rfl, rfl, ⟨_, _, rfl, rfl, ⟨_, _, rfl, rfl, ⟨_, _, rfl, rfl, ⟨_, _, rfl, rfl, rfl⟩⟩⟩⟩⟩ := h
 exact rfl
theorem k90_mk (w : World) (x : S90)  : k90.K w x [.int .i64 x.f0, .int .i64 x.f1, .int .i64 x.f2, .int .i64 x.f3, .int .i64 x.f4, .int .i64 x.f5] := ⟨[.int .i64 x.f0], [.int .i64 x.f1, .int .i64 x.f2, .int .i64 x.f3, .int .i64 x.f4, .int .i64 x.f5], rfl, rfl, ⟨[.int .i64 x.f1], [.int .i64 x.f2, .int .i64 x.f3, .int .i64 x.f4, .int .i64 x.f5], rfl, rfl, ⟨[.int .i64 x.f2], [.int .i64 x.f3, .int .i64 x.f4, .int .i64 x.f5], rfl, rfl, ⟨[.int .i64 x.f3], [.int .i64 x.f4, .int .i64 x.f5], rfl, rfl, ⟨[.int .i64 x.f4], [.int .i64 x.f5], rfl, rfl, rfl⟩⟩⟩⟩⟩
theorem k90_mkM (w : World) (base : Nat) (ok : Nat → Prop) (x : S90)  : k90.M w base ok x [.int .i64 x.f0, .int .i64 x.f1, .int .i64 x.f2, .int .i64 x.f3, .int .i64 x.f4, .int .i64 x.f5] := ⟨[.int .i64 x.f0], [.int .i64 x.f1, .int .i64 x.f2, .int .i64 x.f3, .int .i64 x.f4, .int .i64 x.f5], rfl, rfl, ⟨[.int .i64 x.f1], [.int .i64 x.f2, .int .i64 x.f3, .int .i64 x.f4, .int .i64 x.f5], rfl, rfl, ⟨[.int .i64 x.f2], [.int .i64 x.f3, .int .i64 x.f4, .int .i64 x.f5], rfl, rfl, ⟨[.int .i64 x.f3], [.int .i64 x.f4, .int .i64 x.f5], rfl, rfl, ⟨[.int .i64 x.f4], [.int .i64 x.f5], rfl, rfl, rfl⟩⟩⟩⟩⟩
def rd_T90 (xs : List S90) (i : Int) : S90 := xs.getD i.toNat z90
theorem at_T90 {w : World} {A : Option Addr} {n : Nat} {xs : List S90} (h : Kd.C k90 w A n xs) (i : Int) (h0 : 0 ≤ i) (h1 : i < n) : ∃ ad , A = some ad ∧ w.cell? (ad.add (i.toNat * 6)) = some (.int .i64 (rd_T90 xs i).f0) ∧ w.cell? ⟨(ad.add (i.toNat * 6)).block, (ad.add (i.toNat * 6)).off + 1, none⟩ = some (.int .i64 (rd_T90 xs i).f1) ∧ w.cell? ⟨(ad.add (i.toNat * 6)).block, (ad.add (i.toNat * 6)).off + 2, none⟩ = some (.int .i64 (rd_T90 xs i).f2) ∧ w.cell? ⟨(ad.add (i.toNat * 6)).block, (ad.add (i.toNat * 6)).off + 3, none⟩ = some (.int .i64 (rd_T90 xs i).f3) ∧ w.cell? ⟨(ad.add (i.toNat * 6)).block, (ad.add (i.toNat * 6)).off + 4, none⟩ = some (.int .i64 (rd_T90 xs i).f4) ∧ w.cell? ⟨(ad.add (i.toNat * 6)).block, (ad.add (i.toNat * 6)).off + 5, none⟩ = some (.int .i64 (rd_T90 xs i).f5) := by
 obtain ⟨ad, c, e, _, hK, hc0⟩ := Kd.C_get h z90 i h0 h1
 have hc : ∀ j u, c[j]? = some u → w.cell? (ad.add (i.toNat * 6 + j)) = some u := hc0
 obtain rfl := k90_open hK
 exact ⟨ad, e, hc 0 _ rfl, by rw [← add_field _ _ 1 (by omega)]; exact hc 1 _ rfl, by rw [← add_field _ _ 2 (by omega)]; exact hc 2 _ rfl, by rw [← add_field _ _ 3 (by omega)]; exact hc 3 _ rfl, by rw [← add_field _ _ 4 (by omega)]; exact hc 4 _ rfl, by rw [← add_field _ _ 5 (by omega)]; exact hc 5 _ rfl⟩

/-! #### struct type 32 -/
structure S32 where
 f0 : Int
 f1 : Int
def z32 : S32 := ⟨(0 : Int), (0 : Int)⟩
def k32 : Kd S32 := Kd.iso (Kd.pair (Kd.int .i64) (Kd.int .i64)) (fun x : S32 => (x.f0, x.f1))
theorem k32_open {w : World} {x : S32} {cs : List Value} (h : k32.K w x cs) : cs = [.int .i64 x.f0, .int .i64 x.f1] := by
 obtain ⟨_, _, rfl, rfl, rfl⟩ := h
 exact rfl
theorem k32_openM {w : World} {base : Nat} {ok : Nat → Prop} {x : S32} {cs : List Value} (h : k32.M w base ok x cs) : cs = [.int .i64 x.f0, .int .i64 x.f1] := by
 obtain ⟨_, _, rfl, rfl, rfl⟩ := h
 exact rfl
theorem k32_mk (w : World) (x : S32)  : k32.K w x [.int .i64 x.f0, .int .i64 x.f1] := ⟨[.int .i64 x.f0], [.int .i64 x.f1], rfl, rfl, rfl⟩
theorem k32_mkM (w : World) (base : Nat) (ok : Nat → Prop) (x : S32)  : k32.M w base ok x [.int .i64 x.f0, .int .i64 x.f1] := ⟨[.int .i64 x.f0], [.int .i64 x.f1], rfl, rfl, rfl⟩
def rd_T32 (xs : List S32) (i : Int) : S32 := xs.getD i.toNat z32
theorem at_T32 {w : World} {A : Option Addr} {n : Nat} {xs : List S32} (h : Kd.C k32 w A n xs) (i : Int) (h0 : 0 ≤ i) (h1 : i < n) : ∃ ad , A = some ad ∧ w.cell? (ad.add (i.toNat * 2)) = some (.int .i64 (rd_T32 xs i).f0) ∧ w.cell? ⟨(ad.add (i.toNat * 2)).block, (ad.add (i.toNat * 2)).off + 1, none⟩ = some (.int .i64 (rd_T32 xs i).f1) := by
 obtain ⟨ad, c, e, _, hK, hc0⟩ := Kd.C_get h z32 i h0 h1
 have hc : ∀ j u, c[j]? = some u → w.cell? (ad.add (i.toNat * 2 + j)) = some u := hc0
 obtain rfl := k32_open hK
 exact ⟨ad, e, hc 0 _ rfl, by rw [← add_field _ _ 1 (by omega)]; exact hc 1 _ rfl⟩

def rd_L12 (xs : List (List S32)) (i : Int) : (List S32) := xs.getD i.toNat ([] : List S32)
theorem at_L12 {w : World} {A : Option Addr} {n : Nat} {xs : List (List S32)} (h : Kd.C (Kd.slice 32 k32) w A n xs) (i : Int) (h0 : 0 ≤ i) (h1 : i < n) : ∃ ad A0 c0, A = some ad ∧ w.cell? (ad.add i.toNat) = some (.slice A0 (rd_L12 xs i).length c0) ∧ (rd_L12 xs i).length ≤ c0 ∧ k32.C w A0 (rd_L12 xs i).length (rd_L12 xs i) := by
 obtain ⟨ad, c, e, _, hK, hc0⟩ := Kd.C_get h ([] : List S32) i h0 h1
 have hc : ∀ j u, c[j]? = some u → w.cell? (ad.add (i.toNat * 1 + j)) = some u := hc0
 obtain ⟨A0, c0, rfl, l0, g0⟩ := hK
 exact ⟨ad, A0, c0, e, by have hq := hc 0 _ rfl; rwa [Nat.mul_one, Nat.add_zero] at hq, l0, g0⟩

/-! #### struct type 41 -/
structure S41 where
 f0 : (List Int)
 f1 : (List S32)
def z41 : S41 := ⟨([] : List Int), ([] : List S32)⟩
def k41 : Kd S41 := Kd.iso (Kd.pair (Kd.slice 3 (Kd.int .i64)) (Kd.slice 32 k32)) (fun x : S41 => (x.f0, x.f1))
theorem k41_open {w : World} {x : S41} {cs : List Value} (h : k41.K w x cs) : ∃ A0 c0 A1 c1, cs = [.slice A0 x.f0.length c0, .slice A1 x.f1.length c1] ∧ x.f0.length ≤ c0 ∧ (Kd.int .i64).C w A0 x.f0.length x.f0 ∧ x.f1.length ≤ c1 ∧ k32.C w A1 x.f1.length x.f1 := by
 obtain ⟨_, _, rfl, ⟨A0, c0, rfl, l0, g0⟩, ⟨A1, c1, rfl, l1, g1⟩⟩ := h
 exact ⟨A0, c0, A1, c1, rfl, l0, g0, l1, g1⟩
theorem k41_openM {w : World} {base : Nat} {ok : Nat → Prop} {x : S41} {cs : List Value} (h : k41.M w base ok x cs) : ∃ v0 v1, cs = [v0, v1] ∧ (Kd.int .i64).R 3 w base ok v0 x.f0 ∧ k32.R 32 w base ok v1 x.f1 := by
 obtain ⟨_, _, rfl, ⟨v0, rfl, g0⟩, ⟨v1, rfl, g1⟩⟩ := h
 exact ⟨v0, v1, rfl, g0, g1⟩
theorem k41_mk (w : World) (x : S41) {A0 : Option Addr} {c0 : Nat} (l0 : x.f0.length ≤ c0) (g0 : (Kd.int .i64).C w A0 x.f0.length x.f0) {A1 : Option Addr} {c1 : Nat} (l1 : x.f1.length ≤ c1) (g1 : k32.C w A1 x.f1.length x.f1) : k41.K w x [.slice A0 x.f0.length c0, .slice A1 x.f1.length c1] := ⟨[.slice A0 x.f0.length c0], [.slice A1 x.f1.length c1], rfl, ⟨A0, c0, rfl, l0, g0⟩, ⟨A1, c1, rfl, l1, g1⟩⟩
theorem k41_mkM (w : World) (base : Nat) (ok : Nat → Prop) (x : S41) {v0 : Value} (g0 : (Kd.int .i64).R 3 w base ok v0 x.f0) {v1 : Value} (g1 : k32.R 32 w base ok v1 x.f1) : k41.M w base ok x [v0, v1] := ⟨[v0], [v1], rfl, ⟨v0, rfl, g0⟩, ⟨v1, rfl, g1⟩⟩
def rd_T41 (xs : List S41) (i : Int) : S41 := xs.getD i.toNat z41
theorem at_T41 {w : World} {A : Option Addr} {n : Nat} {xs : List S41} (h : Kd.C k41 w A n xs) (i : Int) (h0 : 0 ≤ i) (h1 : i < n) : ∃ ad A0 c0 A1 c1, A = some ad ∧ w.cell? (ad.add (i.toNat * 2)) = some (.slice A0 (rd_T41 xs i).f0.length c0) ∧ w.cell? ⟨(ad.add (i.toNat * 2)).block, (ad.add (i.toNat * 2)).off + 1, none⟩ = some (.slice A1 (rd_T41 xs i).f1.length c1) ∧ (rd_T41 xs i).f0.length ≤ c0 ∧ (Kd.int .i64).C w A0 (rd_T41 xs i).f0.length (rd_T41 xs i).f0 ∧ (rd_T41 xs i).f1.length ≤ c1 ∧ k32.C w A1 (rd_T41 xs i).f1.length (rd_T41 xs i).f1 := by
 obtain ⟨ad, c, e, _, hK, hc0⟩ := Kd.C_get h z41 i h0 h1
 have hc : ∀ j u, c[j]? = some u → w.cell? (ad.add (i.toNat * 2 + j)) = some u := hc0
 obtain ⟨A0, c0, A1, c1, rfl, l0, g0, l1, g1⟩ := k41_open hK
 exact ⟨ad, A0, c0, A1, c1, e, hc 0 _ rfl, by rw [← add_field _ _ 1 (by omega)]; exact hc 1 _ rfl, l0, g0, l1, g1⟩

/-! #### struct type 92 -/
structure S92 where
 f0 : Int
 f1 : Int
 f2 : Int
 f3 : Int
def z92 : S92 := ⟨(0 : Int), (0 : Int), (0 : Int), (0 : Int)⟩
def k92 : Kd S92 := Kd.iso (Kd.pair (Kd.int .i64) (Kd.pair (Kd.int .i64) (Kd.pair (Kd.int .i64) (Kd.int .i64)))) (fun x : S92 => (x.f0, x.f1, x.f2, x.f3))
theorem k92_open {w : World} {x : S92} {cs : List Value} (h : k92.K w x cs) : cs = [.int .i64 x.f0, .int .i64 x.f1, .int .i64 x.f2, .int .i64 x.f3] := by
 obtain ⟨_, _, rfl, rfl, ⟨_, _, rfl, rfl, ⟨_, _, rfl, rfl, rfl⟩⟩⟩ := h
 exact rfl
theorem k92_openM {w : World} {base : Nat} {ok : Nat → Prop} {x : S92} {cs : List Value} (h : k92.M w base ok x cs) : cs = [.int .i64 x.f0, .int .i64 x.f1, .int .i64 x.f2, .int .i64 x.f3] := by
 obtain ⟨_, _, rfl, rfl, ⟨_, _, rfl, rfl, ⟨_, _, rfl, rfl, rfl⟩⟩⟩ := h
 exact rfl
theorem k92_mk (w : World) (x : S92)  : k92.K w x [.int .i64 x.f0, .int .i64 x.f1, .int .i64 x.f2, .int .i64 x.f3] := ⟨[.int .i64 x.f0], [.int .i64 x.f1, .int .i64 x.f2, .int .i64 x.f3], rfl, rfl, ⟨[.int .i64 x.f1], [.int .i64 x.f2, .int .i64 x.f3], rfl, rfl, ⟨[.int .i64 x.f2], [.int .i64 x.f3], rfl, rfl, rfl⟩⟩⟩
theorem k92_mkM (w : World) (base : Nat) (ok : Nat → Prop) (x : S92)  : k92.M w base ok x [.int .i64 x.f0, .int .i64 x.f1, .int .i64 x.f2, .int .i64 x.f3] := ⟨[.int .i64 x.f0], [.int .i64 x.f1, .int .i64 x.f2, .int .i64 x.f3], rfl, rfl, ⟨[.int .i64 x.f1], [.int .i64 x.f2, .int .i64 x.f3], rfl, rfl, ⟨[.int .i64 x.f2], [.int .i64 x.f3], rfl, rfl, rfl⟩⟩⟩
def rd_T92 (xs : List S92) (i : Int) : S92 := xs.getD i.toNat z92
theorem at_T92 {w : World} {A : Option Addr} {n : Nat} {xs : List S92} (h : Kd.C k92 w A n xs) (i : Int) (h0 : 0 ≤ i) (h1 : i < n) : ∃ ad , A = some ad ∧ w.cell? (ad.add (i.toNat * 4)) = some (.int .i64 (rd_T92 xs i).f0) ∧ w.cell? ⟨(ad.add (i.toNat * 4)).block, (ad.add (i.toNat * 4)).off + 1, none⟩ = some (.int .i64 (rd_T92 xs i).f1) ∧ w.cell? ⟨(ad.add (i.toNat * 4)).block, (ad.add (i.toNat * 4)).off + 2, none⟩ = some (.int .i64 (rd_T92 xs i).f2) ∧ w.cell? ⟨(ad.add (i.toNat * 4)).block, (ad.add (i.toNat * 4)).off + 3, none⟩ = some (.int .i64 (rd_T92 xs i).f3) := by
 obtain ⟨ad, c, e, _, hK, hc0⟩ := Kd.C_get h z92 i h0 h1
 have hc : ∀ j u, c[j]? = some u → w.cell? (ad.add (i.toNat * 4 + j)) = some u := hc0
 obtain rfl := k92_open hK
 exact ⟨ad, e, hc 0 _ rfl, by rw [← add_field _ _ 1 (by omega)]; exact hc 1 _ rfl, by rw [← add_field _ _ 2 (by omega)]; exact hc 2 _ rfl, by rw [← add_field _ _ 3 (by omega)]; exact hc 3 _ rfl⟩

/-! #### struct type 94 -/
structure S94 where
 f0 : Int
 f1 : S92
 f2 : S92
 f3 : S32
 f4 : S32
def z94 : S94 := ⟨(0 : Int), z92, z92, z32, z32⟩
def k94 : Kd S94 := Kd.iso (Kd.pair (Kd.int .i64) (Kd.pair k92 (Kd.pair k92 (Kd.pair k32 k32)))) (fun x : S94 => (x.f0, x.f1, x.f2, x.f3, x.f4))
theorem k94_open {w : World} {x : S94} {cs : List Value} (h : k94.K w x cs) : cs = [.int .i64 x.f0, .int .i64 x.f1.f0, .int .i64 x.f1.f1, .int .i64 x.f1.f2, .int .i64 x.f1.f3, .int .i64 x.f2.f0, .int .i64 x.f2.f1, .int .i64 x.f2.f2, .int .i64 x.f2.f3, .int .i64 x.f3.f0, .int .i64 x.f3.f1, .int .i64 x.f4.f0, .int .i64 x.f4.f1] := by
 obtain ⟨_, _, rfl, rfl, ⟨_, _, rfl, s1, ⟨_, _, rfl, s5, ⟨_, _, rfl, s9, s11⟩⟩⟩⟩ := h
 obtain rfl := k92_open s1
 obtain rfl := k92_open s5
 obtain rfl := k32_open s9
 obtain rfl := k32_open s11
 exact rfl
theorem k94_openM {w : World} {base : Nat} {ok : Nat → Prop} {x : S94} {cs : List Value} (h : k94.M w base ok x cs) : cs = [.int .i64 x.f0, .int .i64 x.f1.f0, .int .i64 x.f1.f1, .int .i64 x.f1.f2, .int .i64 x.f1.f3, .int .i64 x.f2.f0, .int .i64 x.f2.f1, .int .i64 x.f2.f2, .int .i64 x.f2.f3, .int .i64 x.f3.f0, .int .i64 x.f3.f1, .int .i64 x.f4.f0, .int .i64 x.f4.f1] := by
 obtain ⟨_, _, rfl, rfl, ⟨_, _, rfl, s1, ⟨_, _, rfl, s5, ⟨_, _, rfl, s9, s11⟩⟩⟩⟩ := h
 obtain rfl := k92_openM s1
 obtain rfl := k92_openM s5
 obtain rfl := k32_openM s9
 obtain rfl := k32_openM s11
 exact rfl
theorem k94_mk (w : World) (x : S94)  : k94.K w x [.int .i64 x.f0, .int .i64 x.f1.f0, .int .i64 x.f1.f1, .int .i64 x.f1.f2, .int .i64 x.f1.f3, .int .i64 x.f2.f0, .int .i64 x.f2.f1, .int .i64 x.f2.f2, .int .i64 x.f2.f3, .int .i64 x.f3.f0, .int .i64 x.f3.f1, .int .i64 x.f4.f0, .int .i64 x.f4.f1] := ⟨[.int .i64 x.f0], [.int .i64 x.f1.f0, .int .i64 x.f1.f1, .int .i64 x.f1.f2, .int .i64 x.f1.f3, .int .i64 x.f2.f0, .int .i64 x.f2.f1, .int .i64 x.f2.f2, .int .i64 x.f2.f3, .int .i64 x.f3.f0, .int .i64 x.f3.f1, .int .i64 x.f4.f0, .int .i64 x.f4.f1], rfl, rfl, ⟨[.int .i64 x.f1.f0, .int .i64 x.f1.f1, .int .i64 x.f1.f2, .int .i64 x.f1.f3], [.int .i64 x.f2.f0, .int .i64 x.f2.f1, .int .i64 x.f2.f2, .int .i64 x.f2.f3, .int .i64 x.f3.f0, .int .i64 x.f3.f1, .int .i64 x.f4.f0, .int .i64 x.f4.f1], rfl, (k92_mk w x.f1 ), ⟨[.int .i64 x.f2.f0, .int .i64 x.f2.f1, .int .i64 x.f2.f2, .int .i64 x.f2.f3], [.int .i64 x.f3.f0, .int .i64 x.f3.f1, .int .i64 x.f4.f0, .int .i64 x.f4.f1], rfl, (k92_mk w x.f2 ), ⟨[.int .i64 x.f3.f0, .int .i64 x.f3.f1], [.int .i64 x.f4.f0, .int .i64 x.f4.f1], rfl, (k32_mk w x.f3 ), (k32_mk w x.f4 )⟩⟩⟩⟩
theorem k94_mkM (w : World) (base : Nat) (ok : Nat → Prop) (x : S94)  : k94.M w base ok x [.int .i64 x.f0, .int .i64 x.f1.f0, .int .i64 x.f1.f1, .int .i64 x.f1.f2, .int .i64 x.f1.f3, .int .i64 x.f2.f0, .int .i64 x.f2.f1, .int .i64 x.f2.f2, .int .i64 x.f2.f3, .int .i64 x.f3.f0, .int .i64 x.f3.f1, .int .i64 x.f4.f0, .int .i64 x.f4.f1] := ⟨[.int .i64 x.f0], [.int .i64 x.f1.f0, .int .i64 x.f1.f1, .int .i64 x.f1.f2, .int .i64 x.f1.f3, .int .i64 x.f2.f0, .int .i64 x.f2.f1, .int .i64 x.f2.f2, .int .i64 x.f2.f3, .int .i64 x.f3.f0, .int .i64 x.f3.f1, .int .i64 x.f4.f0, .int .i64 x.f4.f1], rfl, rfl, ⟨[.int .i64 x.f1.f0, .int .i64 x.f1.f1, .int .i64 x.f1.f2, .int .i64 x.f1.f3], [.int .i64 x.f2.f0, .int .i64 x.f2.f1, .int .i64 x.f2.f2, .int .i64 x.f2.f3, .int .i64 x.f3.f0, .int .i64 x.f3.f1, .int .i64 x.f4.f0, .int .i64 x.f4.f1], rfl, (k92_mkM w base ok x.f1 ), ⟨[.int .i64 x.f2.f0, .int .i64 x.f2.f1, .int .i64 x.f2.f2, .int .i64 x.f2.f3], [.int .i64 x.f3.f0, .int .i64 x.f3.f1, .int .i64 x.f4.f0, .int .i64 x.f4.f1], rfl, (k92_mkM w base ok x.f2 ), ⟨[.int .i64 x.f3.f0, .int .i64 x.f3.f1], [.int .i64 x.f4.f0, .int .i64 x.f4.f1], rfl, (k32_mkM w base ok x.f3 ), (k32_mkM w base ok x.f4 )⟩⟩⟩⟩
def rd_T94 (xs : List S94) (i : Int) : S94 := xs.getD i.toNat z94
theorem at_T94 {w : World} {A : Option Addr} {n : Nat} {xs : List S94} (h : Kd.C k94 w A n xs) (i : Int) (h0 : 0 ≤ i) (h1 : i < n) : ∃ ad , A = some ad ∧ w.cell? (ad.add (i.toNat * 13)) = some (.int .i64 (rd_T94 xs i).f0) ∧ w.cell? ⟨(ad.add (i.toNat * 13)).block, (ad.add (i.toNat * 13)).off + 1, none⟩ = some (.int .i64 (rd_T94 xs i).f1.f0) ∧ w.cell? ⟨(ad.add (i.toNat * 13)).block, (ad.add (i.toNat * 13)).off + 2, none⟩ = some (.int .i64 (rd_T94 xs i).f1.f1) ∧ w.cell? ⟨(ad.add (i.toNat * 13)).block, (ad.add (i.toNat * 13)).off + 3, none⟩ = some (.int .i64 (rd_T94 xs i).f1.f2) ∧ w.cell? ⟨(ad.add (i.toNat * 13)).block, (ad.add (i.toNat * 13)).off + 4, none⟩ = some (.int .i64 (rd_T94 xs i).f1.f3) ∧ w.cell? ⟨(ad.add (i.toNat * 13)).block, (ad.add (i.toNat * 13)).off + 5, none⟩ = some (.int .i64 (rd_T94 xs i).f2.f0) ∧ w.cell? ⟨(ad.add (i.toNat * 13)).block, (ad.add (i.toNat * 13)).off + 6, none⟩ = some (.int .i64 (rd_T94 xs i).f2.f1) ∧ w.cell? ⟨(ad.add (i.toNat * 13)).block, (ad.add (i.toNat * 13)).off + 7, none⟩ = some (.int .i64 (rd_T94 xs i).f2.f2) ∧ w.cell? ⟨(ad.add (i.toNat * 13)).block, (ad.add (i.toNat * 13)).off + 8, none⟩ = some (.int .i64 (rd_T94 xs i).f2.f3) ∧ w.cell? ⟨(ad.add (i.toNat * 13)).block, (ad.add (i.toNat * 13)).off + 9, none⟩ = some (.int .i64 (rd_T94 xs i).f3.f0) ∧ w.cell? ⟨(ad.add (i.toNat * 13)).block, (ad.add (i.toNat * 13)).off + 10, none⟩ = some (.int .i64 (rd_T94 xs i).f3.f1) ∧ w.cell? ⟨(ad.add (i.toNat * 13)).block, (ad.add (i.toNat * 13)).off + 11, none⟩ = some (.int .i64 (rd_T94 xs i).f4.f0) ∧ w.cell? ⟨(ad.add (i.toNat * 13)).block, (ad.add (i.toNat * 13)).off + 12, none⟩ = some (.int .i64 (rd_T94 xs i).f4.f1) := by
 obtain ⟨ad, c, e, _, hK, hc0⟩ := Kd.C_get h z94 i h0 h1
 have hc : ∀ j u, c[j]? = some u → w.cell? (ad.add (i.toNat * 13 + j)) = some u := hc0
 obtain rfl := k94_open hK
 exact ⟨ad, e, hc 0 _ rfl, by rw [← add_field _ _ 1 (by omega)]; exact hc 1 _ rfl, by rw [← add_field _ _ 2 (by omega)]; exact hc 2 _ rfl, by rw [← add_field _ _ 3 (by omega)]; exact hc 3 _ rfl, by rw [← add_field _ _ 4 (by omega)]; exact hc 4 _ rfl, by rw [← add_field _ _ 5 (by omega)]; exact hc 5 _ rfl, by rw [← add_field _ _ 6 (by omega)]; exact hc 6 _ rfl, by rw [← add_field _ _ 7 (by omega)]; exact hc 7 _ rfl, by rw [← add_field _ _ 8 (by omega)]; exact hc 8 _ rfl, by rw [← add_field _ _ 9 (by omega)]; exact hc 9 _ rfl, by rw [← add_field _ _ 10 (by omega)]; exact hc 10 _ rfl, by rw [← add_field _ _ 11 (by omega)]; exact hc 11 _ rfl, by rw [← add_field _ _ 12 (by omega)]; exact hc 12 _ rfl⟩

/-! #### struct type 96 -/
structure S96 where
 f0 : Int
 f1 : Int
 f2 : Bool
 f3 : S90
 f4 : S41
 f5 : Bool
 f6 : Int
 f7 : (List Int)
 f8 : S94
 f9 : Int
 f10 : Int
 f11 : S41
def z96 : S96 := ⟨(0 : Int), (0 : Int), false, z90, z41, false, (0 : Int), ([] : List Int), z94, (0 : Int), (0 : Int), z41⟩
def k96 : Kd S96 := Kd.iso (Kd.pair (Kd.int .i64) (Kd.pair (Kd.int .i64) (Kd.pair Kd.bool (Kd.pair k90 (Kd.pair k41 (Kd.pair Kd.bool (Kd.pair (Kd.int .i64) (Kd.pair (Kd.slice 3 (Kd.int .i64)) (Kd.pair k94 (Kd.pair (Kd.int .i64) (Kd.pair (Kd.int .i64) k41))))))))))) (fun x : S96 => (x.f0, x.f1, x.f2, x.f3, x.f4, x.f5, x.f6, x.f7, x.f8, x.f9, x.f10, x.f11))
theorem k96_open {w : World} {x : S96} {cs : List Value} (h : k96.K w x cs) : ∃ A9 c9 A10 c10 A13 c13 A29 c29 A30 c30, cs = [.int .i64 x.f0, .int .i64 x.f1, .bool x.f2, .int .i64 x.f3.f0, .int .i64 x.f3.f1, .int .i64 x.f3.f2, .int .i64 x.f3.f3, .int .i64 x.f3.f4, .int .i64 x.f3.f5, .slice A9 x.f4.f0.length c9, .slice A10 x.f4.f1.length c10, .bool x.f5, .int .i64 x.f6, .slice A13 x.f7.length c13, .int .i64 x.f8.f0, .int .i64 x.f8.f1.f0, .int .i64 x.f8.f1.f1, .int .i64 x.f8.f1.f2, .int .i64 x.f8.f1.f3, .int .i64 x.f8.f2.f0, .int .i64 x.f8.f2.f1, .int .i64 x.f8.f2.f2, .int .i64 x.f8.f2.f3, .int .i64 x.f8.f3.f0, .int .i64 x.f8.f3.f1, .int .i64 x.f8.f4.f0, .int .i64 x.f8.f4.f1, .int .i64 x.f9, .int .i64 x.f10, .slice A29 x.f11.f0.length c29, .slice A30 x.f11.f1.length c30] ∧ x.f4.f0.length ≤ c9 ∧ (Kd.int .i64).C w A9 x.f4.f0.length x.f4.f0 ∧ x.f4.f1.length ≤ c10 ∧ k32.C w A10 x.f4.f1.length x.f4.f1 ∧ x.f7.length ≤ c13 ∧ (Kd.int .i64).C w A13 x.f7.length x.f7 ∧ x.f11.f0.length ≤ c29 ∧ (Kd.int .i64).C w A29 x.f11.f0.length x.f11.f0 ∧ x.f11.f1.length ≤ c30 ∧ k32.C w A30 x.f11.f1.length x.f11.f1 := by
 obtain ⟨_, _, rfl, rfl, ⟨_, _, rfl, rfl, ⟨_, _, rfl, rfl, ⟨_, _, rfl, s3, ⟨_, _, rfl, s9, ⟨_, _, rfl, rfl, ⟨_, _, rfl, rfl, ⟨_, _, rfl, ⟨A13, c13, rfl, l13, g13⟩, ⟨_, _, rfl, s14, ⟨_, _, rfl, rfl, ⟨_, _, rfl, rfl, s29⟩⟩⟩⟩⟩⟩⟩⟩⟩⟩⟩ := h
 obtain rfl := k90_open s3
 obtain ⟨A9, c9, A10, c10, rfl, l9, g9, l10, g10⟩ := k41_open s9
 obtain rfl := k94_open s14
 obtain ⟨A29, c29, A30, c30, rfl, l29, g29, l30, g30⟩ := k41_open s29
 exact ⟨A9, c9, A10, c10, A13, c13, A29, c29, A30, c30, rfl, l9, g9, l10, g10, l13, g13, l29, g29, l30, g30⟩
theorem k96_openM {w : World} {base : Nat} {ok : Nat → Prop} {x : S96} {cs : List Value} (h : k96.M w base ok x cs) : ∃ v9 v10 v13 v29 v30, cs = [.int .i64 x.f0, .int .i64 x.f1, .bool x.f2, .int .i64 x.f3.f0, .int .i64 x.f3.f1, .int .i64 x.f3.f2, .int .i64 x.f3.f3, .int .i64 x.f3.f4, .int .i64 x.f3.f5, v9, v10, .bool x.f5, .int .i64 x.f6, v13, .int .i64 x.f8.f0, .int .i64 x.f8.f1.f0, .int .i64 x.f8.f1.f1, .int .i64 x.f8.f1.f2, .int .i64 x.f8.f1.f3, .int .i64 x.f8.f2.f0, .int .i64 x.f8.f2.f1, .int .i64 x.f8.f2.f2, .int .i64 x.f8.f2.f3, .int .i64 x.f8.f3.f0, .int .i64 x.f8.f3.f1, .int .i64 x.f8.f4.f0, .int .i64 x.f8.f4.f1, .int .i64 x.f9, .int .i64 x.f10, v29, v30] ∧ (Kd.int .i64).R 3 w base ok v9 x.f4.f0 ∧ k32.R 32 w base ok v10 x.f4.f1 ∧ (Kd.int .i64).R 3 w base ok v13 x.f7 ∧ (Kd.int .i64).R 3 w base ok v29 x.f11.f0 ∧ k32.R 32 w base ok v30 x.f11.f1 := by
 obtain ⟨_, _, rfl, rfl, ⟨_, _, rfl, rfl, ⟨_, _, rfl, rfl, ⟨_, _, rfl, s3, ⟨_, _, rfl, s9, ⟨_, _, rfl, rfl, ⟨_, _, rfl, rfl, ⟨_, _, rfl, ⟨v13, rfl, g13⟩, ⟨_, _, rfl, s14, ⟨_, _, rfl, rfl, ⟨_, _, rfl, rfl, s29⟩⟩⟩⟩⟩⟩⟩⟩⟩⟩⟩ := h
 obtain rfl := k90_openM s3
 obtain ⟨v9, v10, rfl, g9, g10⟩ := k41_openM s9
 obtain rfl := k94_openM s14
 obtain ⟨v29, v30, rfl, g29, g30⟩ := k41_openM s29
 exact ⟨v9, v10, v13, v29, v30, rfl, g9, g10, g13, g29, g30⟩
theorem k96_mk (w : World) (x : S96) {A9 : Option Addr} {c9 : Nat} (l9 : x.f4.f0.length ≤ c9) (g9 : (Kd.int .i64).C w A9 x.f4.f0.length x.f4.f0) {A10 : Option Addr} {c10 : Nat} (l10 : x.f4.f1.length ≤ c10) (g10 : k32.C w A10 x.f4.f1.length x.f4.f1) {A13 : Option Addr} {c13 : Nat} (l13 : x.f7.length ≤ c13) (g13 : (Kd.int .i64).C w A13 x.f7.length x.f7) {A29 : Option Addr} {c29 : Nat} (l29 : x.f11.f0.length ≤ c29) (g29 : (Kd.int .i64).C w A29 x.f11.f0.length x.f11.f0) {A30 : Option Addr} {c30 : Nat} (l30 : x.f11.f1.length ≤ c30) (g30 : k32.C w A30 x.f11.f1.length x.f11.f1) : k96.K w x [.int .i64 x.f0, .int .i64 x.f1, .bool x.f2, .int .i64 x.f3.f0, .int .i64 x.f3.f1, .int .i64 x.f3.f2, .int .i64 x.f3.f3, .int .i64 x.f3.f4, .int .i64 x.f3.f5, .slice A9 x.f4.f0.length c9, .slice A10 x.f4.f1.length c10, .bool x.f5, .int .i64 x.f6, .slice A13 x.f7.length c13, .int .i64 x.f8.f0, .int .i64 x.f8.f1.f0, .int .i64 x.f8.f1.f1, .int .i64 x.f8.f1.f2, .int .i64 x.f8.f1.f3, .int .i64 x.f8.f2.f0, .int .i64 x.f8.f2.f1, .int .i64 x.f8.f2.f2, .int .i64 x.f8.f2.f3, .int .i64 x.f8.f3.f0, .int .i64 x.f8.f3.f1, .int .i64 x.f8.f4.f0, .int .i64 x.f8.f4.f1, .int .i64 x.f9, .int .i64 x.f10, .slice A29 x.f11.f0.length c29, .slice A30 x.f11.f1.length c30] := ⟨[.int .i64 x.f0], [.int .i64 x.f1, .bool x.f2, .int .i64 x.f3.f0, .int .i64 x.f3.f1, .int .i64 x.f3.f2, .int .i64 x.f3.f3, .int .i64 x.f3.f4, .int .i64 x.f3.f5, .slice A9 x.f4.f0.length c9, .slice A10 x.f4.f1.length c10, .bool x.f5, .int .i64 x.f6, .slice A13 x.f7.length c13, .int .i64 x.f8.f0, .int .i64 x.f8.f1.f0, .int .i64 x.f8.f1.f1, .int .i64 x.f8.f1.f2, .int .i64 x.f8.f1.f3, .int .i64 x.f8.f2.f0, .int .i64 x.f8.f2.f1, .int .i64 x.f8.f2.f2, .int .i64 x.f8.f2.f3, .int .i64 x.f8.f3.f0, .int .i64 x.f8.f3.f1, .int .i64 x.f8.f4.f0, .int .i64 x.f8.f4.f1, .int .i64 x.f9, .int .i64 x.f10, .slice A29 x.f11.f0.length c29, .slice A30 x.f11.f1.length c30], rfl, rfl, ⟨[.int .i64 x.f1], [.bool x.f2, .int .i64 x.f3.f0, .int .i64 x.f3.f1, .int .i64 x.f3.f2, .int .i64 x.f3.f3, .int .i64 x.f3.f4, .int .i64 x.f3.f5, .slice A9 x.f4.f0.length c9, .slice A10 x.f4.f1.length c10, .bool x.f5, .int .i64 x.f6, .slice A13 x.f7.length c13, .int .i64 x.f8.f0, .int .i64 x.f8.f1.f0, .int .i64 x.f8.f1.f1, .int .i64 x.f8.f1.f2, .int .i64 x.f8.f1.f3, .int .i64 x.f8.f2.f0, .int .i64 x.f8.f2.f1, .int .i64 x.f8.f2.f2, .int .i64 x.f8.f2.f3, .int .i64 x.f8.f3.f0, .int .i64 x.f8.f3.f1, .int .i64 x.f8.f4.f0, .int .i64 x.f8.f4.f1, .int .i64 x.f9, .int .i64 x.f10, .slice A29 x.f11.f0.length c29, .slice A30 x.f11.f1.length c30], rfl, rfl, ⟨[.bool x.f2], [.int .i64 x.f3.f0, .int .i64 x.f3.f1, .int .i64 x.f3.f2, .int .i64 x.f3.f3, .int .i64 x.f3.f4, .int .i64 x.f3.f5, .slice A9 x.f4.f0.length c9, .slice A10 x.f4.f1.length c10, .bool x.f5, .int .i64 x.f6, .slice A13 x.f7.length c13, .int .i64 x.f8.f0, .int .i64 x.f8.f1.f0, .int .i64 x.f8.f1.f1, .int .i64 x.f8.f1.f2, .int .i64 x.f8.f1.f3, .int .i64 x.f8.f2.f0, .int .i64 x.f8.f2.f1, .int .i64 x.f8.f2.f2, .int .i64 x.f8.f2.f3, .int .i64 x.f8.f3.f0, .int .i64 x.f8.f3.f1, .int .i64 x.f8.f4.f0, .int .i64 x.f8.f4.f1, .int .i64 x.f9, .int .i64 x.f10, .slice A29 x.f11.f0.length c29, .slice A30 x.f11.f1.length c30], rfl, rfl, ⟨[.int .i64 x.f3.f0, .int .i64 x.f3.f1, .int .i64 x.f3.f2, .int .i64 x.f3.f3, .int .i64 x.f3.f4, .int .i64 x.f3.f5], [.slice A9 x.f4.f0.length c9, .slice A10 x.f4.f1.length c10, .bool x.f5, .int .i64 x.f6, .slice A13 x.f7.length c13, .int .i64 x.f8.f0, .int .i64 x.f8.f1.f0, .int .i64 x.f8.f1.f1, .int .i64 x.f8.f1.f2, .int .i64 x.f8.f1.f3, .int .i64 x.f8.f2.f0, .int .i64 x.f8.f2.f1, .int .i64 x.f8.f2.f2, .int .i64 x.f8.f2.f3, .int .i64 x.f8.f3.f0, .int .i64 x.f8.f3.f1, .int .i64 x.f8.f4.f0, .int .i64 x.f8.f4.f1, .int .i64 x.f9, .int .i64 x.f10, .slice A29 x.f11.f0.length c29, .slice A30 x.f11.f1.length c30], rfl, (k90_mk w x.f3 ), ⟨[.slice A9 x.f4.f0.length c9, .slice A10 x.f4.f1.length c10], [.bool x.f5, .int .i64 x.f6, .slice A13 x.f7.length c13, .int .i64 x.f8.f0, .int .i64 x.f8.f1.f0, .int .i64 x.f8.f1.f1, .int .i64 x.f8.f1.f2, .int .i64 x.f8.f1.f3, .int .i64 x.f8.f2.f0, .int .i64 x.f8.f2.f1, .int .i64 x.f8.f2.f2, .int .i64 x.f8.f2.f3, .int .i64 x.f8.f3.f0, .int .i64 x.f8.f3.f1, .int .i64 x.f8.f4.f0, .int .i64 x.f8.f4.f1, .int .i64 x.f9, .int .i64 x.f10, .slice A29 x.f11.f0.length c29, .slice A30 x.f11.f1.length c30], rfl, (k41_mk w x.f4 l9 g9 l10 g10), ⟨[.bool x.f5], [.int .i64 x.f6, .slice A13 x.f7.length c13, .int .i64 x.f8.f0, .int .i64 x.f8.f1.f0, .int .i64 x.f8.f1.f1, .int .i64 x.f8.f1.f2, .int .i64 x.f8.f1.f3, .int .i64 x.f8.f2.f0, .int .i64 x.f8.f2.f1, .int .i64 x.f8.f2.f2, .int .i64 x.f8.f2.f3, .int .i64 x.f8.f3.f0, .int .i64 x.f8.f3.f1, .int .i64 x.f8.f4.f0, .int .i64 x.f8.f4.f1, .int .i64 x.f9, .int .i64 x.f10, .slice A29 x.f11.f0.length c29, .slice A30 x.f11.f1.length c30], rfl, rfl, ⟨[.int .i64 x.f6], [.slice A13 x.f7.length c13, .int .i64 x.f8.f0, .int .i64 x.f8.f1.f0, .int .i64 x.f8.f1.f1, .int .i64 x.f8.f1.f2, .int .i64 x.f8.f1.f3, .int .i64 x.f8.f2.f0, .int .i64 x.f8.f2.f1, .int .i64 x.f8.f2.f2, .int .i64 x.f8.f2.f3, .int .i64 x.f8.f3.f0, .int .i64 x.f8.f3.f1, .int .i64 x.f8.f4.f0, .int .i64 x.f8.f4.f1, .int .i64 x.f9, .int .i64 x.f10, .slice A29 x.f11.f0.length c29, .slice A30 x.f11.f1.length c30], rfl, rfl, ⟨[.slice A13 x.f7.length c13], [.int .i64 x.f8.f0, .int .i64 x.f8.f1.f0, .int .i64 x.f8.f1.f1, .int .i64 x.f8.f1.f2, .int .i64 x.f8.f1.f3, .int .i64 x.f8.f2.f0, .int .i64 x.f8.f2.f1, .int .i64 x.f8.f2.f2, .int .i64 x.f8.f2.f3, .int .i64 x.f8.f3.f0, .int .i64 x.f8.f3.f1, .int .i64 x.f8.f4.f0, .int .i64 x.f8.f4.f1, .int .i64 x.f9, .int .i64 x.f10, .slice A29 x.f11.f0.length c29, .slice A30 x.f11.f1.length c30], rfl, ⟨A13, c13, rfl, l13, g13⟩, ⟨[.int .i64 x.f8.f0, .int .i64 x.f8.f1.f0, .int .i64 x.f8.f1.f1, .int .i64 x.f8.f1.f2, .int .i64 x.f8.f1.f3, .int .i64 x.f8.f2.f0, .int .i64 x.f8.f2.f1, .int .i64 x.f8.f2.f2, .int .i64 x.f8.f2.f3, .int .i64 x.f8.f3.f0, .int .i64 x.f8.f3.f1, .int .i64 x.f8.f4.f0, .int .i64 x.f8.f4.f1], [.int .i64 x.f9, .int .i64 x.f10, .slice A29 x.f11.f0.length c29, .slice A30 x.f11.f1.length c30], rfl, (k94_mk w x.f8 ), ⟨[.int .i64 x.f9], [.int .i64 x.f10, .slice A29 x.f11.f0.length c29, .slice A30 x.f11.f1.length c30], rfl, rfl, ⟨[.int .i64 x.f10], [.slice A29 x.f11.f0.length c29, .slice A30 x.f11.f1.length c30], rfl, rfl, (k41_mk w x.f11 l29 g29 l30 g30)⟩⟩⟩⟩⟩⟩⟩⟩⟩⟩⟩
theorem k96_mkM (w : World) (base : Nat) (ok : Nat → Prop) (x : S96) {v9 : Value} (g9 : (Kd.int .i64).R 3 w base ok v9 x.f4.f0) {v10 : Value} (g10 : k32.R 32 w base ok v10 x.f4.f1) {v13 : Value} (g13 : (Kd.int .i64).R 3 w base ok v13 x.f7) {v29 : Value} (g29 : (Kd.int .i64).R 3 w base ok v29 x.f11.f0) {v30 : Value} (g30 : k32.R 32 w base ok v30 x.f11.f1) : k96.M w base ok x [.int .i64 x.f0, .int .i64 x.f1, .bool x.f2, .int .i64 x.f3.f0, .int .i64 x.f3.f1, .int .i64 x.f3.f2, .int .i64 x.f3.f3, .int .i64 x.f3.f4, .int .i64 x.f3.f5, v9, v10, .bool x.f5, .int .i64 x.f6, v13, .int .i64 x.f8.f0, .int .i64 x.f8.f1.f0, .int .i64 x.f8.f1.f1, .int .i64 x.f8.f1.f2, .int .i64 x.f8.f1.f3, .int .i64 x.f8.f2.f0, .int .i64 x.f8.f2.f1, .int .i64 x.f8.f2.f2, .int .i64 x.f8.f2.f3, .int .i64 x.f8.f3.f0, .int .i64 x.f8.f3.f1, .int .i64 x.f8.f4.f0, .int .i64 x.f8.f4.f1, .int .i64 x.f9, .int .i64 x.f10, v29, v30] := ⟨[.int .i64 x.f0], [.int .i64 x.f1, .bool x.f2, .int .i64 x.f3.f0, .int .i64 x.f3.f1, .int .i64 x.f3.f2, .int .i64 x.f3.f3, .int .i64 x.f3.f4, .int .i64 x.f3.f5, v9, v10, .bool x.f5, .int .i64 x.f6, v13, .int .i64 x.f8.f0, .int .i64 x.f8.f1.f0, .int .i64 x.f8.f1.f1, .int .i64 x.f8.f1.f2, .int .i64 x.f8.f1.f3, .int .i64 x.f8.f2.f0, .int .i64 x.f8.f2.f1, .int .i64 x.f8.f2.f2, .int .i64 x.f8.f2.f3, .int .i64 x.f8.f3.f0, .int .i64 x.f8.f3.f1, .int .i64 x.f8.f4.f0, .int .i64 x.f8.f4.f1, .int .i64 x.f9, .int .i64 x.f10, v29, v30], rfl, rfl, ⟨[.int .i64 x.f1], [.bool x.f2, .int .i64 x.f3.f0, .int .i64 x.f3.f1, .int .i64 x.f3.f2, .int .i64 x.f3.f3, .int .i64 x.f3.f4, .int .i64 x.f3.f5, v9, v10, .bool x.f5, .int .i64 x.f6, v13, .int .i64 x.f8.f0, .int .i64 x.f8.f1.f0, .int .i64 x.f8.f1.f1, .int .i64 x.f8.f1.f2, .int .i64 x.f8.f1.f3, .int .i64 x.f8.f2.f0, .int .i64 x.f8.f2.f1, .int .i64 x.f8.f2.f2, .int .i64 x.f8.f2.f3, .int .i64 x.f8.f3.f0, .int .i64 x.f8.f3.f1, .int .i64 x.f8.f4.f0, .int .i64 x.f8.f4.f1, .int .i64 x.f9, .int .i64 x.f10, v29, v30], rfl, rfl, ⟨[.bool x.f2], [.int .i64 x.f3.f0, .int .i64 x.f3.f1, .int .i64 x.f3.f2, .int .i64 x.f3.f3, .int .i64 x.f3.f4, .int .i64 x.f3.f5, v9, v10, .bool x.f5, .int .i64 x.f6, v13, .int .i64 x.f8.f0, .int .i64 x.f8.f1.f0, .int .i64 x.f8.f1.f1, .int .i64 x.f8.f1.f2, .int .i64 x.f8.f1.f3, .int .i64 x.f8.f2.f0, .int .i64 x.f8.f2.f1, .int .i64 x.f8.f2.f2, .int .i64 x.f8.f2.f3, .int .i64 x.f8.f3.f0, .int .i64 x.f8.f3.f1, .int .i64 x.f8.f4.f0, .int .i64 x.f8.f4.f1, .int .i64 x.f9, .int .i64 x.f10, v29, v30], rfl, rfl, ⟨[.int .i64 x.f3.f0, .int .i64 x.f3.f1, .int .i64 x.f3.f2, .int .i64 x.f3.f3, .int .i64 x.f3.f4, .int .i64 x.f3.f5], [v9, v10, .bool x.f5, .int .i64 x.f6, v13, .int .i64 x.f8.f0, .int .i64 x.f8.f1.f0, .int .i64 x.f8.f1.f1, .int .i64 x.f8.f1.f2, .int .i64 x.f8.f1.f3, .int .i64 x.f8.f2.f0, .int .i64 x.f8.f2.f1, .int .i64 x.f8.f2.f2, .int .i64 x.f8.f2.f3, .int .i64 x.f8.f3.f0, .int .i64 x.f8.f3.f1, .int .i64 x.f8.f4.f0, .int .i64 x.f8.f4.f1, .int .i64 x.f9, .int .i64 x.f10, v29, v30], rfl, (k90_mkM w base ok x.f3 ), ⟨[v9, v10], [.bool x.f5, .int .i64 x.f6, v13, .int .i64 x.f8.f0, .int .i64 x.f8.f1.f0, .int .i64 x.f8.f1.f1, .int .i64 x.f8.f1.f2, .int .i64 x.f8.f1.f3, .int .i64 x.f8.f2.f0, .int .i64 x.f8.f2.f1, .int .i64 x.f8.f2.f2, .int .i64 x.f8.f2.f3, .int .i64 x.f8.f3.f0, .int .i64 x.f8.f3.f1, .int .i64 x.f8.f4.f0, .int .i64 x.f8.f4.f1, .int .i64 x.f9, .int .i64 x.f10, v29, v30], rfl, (k41_mkM w base ok x.f4 g9 g10), ⟨[.bool x.f5], [.int .i64 x.f6, v13, .int .i64 x.f8.f0, .int .i64 x.f8.f1.f0, .int .i64 x.f8.f1.f1, .int .i64 x.f8.f1.f2, .int .i64 x.f8.f1.f3, .int .i64 x.f8.f2.f0, .int .i64 x.f8.f2.f1, .int .i64 x.f8.f2.f2, .int .i64 x.f8.f2.f3, .int .i64 x.f8.f3.f0, .int .i64 x.f8.f3.f1, .int .i64 x.f8.f4.f0, .int .i64 x.f8.f4.f1, .int .i64 x.f9, .int .i64 x.f10, v29, v30], rfl, rfl, ⟨[.int .i64 x.f6], [v13, .int .i64 x.f8.f0, .int .i64 x.f8.f1.f0, .int .i64 x.f8.f1.f1, .int .i64 x.f8.f1.f2, .int .i64 x.f8.f1.f3, .int .i64 x.f8.f2.f0, .int .i64 x.f8.f2.f1, .int .i64 x.f8.f2.f2, .int .i64 x.f8.f2.f3, .int .i64 x.f8.f3.f0, .int .i64 x.f8.f3.f1, .int .i64 x.f8.f4.f0, .int .i64 x.f8.f4.f1, .int .i64 x.f9, .int .i64 x.f10, v29, v30], rfl, rfl, ⟨[v13], [.int .i64 x.f8.f0, .int .i64 x.f8.f1.f0, .int .i64 x.f8.f1.f1, .int .i64 x.f8.f1.f2, .int .i64 x.f8.f1.f3, .int .i64 x.f8.f2.f0, .int .i64 x.f8.f2.f1, .int .i64 x.f8.f2.f2, .int .i64 x.f8.f2.f3, .int .i64 x.f8.f3.f0, .int .i64 x.f8.f3.f1, .int .i64 x.f8.f4.f0, .int .i64 x.f8.f4.f1, .int .i64 x.f9, .int .i64 x.f10, v29, v30], rfl, ⟨v13, rfl, g13⟩, ⟨[.int .i64 x.f8.f0, .int .i64 x.f8.f1.f0, .int .i64 x.f8.f1.f1, .int .i64 x.f8.f1.f2, .int .i64 x.f8.f1.f3, .int .i64 x.f8.f2.f0, .int .i64 x.f8.f2.f1, .int .i64 x.f8.f2.f2, .int .i64 x.f8.f2.f3, .int .i64 x.f8.f3.f0, .int .i64 x.f8.f3.f1, .int .i64 x.f8.f4.f0, .int .i64 x.f8.f4.f1], [.int .i64 x.f9, .int .i64 x.f10, v29, v30], rfl, (k94_mkM w base ok x.f8 ), ⟨[.int .i64 x.f9], [.int .i64 x.f10, v29, v30], rfl, rfl, ⟨[.int .i64 x.f10], [v29, v30], rfl, rfl, (k41_mkM w base ok x.f11 g29 g30)⟩⟩⟩⟩⟩⟩⟩⟩⟩⟩⟩
def rd_T96 (xs : List S96) (i : Int) : S96 := xs.getD i.toNat z96
theorem at_T96 {w : World} {A : Option Addr} {n : Nat} {xs : List S96} (h : Kd.C k96 w A n xs) (i : Int) (h0 : 0 ≤ i) (h1 : i < n) : ∃ ad A9 c9 A10 c10 A13 c13 A29 c29 A30 c30, A = some ad ∧ w.cell? (ad.add (i.toNat * 31)) = some (.int .i64 (rd_T96 xs i).f0) ∧ w.cell? ⟨(ad.add (i.toNat * 31)).block, (ad.add (i.toNat * 31)).off + 1, none⟩ = some (.int .i64 (rd_T96 xs i).f1) ∧ w.cell? ⟨(ad.add (i.toNat * 31)).block, (ad.add (i.toNat * 31)).off + 2, none⟩ = some (.bool (rd_T96 xs i).f2) ∧ w.cell? ⟨(ad.add (i.toNat * 31)).block, (ad.add (i.toNat * 31)).off + 3, none⟩ = some (.int .i64 (rd_T96 xs i).f3.f0) ∧ w.cell? ⟨(ad.add (i.toNat * 31)).block, (ad.add (i.toNat * 31)).off + 4, none⟩ = some (.int .i64 (rd_T96 xs i).f3.f1) ∧ w.cell? ⟨(ad.add (i.toNat * 31)).block, (ad.add (i.toNat * 31)).off + 5, none⟩ = some (.int .i64 (rd_T96 xs i).f3.f2) ∧ w.cell? ⟨(ad.add (i.toNat * 31)).block, (ad.add (i.toNat * 31)).off + 6, none⟩ = some (.int .i64 (rd_T96 xs i).f3.f3) ∧ w.cell? ⟨(ad.add (i.toNat * 31)).block, (ad.add (i.toNat * 31)).off + 7, none⟩ = some (.int .i64 (rd_T96 xs i).f3.f4) ∧ w.cell? ⟨(ad.add (i.toNat * 31)).block, (ad.add (i.toNat * 31)).off + 8, none⟩ = some (.int .i64 (rd_T96 xs i).f3.f5) ∧ w.cell? ⟨(ad.add (i.toNat * 31)).block, (ad.add (i.toNat * 31)).off + 9, none⟩ = some (.slice A9 (rd_T96 xs i).f4.f0.length c9) ∧ w.cell? ⟨(ad.add (i.toNat * 31)).block, (ad.add (i.toNat * 31)).off + 10, none⟩ = some (.slice A10 (rd_T96 xs i).f4.f1.length c10) ∧ w.cell? ⟨(ad.add (i.toNat * 31)).block, (ad.add (i.toNat * 31)).off + 11, none⟩ = some (.bool (rd_T96 xs i).f5) ∧ w.cell? ⟨(ad.add (i.toNat * 31)).block, (ad.add (i.toNat * 31)).off + 12, none⟩ = some (.int .i64 (rd_T96 xs i).f6) ∧ w.cell? ⟨(ad.add (i.toNat * 31)).block, (ad.add (i.toNat * 31)).off + 13, none⟩ = some (.slice A13 (rd_T96 xs i).f7.length c13) ∧ w.cell? ⟨(ad.add (i.toNat * 31)).block, (ad.add (i.toNat * 31)).off + 14, none⟩ = some (.int .i64 (rd_T96 xs i).f8.f0) ∧ w.cell? ⟨(ad.add (i.toNat * 31)).block, (ad.add (i.toNat * 31)).off + 15, none⟩ = some (.int .i64 (rd_T96 xs i).f8.f1.f0) ∧ w.cell? ⟨(ad.add (i.toNat * 31)).block, (ad.add (i.toNat * 31)).off + 16, none⟩ = some (.int .i64 (rd_T96 xs i).f8.f1.f1) ∧ w.cell? ⟨(ad.add (i.toNat * 31)).block, (ad.add (i.toNat * 31)).off + 17, none⟩ = some (.int .i64 (rd_T96 xs i).f8.f1.f2) ∧ w.cell? ⟨(ad.add (i.toNat * 31)).block, (ad.add (i.toNat * 31)).off + 18, none⟩ = some (.int .i64 (rd_T96 xs i).f8.f1.f3) ∧ w.cell? ⟨(ad.add (i.toNat * 31)).block, (ad.add (i.toNat * 31)).off + 19, none⟩ = some (.int .i64 (rd_T96 xs i).f8.f2.f0) ∧ w.cell? ⟨(ad.add (i.toNat * 31)).block, (ad.add (i.toNat * 31)).off + 20, none⟩ = some (.int .i64 (rd_T96 xs i).f8.f2.f1) ∧ w.cell? ⟨(ad.add (i.toNat * 31)).block, (ad.add (i.toNat * 31)).off + 21, none⟩ = some (.int .i64 (rd_T96 xs i).f8.f2.f2) ∧ w.cell? ⟨(ad.add (i.toNat * 31)).block, (ad.add (i.toNat * 31)).off + 22, none⟩ = some (.int .i64 (rd_T96 xs i).f8.f2.f3) ∧ w.cell? ⟨(ad.add (i.toNat * 31)).block, (ad.add (i.toNat * 31)).off + 23, none⟩ = some (.int .i64 (rd_T96 xs i).f8.f3.f0) ∧ w.cell? ⟨(ad.add (i.toNat * 31)).block, (ad.add (i.toNat * 31)).off + 24, none⟩ = some (.int .i64 (rd_T96 xs i).f8.f3.f1) ∧ w.cell? ⟨(ad.add (i.toNat * 31)).block, (ad.add (i.toNat * 31)).off + 25, none⟩ = some (.int .i64 (rd_T96 xs i).f8.f4.f0) ∧ w.cell? ⟨(ad.add (i.toNat * 31)).block, (ad.add (i.toNat * 31)).off + 26, none⟩ = some (.int .i64 (rd_T96 xs i).f8.f4.f1) ∧ w.cell? ⟨(ad.add (i.toNat * 31)).block, (ad.add (i.toNat * 31)).off + 27, none⟩ = some (.int .i64 (rd_T96 xs i).f9) ∧ w.cell? ⟨(ad.add (i.toNat * 31)).block, (ad.add (i.toNat * 31)).off + 28, none⟩ = some (.int .i64 (rd_T96 xs i).f10) ∧ w.cell? ⟨(ad.add (i.toNat * 31)).block, (ad.add (i.toNat * 31)).off + 29, none⟩ = some (.slice A29 (rd_T96 xs i).f11.f0.length c29) ∧ w.cell? ⟨(ad.add (i.toNat * 31)).block, (ad.add (i.toNat * 31)).off + 30, none⟩ = some (.slice A30 (rd_T96 xs i).f11.f1.length c30) ∧ (rd_T96 xs i).f4.f0.length ≤ c9 ∧ (Kd.int .i64).C w A9 (rd_T96 xs i).f4.f0.length (rd_T96 xs i).f4.f0 ∧ (rd_T96 xs i).f4.f1.length ≤ c10 ∧ k32.C w A10 (rd_T96 xs i).f4.f1.length (rd_T96 xs i).f4.f1 ∧ (rd_T96 xs i).f7.length ≤ c13 ∧ (Kd.int .i64).C w A13 (rd_T96 xs i).f7.length (rd_T96 xs i).f7 ∧ (rd_T96 xs i).f11.f0.length ≤ c29 ∧ (Kd.int .i64).C w A29 (rd_T96 xs i).f11.f0.length (rd_T96 xs i).f11.f0 ∧ (rd_T96 xs i).f11.f1.length ≤ c30 ∧ k32.C w A30 (rd_T96 xs i).f11.f1.length (rd_T96 xs i).f11.f1 := by
 obtain ⟨ad, c, e, _, hK, hc0⟩ := Kd.C_get h z96 i h0 h1
 have hc : ∀ j u, c[j]? = some u → w.cell? (ad.add (i.toNat * 31 + j)) = some u := hc0
 obtain ⟨A9, c9, A10, c10, A13, c13, A29, c29, A30, c30, rfl, l9, g9, l10, g10, l13, g13, l29, g29, l30, g30⟩ := k96_open hK
 exact ⟨ad, A9, c9, A10, c10, A13, c13, A29, c29, A30, c30, e, hc 0 _ rfl, by rw [← add_field _ _ 1 (by omega)]; exact hc 1 _ rfl, by rw [← add_field _ _ 2 (by omega)]; exact hc 2 _ rfl, by rw [← add_field _ _ 3 (by omega)]; exact hc 3 _ rfl, by rw [← add_field _ _ 4 (by omega)]; exact hc 4 _ rfl, by rw [← add_field _ _ 5 (by omega)]; exact hc 5 _ rfl, by rw [← add_field _ _ 6 (by omega)]; exact hc 6 _ rfl, by rw [← add_field _ _ 7 (by omega)]; exact hc 7 _ rfl, by rw [← add_field _ _ 8 (by omega)]; exact hc 8 _ rfl, by rw [← add_field _ _ 9 (by omega)]; exact hc 9 _ rfl, by rw [← add_field _ _ 10 (by omega)]; exact hc 10 _ rfl, by rw [← add_field _ _ 11 (by omega)]; exact hc 11 _ rfl, by rw [← add_field _ _ 12 (by omega)]; exact hc 12 _ rfl, by rw [← add_field _ _ 13 (by omega)]; exact hc 13 _ rfl, by rw [← add_field _ _ 14 (by omega)]; exact hc 14 _ rfl, by rw [← add_field _ _ 15 (by omega)]; exact hc 15 _ rfl, by rw [← add_field _ _ 16 (by omega)]; exact hc 16 _ rfl, by rw [← add_field _ _ 17 (by omega)]; exact hc 17 _ rfl, by rw [← add_field _ _ 18 (by omega)]; exact hc 18 _ rfl, by rw [← add_field _ _ 19 (by omega)]; exact hc 19 _ rfl, by rw [← add_field _ _ 20 (by omega)]; exact hc 20 _ rfl, by rw [← add_field _ _ 21 (by omega)]; exact hc 21 _ rfl, by rw [← add_field _ _ 22 (by omega)]; exact hc 22 _ rfl, by rw [← add_field _ _ 23 (by omega)]; exact hc 23 _ rfl, by rw [← add_field _ _ 24 (by omega)]; exact hc 24 _ rfl, by rw [← add_field _ _ 25 (by omega)]; exact hc 25 _ rfl, by rw [← add_field _ _ 26 (by omega)]; exact hc 26 _ rfl, by rw [← add_field _ _ 27 (by omega)]; exact hc 27 _ rfl, by rw [← add_field _ _ 28 (by omega)]; exact hc 28 _ rfl, by rw [← add_field _ _ 29 (by omega)]; exact hc 29 _ rfl, by rw [← add_field _ _ 30 (by omega)]; exact hc 30 _ rfl, l9, g9, l10, g10, l13, g13, l29, g29, l30, g30⟩

end Go.Proofs.Ytgdlbilpfmjeaaa.MFnExactNodeAt
