/- Functions of the program as Lean functions, and the proof that a call comes to just these: machine text of this session's own program (myprint.py). -/
import Derived.Test.YtjfienkbcacijaaMFnExactDashOfx0
import Derived.Test.YtjfienkbcacijaaMFnExactDashOfx1
import Derived.Test.YtjfienkbcacijaaMFnExactDashOfx2
namespace Go.Proofs.Ytjfienkbcacijaa.MFnExactDashOf
open Go.RowKit Go.Proofs.YtjfienkbcacijaaW.PrintWords Go.Proofs.YtjfienkbcacijaaW.PrintLast Go.Proofs.YtjfienkbcacijaaW.PrintMore
attribute [local go_sem] max2_int min2_int max_two min_two max_three min_three max_four min_four   -- for this text's walks alone
set_option linter.unusedVariables false
set_option linter.unusedSimpArgs false

/-! ### impl_DashOf: function 11; what it and dasher.piece compute -/
def impl_dasher_piece.l0 : Nat → List Int → Int → Int → Int → Int → Int → Int → Int → Int → List S29 → List (List S29) → Option (Int × Int × List S29 × List (List S29))
  | 0, _, _, _, _, _, _, _, _, _, _, _ => none
  | k + 1, ds, ax, ay, bx, by_, n, at_, kk, left, xs, ys => if wrap64 (n - at_) > left then ((impl_PointAt.f k ax ay bx by_ (wrap64 (at_ + left)) n).bind fun p => (if xs.length < 8796093022208 then (if ys.length < 5864062014805 then (if (ds.length : Int) = 0 then none else (if 0 ≤ Int.tmod (wrap64 (kk + 1)) (ds.length : Int) then (if Int.tmod (wrap64 (kk + 1)) (ds.length : Int) < (ds.length : Int) then (if Int.tmod kk 2 = 0 then (impl_dasher_piece.l0 k ds ax ay bx by_ n (wrap64 (at_ + left)) (Int.tmod (wrap64 (kk + 1)) (ds.length : Int)) (rd ds (Int.tmod (wrap64 (kk + 1)) (ds.length : Int))) [] (if (xs ++ [(⟨p.1, p.2⟩ : S29)]).length > 1 then ys ++ [xs ++ [(⟨p.1, p.2⟩ : S29)]] else ys)) else (impl_dasher_piece.l0 k ds ax ay bx by_ n (wrap64 (at_ + left)) (Int.tmod (wrap64 (kk + 1)) (ds.length : Int)) (rd ds (Int.tmod (wrap64 (kk + 1)) (ds.length : Int))) (xs ++ [(⟨p.1, p.2⟩ : S29)]) ys)) else none) else none)) else none) else none)) else (if Int.tmod kk 2 = 0 then (if xs.length < 8796093022208 then some (kk, wrap64 (left - wrap64 (n - at_)), xs ++ [(⟨bx, by_⟩ : S29)], ys) else none) else some (kk, wrap64 (left - wrap64 (n - at_)), xs, ys))
def impl_dasher_piece.f (k : Nat) (ds : List Int) (ax ay bx by_ kk left : Int) (xs : List S29) (ys : List (List S29)) : Option (Int × Int × List S29 × List (List S29)) := (impl_LengthOf.f k ax ay bx by_).bind fun n => if n = 0 then some (kk, left, xs, ys) else impl_dasher_piece.l0 k ds ax ay bx by_ n 0 kk left xs ys
theorem impl_dasher_piece.mono_l : ∀ k, (∀ y0 y1 y2 y3 y4 y5 y6 y7 y8 y9 y10, LeO (impl_dasher_piece.l0 k y0 y1 y2 y3 y4 y5 y6 y7 y8 y9 y10) (impl_dasher_piece.l0 (k + 1) y0 y1 y2 y3 y4 y5 y6 y7 y8 y9 y10))
  | 0 => fun _ _ _ _ _ _ _ _ _ _ _ r h => by simp [impl_dasher_piece.l0] at h
  | k + 1 => by
    have ih0 := impl_dasher_piece.mono_l k
    · intro y0 y1 y2 y3 y4 y5 y6 y7 y8 y9 y10
      unfold impl_dasher_piece.l0
      repeat' first
      | (with_reducible exact ih0 _ _ _ _ _ _ _ _ _ _ _)
      | (with_reducible exact impl_PointAt.mono _ _ _ _ _ _ _)
      | (with_reducible exact LeO.refl _)
      | (with_reducible exact LeO.none _)
      | (with_reducible refine LeO.ite ?_ ?_)
      | (with_reducible refine LeO.bind ?_ (fun _ => ?_))
theorem impl_dasher_piece.mono : ∀ a0 a1 a2 a3 a4 a5 a6 a7 a8 k, LeO (impl_dasher_piece.f k a0 a1 a2 a3 a4 a5 a6 a7 a8) (impl_dasher_piece.f (k + 1) a0 a1 a2 a3 a4 a5 a6 a7 a8) := by
  intro a0 a1 a2 a3 a4 a5 a6 a7 a8 k
  unfold impl_dasher_piece.f
  refine LeO.bind (impl_LengthOf.mono _ _ _ _ _) (fun n => ?_)
  refine LeO.ite (LeO.refl _) (impl_dasher_piece.mono_l k _ _ _ _ _ _ _ _ _ _ _)
def impl_DashOf.s0 : Nat → List Int → Int → Int → Option Int
  | 0, _, _, _ => none
  | k + 1, ds, s, i => if i < (ds.length : Int) then (if 0 ≤ i then impl_DashOf.s0 k ds (wrap64 (s + rd ds i)) (wrap64 (i + 1)) else none) else some s
def impl_DashOf.s1 : Nat → List Int → Int → Int → Option (Int × Int)
  | 0, _, _, _ => none
  | k + 1, ds, ph, kk => if 0 ≤ kk then (if kk < (ds.length : Int) then (if ph ≥ rd ds kk then impl_DashOf.s1 k ds (wrap64 (ph - rd ds kk)) (wrap64 (kk + 1)) else some (ph, kk)) else none) else none
def impl_DashOf.s2 : Nat → List S29 → List Int → Int → Int → Int → List S29 → List (List S29) → Option (Int × Int × List S29 × List (List S29))
  | 0, _, _, _, _, _, _, _ => none
  | k + 1, l0, ds, i, kk, left, xs, ys => if i < (l0.length : Int) then (if 0 ≤ wrap64 (i - 1) then (if wrap64 (i - 1) < (l0.length : Int) then (if 0 ≤ i then ((impl_dasher_piece.f k ds (rd_T29 l0 (wrap64 (i - 1))).f0 (rd_T29 l0 (wrap64 (i - 1))).f1 (rd_T29 l0 i).f0 (rd_T29 l0 i).f1 kk left xs ys).bind fun q => impl_DashOf.s2 k l0 ds (wrap64 (i + 1)) q.1 q.2.1 q.2.2.1 q.2.2.2) else none) else none) else none) else some (kk, left, xs, ys)
def impl_DashOf.m (k : Nat) (l0 : List S29) (ds : List Int) (ph : Int) : Option (List (List S29)) := (impl_DashOf.s0 k ds 0 0).bind fun s => if s = 0 then none else ((impl_DashOf.s1 k ds (Int.tmod ph s) 0).bind fun q => if 0 ≤ q.2 then (if q.2 < (ds.length : Int) then ((if Int.tmod q.2 2 = 0 then (if 0 < (l0.length : Int) then impl_DashOf.s2 k l0 ds 1 q.2 (wrap64 (rd ds q.2 - q.1)) [(⟨(rd_T29 l0 0).f0, (rd_T29 l0 0).f1⟩ : S29)] [] else none) else impl_DashOf.s2 k l0 ds 1 q.2 (wrap64 (rd ds q.2 - q.1)) [] []).bind fun z => if z.2.2.2.length < 5864062014805 then some (if z.2.2.1.length > 1 then z.2.2.2 ++ [z.2.2.1] else z.2.2.2) else none) else none) else none)
def impl_DashOf.f (k : Nat) (l0 : List S29) (ds : List Int) (ph : Int) : Option (List (List S29)) := (impl_DashOk.f k ds).bind fun t => if t = true then (if (l0.length : Int) < 2 then some [] else ((impl_inRange.f ph 0 20000).bind fun u => if u = true then ((impl_pointsOk.f k l0).bind fun v => if v = true then (if (ds.length : Int) = 0 then (if l0.length < 8796093022208 then some [l0] else none) else impl_DashOf.m k l0 ds ph) else some []) else some [])) else some []
theorem impl_DashOf.mono0 : ∀ k, ∀ y0 y1 y2, LeO (impl_DashOf.s0 k y0 y1 y2) (impl_DashOf.s0 (k + 1) y0 y1 y2)
  | 0 => fun _ _ _ r h => by simp [impl_DashOf.s0] at h
  | k + 1 => by
    have ih0 := impl_DashOf.mono0 k
    intro y0 y1 y2
    unfold impl_DashOf.s0
    exact LeO.ite (LeO.ite (ih0 _ _ _) (LeO.refl _)) (LeO.refl _)
theorem impl_DashOf.mono1 : ∀ k, ∀ y0 y1 y2, LeO (impl_DashOf.s1 k y0 y1 y2) (impl_DashOf.s1 (k + 1) y0 y1 y2)
  | 0 => fun _ _ _ r h => by simp [impl_DashOf.s1] at h
  | k + 1 => by
    have ih0 := impl_DashOf.mono1 k
    intro y0 y1 y2
    unfold impl_DashOf.s1
    exact LeO.ite (LeO.ite (LeO.ite (ih0 _ _ _) (LeO.refl _)) (LeO.refl _)) (LeO.refl _)
theorem impl_DashOf.mono2 : ∀ k, ∀ y0 y1 y2 y3 y4 y5 y6, LeO (impl_DashOf.s2 k y0 y1 y2 y3 y4 y5 y6) (impl_DashOf.s2 (k + 1) y0 y1 y2 y3 y4 y5 y6)
  | 0 => fun _ _ _ _ _ _ _ r h => by simp [impl_DashOf.s2] at h
  | k + 1 => by
    have ih0 := impl_DashOf.mono2 k
    intro y0 y1 y2 y3 y4 y5 y6
    unfold impl_DashOf.s2
    exact LeO.ite (LeO.ite (LeO.ite (LeO.ite (LeO.bind (impl_dasher_piece.mono _ _ _ _ _ _ _ _ _ _) (fun q => ih0 _ _ _ _ _ _ _)) (LeO.refl _)) (LeO.refl _)) (LeO.refl _)) (LeO.refl _)
theorem impl_DashOf.mono : ∀ a0 a1 a2 k, LeO (impl_DashOf.f k a0 a1 a2) (impl_DashOf.f (k + 1) a0 a1 a2) := by
  intro a0 a1 a2 k
  unfold impl_DashOf.f
  refine LeO.bind (impl_DashOk.mono _ _) (fun t => LeO.ite (LeO.ite (LeO.refl _) (LeO.bind (LeO.refl _) (fun u => LeO.ite (LeO.bind (impl_pointsOk.mono _ _) (fun v => LeO.ite (LeO.ite (LeO.refl _) ?_) (LeO.refl _))) (LeO.refl _)))) (LeO.refl _))
  unfold impl_DashOf.m
  exact LeO.bind (impl_DashOf.mono0 _ _ _ _) (fun s => LeO.ite (LeO.refl _) (LeO.bind (impl_DashOf.mono1 _ _ _ _) (fun q => LeO.ite (LeO.ite (LeO.bind (LeO.ite (LeO.ite (impl_DashOf.mono2 _ _ _ _ _ _ _ _) (LeO.refl _)) (impl_DashOf.mono2 _ _ _ _ _ _ _ _)) (fun z => LeO.refl _)) (LeO.refl _)) (LeO.refl _))))
/-! ### walk -/
theorem da_info29 : (Try.prog.info? 29).map (fun i => (i.zero, i.size, i.bytes)) = some (some (.agg #[(.int .i64 0), (.int .i64 0)]), 2, 16) := by kernel_rfl
theorem da_info30 : (Try.prog.info? 30).map (fun i => (i.zero, i.size, i.bytes)) = some (some (.slice none 0 0), 1, 24) := by kernel_rfl
/-- The dasher in memory: its five fields, the row that is open, the rows that are done. -/
def DS (okP : Nat → Prop) (W : World) (base g : Nat) (vD : Value) (kk left : Int) (vO : Value) (xs : List S29) (vS : Value) (ys : List (List S29)) : Prop :=
  W.heap[g]? = some (.cells #[vD, .int .i64 kk, .int .i64 left, vO, vS] 80 (0, 0)) ∧ Kd.R k29 29 W base okP vO xs ∧ Kd.S (Kd.slice 29 k29) 30 W base (fun k_ => okP k_ ∧ some k_ ≠ vO.ownBlock) vS ys
section
variable {okP : Nat → Prop} {W w1 : World} {base g : Nat} {vD : Value} {kk left : Int} {vO : Value} {xs : List S29} {vS : Value} {ys : List (List S29)}
theorem DS.hp (h : DS okP W base g vD kk left vO xs vS ys) : W.heap[g]? = some (.cells #[vD, .int .i64 kk, .int .i64 left, vO, vS] 80 (0, 0)) := h.1
theorem DS.drew (h : DS okP W base g vD kk left vO xs vS ys) : DS okP W.drew base g vD kk left vO xs vS ys := ⟨blk_drew h.1, Kd.R_drew h.2.1, Kd.S_drew h.2.2⟩
theorem DS.below (h : DS okP W base g vD kk left vO xs vS ys) (hb : Below W.heap.size W w1) : DS okP w1 base g vD kk left vO xs vS ys := ⟨blk_below h.1 hb, Kd.R_below h.2.1 hb, Kd.S_below h.2.2 hb⟩
theorem DS.alloc (h : DS okP W base g vD kk left vO xs vS ys) (o : Obj) : DS okP (W.alloc o) base g vD kk left vO xs vS ys := ⟨blk_alloc h.1 o, Kd.R_alloc h.2.1 o, Kd.S_alloc h.2.2 o⟩
theorem DS.mono {okQ : Nat → Prop} (h : DS okP W base g vD kk left vO xs vS ys) (hm : ∀ k, okP k → okQ k) : DS okQ W base g vD kk left vO xs vS ys := ⟨h.1, Kd.R_mono h.2.1 hm, Kd.S_mono h.2.2 (fun k hk => ⟨hm k hk.1, hk.2⟩)⟩
theorem DS.rowO (h : DS okP W base g vD kk left vO xs vS ys) (j : Nat) (u : Value) : Kd.R k29 29 (W.setCell ⟨g, j, none⟩ u) base okP vO xs := Kd.R_mono (Kd.R_far (p := ⟨g, j, none⟩) (Kd.R_types h.2.1 h.1 (by decide)) (fun _ hk => hk.2) u) (fun _ hk => hk.1)
theorem DS.rowS (h : DS okP W base g vD kk left vO xs vS ys) (j : Nat) (u : Value) : Kd.S (Kd.slice 29 k29) 30 (W.setCell ⟨g, j, none⟩ u) base (fun k_ => okP k_ ∧ some k_ ≠ vO.ownBlock) vS ys := Kd.S_mono (Kd.S_far (p := ⟨g, j, none⟩) (Kd.S_types h.2.2 h.1 (by decide)) (fun _ hk => hk.2) u) (fun _ hk => hk.1)
theorem DS.putK (h : DS okP W base g vD kk left vO xs vS ys) (z : Int) : DS okP (W.setCell ⟨g, 1, none⟩ (.int .i64 z)) base g vD z left vO xs vS ys := ⟨blk_put h.1 1 _ rfl, h.rowO 1 _, h.rowS 1 _⟩
theorem DS.putL (h : DS okP W base g vD kk left vO xs vS ys) (z : Int) : DS okP (W.setCell ⟨g, 2, none⟩ (.int .i64 z)) base g vD kk z vO xs vS ys := ⟨blk_put h.1 2 _ rfl, h.rowO 2 _, h.rowS 2 _⟩
theorem DS.nilO (h : DS okP W base g vD kk left vO xs vS ys) : DS okP (W.setCell ⟨g, 3, none⟩ (.slice none 0 0)) base g vD kk left (.slice none 0 0) [] vS ys := ⟨blk_put h.1 3 _ rfl, Kd.R_nil _ _ _ _ _, Kd.S_mono (h.rowS 3 _) (fun _ hk => ⟨hk.1, by simp [Value.ownBlock]⟩)⟩
/-- The open row has grown: it is laid back. -/
theorem DS.putO (h : DS okP W base g vD kk left vO xs vS ys) {v1 : Value} {zs : List S29} (hr : Kd.R k29 29 w1 base okP v1 zs) (hg : W.grownBy w1 vO.ownBlock) (hat : v1.ownBlock = vO.ownBlock ∨ ∃ b, v1.ownBlock = some b ∧ W.heap.size ≤ b) : DS okP (w1.setCell ⟨g, 3, none⟩ v1) base g vD kk left v1 zs vS ys := by
  have hb : w1.heap[g]? = some (.cells #[vD, .int .i64 kk, .int .i64 left, vO, vS] 80 (0, 0)) := blk_grown h.1 hg (Kd.R_ne h.2.1 h.1 (by decide))
  have hS := Kd.S_after (v1 := v1) h.2.2 hg hat
  exact ⟨blk_put hb 3 v1 rfl, Kd.R_mono (Kd.R_far (p := ⟨g, 3, none⟩) (Kd.R_types hr hb (by decide)) (fun _ hk => hk.2) _) (fun _ hk => hk.1), Kd.S_mono (Kd.S_far (p := ⟨g, 3, none⟩) (Kd.S_types hS hb (by decide)) (fun _ hk => hk.2) _) (fun _ hk => hk.1)⟩
/-- The open row is one of those that are done; no row is open. -/
theorem DS.done (h : DS okP W base g vD kk left vO xs vS ys) {v1 : Value} {zs : List (List S29)} (hr : Kd.S (Kd.slice 29 k29) 30 w1 base okP v1 zs) (hb : w1.heap[g]? = some (.cells #[vD, .int .i64 kk, .int .i64 left, vO, vS] 80 (0, 0))) : DS okP ((w1.setCell ⟨g, 4, none⟩ v1).setCell ⟨g, 3, none⟩ (.slice none 0 0)) base g vD kk left (.slice none 0 0) [] v1 zs := by
  have hb2 := blk_put hb 4 v1 rfl
  have h2 := Kd.S_far (p := ⟨g, 4, none⟩) (Kd.S_types hr hb (by decide)) (fun _ hk => hk.2) v1
  have h3 := Kd.S_far (p := ⟨g, 3, none⟩) h2 (fun _ hk => hk.2) (.slice none 0 0)
  exact ⟨blk_put hb2 3 _ rfl, Kd.R_nil _ _ _ _ _, Kd.S_mono h3 (fun _ hk => ⟨hk.1, by simp [Value.ownBlock]⟩)⟩
end
set_option maxHeartbeats 8000000 in
set_option maxRecDepth 100000 in
theorem da_isOn (g : Nat) (vD : Value) (kk left : Int) (vO vS : Value) (w : World) (hb : w.heap[g]? = some (.cells #[vD, .int .i64 kk, .int .i64 left, vO, vS] 80 (0, 0))) :
    Calls Try.prog 51 #[.pointer (some ⟨g, 0, none⟩)] w fun e w' => e = .returned (.bool (Int.tmod kk 2 == 0)) ∧ w' = w := by
  have hu80 := Try.underlying80
  have hx_ : w.cell? ⟨g, 1, none⟩ = some (.int .i64 kk) := (blk_cell hb 1).trans rfl
  have hf_ := blk_frozen hb 1
  clear hb
  go_enter Try.func51, Try.ntmps51
  go_wp2
  go_ret
  exact ⟨rfl, rfl⟩
def da_end.T1 : Bool × List (List Nat × List Nat) := (true, [([], []), ([], []), ([1], [1]), ([2], [2]), ([3], [3]), ([], []), ([5], [5]), ([6], [6]), ([7], [7]), ([8], [8]), ([4, 9], [4, 9]), ([0, 0, 1, 2, 3, 4, 5, 6, 7, 8, 9, 10], [0]), ([11, 0, 1, 2, 3, 4, 5, 6, 7, 8, 9, 10], [11]), ([12, 10, 10, 0, 1, 2, 3, 4, 5, 6, 7, 8, 9, 10], [10, 12])])
def da_end.B1 : List Nat := [0, 0, 2, 6, 14, 0, 32, 96, 224, 480, 1022, 2047, 4095, 8191]
theorem da_end.tab1 : rtab .any (opsOf Try.f53 1) = da_end.T1 := by kernel_rfl
theorem da_end.bits1 : waitsOk da_end.T1.2 da_end.B1 = true := by kernel_rfl
theorem DS.neS {okP : Nat → Prop} {W : World} {base g : Nat} {vD : Value} {kk left : Int} {vO : Value} {xs : List S29} {vS : Value} {ys : List (List S29)} (h : DS okP W base g vD kk left vO xs vS ys) : some g ≠ vS.ownBlock := Kd.R_ne (Kd.S_R h.2.2) h.1 (by decide)
set_option maxHeartbeats 8000000 in
set_option maxRecDepth 100000 in
theorem da_end (okP : Nat → Prop) (g : Nat) (vD : Value) (kk left : Int) (vO : Value) (xs : List S29) (vS : Value) (ys : List (List S29)) (w0 w : World) (hB : Below w0.heap.size w0 w) (hG : w0.heap.size ≤ g) (hF : ∀ k, w.heap.size ≤ k → okP k) (hL : ys.length < 5864062014805) (hd : DS okP w w0.heap.size g vD kk left vO xs vS ys) :
    Calls Try.prog 53 #[.pointer (some ⟨g, 0, none⟩)] w fun e w' => ∃ vS' : Value, e = .returned (.tuple #[]) ∧ DS okP w' w0.heap.size g vD kk left (.slice none 0 0) [] vS' (if xs.length > 1 then ys ++ [xs] else ys) ∧ Below w0.heap.size w0 w' ∧ Kept w w' (fun k_ => k_ = g ∨ okP k_) := by
  have hu80 := Try.underlying80
  obtain ⟨Ao, co, rfl⟩ := Kd.R_slice hd.2.1
  obtain ⟨As, cs, rfl⟩ := Kd.S_slice hd.2.2
  have HD := Aside0.mk hd
  have HB := Aside0.mk hB
  have HG := Aside0.mk hG
  have HF := Aside0.mk hF
  have HL := Aside0.mk hL
  have HZ := Aside0.mk (Nat.le_refl w.heap.size)
  have HK := Aside0.mk (Kept.refl w (fun k_ => k_ = g ∨ okP k_))
  have hx3 : w.cell? ⟨g, 3, none⟩ = some (.slice Ao xs.length co) := (blk_cell hd.1 3).trans rfl
  have hf3 := blk_frozen hd.1 3
  clear hd hB hG hF hL
  go_enter Try.func53, Try.ntmps53
  by_cases c : (xs.length : Int) > 1
  · have cb : decide ((xs.length : Int) > 1) = true := decide_eq_true c
    rw [if_pos (show xs.length > 1 by omega)]
    clear c
    go_wp2
    clear hx3 hf3
    refine start_ (n := 14) (S := fun w' => w'.cell? ⟨g, 3, none⟩ = some (.slice Ao xs.length co) ∧ w'.cell? ⟨g, 4, none⟩ = some (.slice As ys.length cs)) (ds := [13]) #[false, false, false, false, false, false, false, false, false, false, false, false, false, false] (by kernel_rfl) rfl rfl ⟨(blk_cell HD.out.1 3).trans rfl, (blk_cell HD.out.1 4).trans rfl⟩ (fun hHeld => ?_); refine with_tabW da_end.tab1 da_end.bits1 (fun HT_ HW_ => ?_)
    have n0_ := Aside0.mk HD.out.drew
    have n1_ := Aside0.mk HB.out.drew
    have n2_ := Aside0.mk (Kept.drew HK.out)
    have n3_ := Aside0.mk (show w.heap.size ≤ w.drew.heap.size from HZ.out)
    clear HD HB HK HZ
    have HD := n0_
    have HB := n1_
    have HK := n2_
    have HZ := n3_
    clear n0_ n1_ n2_ n3_
    generalize w.drew = w2 at HD HB HK HZ hHeld ⊢
    refine pure_ (i := 0) (N := some 8) (v := ?_) (a' := ?_) #[true, false, false, false, false, false, false, false, false, false, false, false, false, false] rfl rfl (any_of HT_.out (by kernel_rfl)) (fun _ _ _ h => h) (Or.inl ⟨by rfl, ?_⟩) ?_ ?_
    rotate_left
    · intro w'
      go_simp
      with_reducible rfl
    rotate_left
    · simp only [Act.put, List.setIfInBounds_toArray, List.set_cons_zero, List.set_cons_succ, i64_w, i32_w]
      rfl
    refine pure_ (i := 1) (N := some 9) (v := ?_) (a' := ?_) #[true, true, false, false, false, false, false, false, false, false, false, false, false, false] rfl rfl (any_of HT_.out (by kernel_rfl)) (fun _ _ _ h => h) (Or.inl ⟨by rfl, ?_⟩) ?_ ?_
    rotate_left
    · intro w'
      go_simp
      with_reducible rfl
    rotate_left
    · simp only [Act.put, List.setIfInBounds_toArray, List.set_cons_zero, List.set_cons_succ, i64_w, i32_w]
      rfl
    refine pure_ (i := 2) (N := some 10) (v := ?_) (a' := ?_) #[true, true, true, false, false, false, false, false, false, false, false, false, false, false] rfl rfl (any_of HT_.out (by kernel_rfl)) (fun _ _ _ h => h) (Or.inl ⟨by rfl, ?_⟩) ?_ ?_
    rotate_left
    · intro w'
      go_simp
      with_reducible rfl
    rotate_left
    · simp only [Act.put, List.setIfInBounds_toArray, List.set_cons_zero, List.set_cons_succ, i64_w, i32_w]
      rfl
    refine pure_ (i := 3) (N := some 11) (v := ?_) (a' := ?_) #[true, true, true, true, false, false, false, false, false, false, false, false, false, false] rfl rfl (any_of HT_.out (by kernel_rfl)) (fun _ _ _ h => h) (Or.inl ⟨by rfl, ?_⟩) ?_ ?_
    rotate_left
    · intro w'
      go_simp
      with_reducible rfl
    rotate_left
    · simp only [Act.put, List.setIfInBounds_toArray, List.set_cons_zero, List.set_cons_succ, i64_w, i32_w]
      rfl
    refine pure_ (i := 5) (N := some 13) (v := ?_) (a' := ?_) #[true, true, true, true, false, true, false, false, false, false, false, false, false, false] rfl rfl (any_of HT_.out (by kernel_rfl)) (fun _ _ _ h => h) (Or.inl ⟨by rfl, ?_⟩) ?_ ?_
    rotate_left
    · intro w'
      go_simp
      with_reducible rfl
    rotate_left
    · simp only [Act.put, List.setIfInBounds_toArray, List.set_cons_zero, List.set_cons_succ, i64_w, i32_w]
      rfl
    refine pure_ (i := 6) (N := some 14) (v := ?_) (a' := ?_) #[true, true, true, true, false, true, true, false, false, false, false, false, false, false] rfl rfl (any_of HT_.out (by kernel_rfl)) (fun _ _ _ h => h) (Or.inl ⟨by rfl, ?_⟩) ?_ ?_
    rotate_left
    · intro w'
      go_simp
      with_reducible rfl
    rotate_left
    · simp only [Act.put, List.setIfInBounds_toArray, List.set_cons_zero, List.set_cons_succ, i64_w, i32_w]
      rfl
    refine pure_ (i := 7) (N := some 15) (v := ?_) (a' := ?_) #[true, true, true, true, false, true, true, true, false, false, false, false, false, false] rfl rfl (any_of HT_.out (by kernel_rfl)) (fun _ _ _ h => h) (Or.inl ⟨by rfl, ?_⟩) ?_ ?_
    rotate_left
    · intro w'
      go_simp
      with_reducible rfl
    rotate_left
    · simp only [Act.put, List.setIfInBounds_toArray, List.set_cons_zero, List.set_cons_succ, i64_w, i32_w]
      rfl
    refine take_ (i := 4) (N := some 12) (v := ?_) (a' := ?_) #[true, true, true, true, true, true, true, true, false, false, false, false, false, false] rfl rfl (take_ofW HT_.out HW_.out (by kernel_rfl)) (fun _ _ _ h => h) (Or.inl ⟨by rfl, ?_⟩) hHeld ?_ ?_
    rotate_left
    · rintro w' ⟨s0, s1⟩
      go_simp
      with_reducible rfl
    rotate_left
    · simp only [Act.put, List.setIfInBounds_toArray, List.set_cons_zero, List.set_cons_succ, i64_w, i32_w]
      rfl
    refine take_ (i := 8) (N := some 16) (v := ?_) (a' := ?_) #[true, true, true, true, true, true, true, true, true, false, false, false, false, false] rfl rfl (take_ofW HT_.out HW_.out (by kernel_rfl)) (fun _ _ _ h => h) (Or.inl ⟨by rfl, ?_⟩) hHeld ?_ ?_
    rotate_left
    · rintro w' ⟨s0, s1⟩
      go_simp
      with_reducible rfl
    rotate_left
    · simp only [Act.put, List.setIfInBounds_toArray, List.set_cons_zero, List.set_cons_succ, i64_w, i32_w]
      rfl
    refine one_ (i := 9) (N := some 17) #[true, true, true, true, true, true, true, true, true, true, false, false, false, false] rfl rfl (one_of HT_.out (by kernel_rfl)) (by decide) (fun K hK => ?_)
    refine value_ (w1 := ?_) (v := ?_) (by rfl) rfl ?_ ?_
    rotate_left 2
    · go_simp
      constructor
      · rfl
      · rfl
    refine hK.out _ _ ⟨(blk_cell (blk_alloc HD.out.1 _) 3).trans rfl, (blk_cell (blk_alloc HD.out.1 _) 4).trans rfl⟩ (fun hHeld => ?_)
    clear hK K
    refine norm_ (a' := ?_) ?_ ?_
    rotate_left
    · show Act.put _ (some 17) _ = _
      simp only [Act.put, List.setIfInBounds_toArray, List.set_cons_zero, List.set_cons_succ, i64_w, i32_w]
      rfl
    refine one_ (i := 10) (N := some 18) #[true, true, true, true, true, true, true, true, true, true, true, false, false, false] rfl rfl (one_of HT_.out (by kernel_rfl)) (by decide) (fun K hK => ?_)
    refine Kd.S_append_step (Kd.slice 29 k29) (w0 := w0) w0.heap.size (by rfl) (.tmp 12) (.tmp 17) 26 30 (.slice none 0 0) 24 rfl Try.underlying26 da_info30 rfl (by decide) (by omega) (.slice As ys.length cs) ys xs [.slice Ao xs.length co] okP (fun k_ => some k_ = (.slice Ao xs.length co : Value).ownBlock) rfl rfl ?aP ?aK ?aF ?aO ?aB ?aS ?aL ?_
    (case aP => exact Kd.M_row (Kd.R_tight rfl HD.out.2.1))
    (case aK => exact fun k_ hk_ => ⟨HD.out.2.1.1 k_ hk_.symm, by obtain ⟨cells, hc⟩ := Kd.R_typed HD.out.2.1 k_ hk_.symm; exact Kd.R_ne (Kd.S_R HD.out.2.2) hc (by decide)⟩)
    (case aF => exact fun k_ hk => HF.out k_ (Nat.le_trans HZ.out hk))
    (case aO => exact Kd.S_mono HD.out.2.2 (fun k_ hk => ⟨hk.1, hk.2⟩))
    (case aB => exact HB.out)
    (case aS => exact HB.out.size)
    (case aL => have := HL.out; omega)
    intro v1 w3 ho hb hg hat
    obtain ⟨zs, hz_⟩ : ∃ zs : List (List S29), zs = ys ++ [xs] := ⟨_, rfl⟩
    rw [← hz_] at ho
    have HZS := Aside0.mk hz_
    clear hz_
    have HD1 := Aside0.mk (blk_grown HD.out.1 hg (DS.neS HD.out))
    have HS1 := Aside0.mk ho
    have n1_ := Aside0.mk hb
    have n2_ := Aside0.mk (Kept.of_grown (S := (fun k_ => k_ = g ∨ okP k_)) hg HK.out (fun k_ e_ => .inl (.inr ((Kd.S_R HD.out.2.2).1 k_ e_).1)))
    clear HB HK
    have HB := n1_
    have HK := n2_
    clear n1_ n2_ hg hat ho hb
    obtain ⟨A1, c1, ev1⟩ := Kd.S_slice HS1.out
    subst ev1
    refine hK.out _ _ ⟨(blk_cell HD1.out 3).trans rfl, (blk_cell HD1.out 4).trans rfl⟩ (fun hHeld => ?_)
    clear hK K
    refine norm_ (a' := ?_) ?_ ?_
    rotate_left
    · show Act.put _ (some 18) _ = _
      simp only [Act.put, List.setIfInBounds_toArray, List.set_cons_zero, List.set_cons_succ, i64_w, i32_w]
      rfl
    refine pure_ (i := 11) (N := some 19) (v := ?_) (a' := ?_) #[true, true, true, true, true, true, true, true, true, true, true, true, false, false] rfl rfl (any_of HT_.out (by kernel_rfl)) (fun _ _ _ h => h) (Or.inl ⟨by rfl, ?_⟩) ?_ ?_
    rotate_left
    · intro w'
      go_simp
      with_reducible rfl
    rotate_left
    · simp only [Act.put, List.setIfInBounds_toArray, List.set_cons_zero, List.set_cons_succ, i64_w, i32_w]
      rfl
    refine pure_ (i := 12) (N := some 20) (v := ?_) (a' := ?_) #[true, true, true, true, true, true, true, true, true, true, true, true, true, false] rfl rfl (any_of HT_.out (by kernel_rfl)) (fun _ _ _ h => h) (Or.inl ⟨by rfl, ?_⟩) ?_ ?_
    rotate_left
    · intro w'
      go_simp
      with_reducible rfl
    rotate_left
    · simp only [Act.put, List.setIfInBounds_toArray, List.set_cons_zero, List.set_cons_succ, i64_w, i32_w]
      rfl
    refine last_ (i := 13) (N := none) #[true, true, true, true, true, true, true, true, true, true, true, true, true, true] rfl rfl (one_of HT_.out (by kernel_rfl)) (by decide) (fun K hK => ?_)
    have hx_ : w3.cell? ⟨g, 4, none⟩ = some (.slice As ys.length cs) := hHeld.2
    have hf_ := blk_frozen HD1.out 4
    refine skip_ (w1 := ?_) ?hwx ?hN ?_ ?_; (case hwx => rfl); (case hN => rfl)
    rotate_left
    · go_simp
      rfl
    refine hK.out _ _ ?_
    clear hK K
    refine done_ (done_of HT_.out (by kernel_rfl)) ?_
    have hx3 : (w3.setCell ⟨g, 4, none⟩ (.slice A1 zs.length c1)).cell? ⟨g, 3, none⟩ = some (.slice Ao xs.length co) := (blk_cell (blk_put HD1.out 4 _ rfl) 3).trans rfl
    have hf3 : (w3.setCell ⟨g, 4, none⟩ (.slice A1 zs.length c1)).frozen? ⟨g, 3, none⟩ = false := blk_frozen (blk_put HD1.out 4 _ rfl) 3
    have hf3_ := blk_frozen HD1.out 3
    go_wp2
    go_end0
    rw [← HZS.out]
    exact ⟨_, rfl, DS.done HD.out HS1.out HD1.out, below_set (below_set HB.out HG.out) HG.out, Kept.setCell (p := ⟨g, 3, none⟩) (Kept.setCell (p := ⟨g, 4, none⟩) HK.out (.inl (.inl rfl)) _) (.inl (.inl rfl)) _⟩
  · have cb : decide ((xs.length : Int) > 1) = false := decide_eq_false c
    rw [if_neg (show ¬ xs.length > 1 by omega)]
    clear c
    go_wp2
    go_end0
    exact ⟨_, rfl, HD.out.nilO, below_set HB.out HG.out, Kept.setCell (p := ⟨g, 3, none⟩) HK.out (.inl (.inl rfl)) _⟩
section
variable {okP : Nat → Prop} {W w1 : World} {base g : Nat} {vD : Value} {kk left : Int} {vO : Value} {xs : List S29} {vS : Value} {ys : List (List S29)}
theorem DS.fresh (h : DS okP W base g vD kk left vO xs vS ys) {a : Nat} (ha : a = W.heap.size) : DS (fun k_ => okP k_ ∧ k_ ≠ a) W base g vD kk left vO xs vS ys :=
  ⟨h.1, Kd.R_mono (Kd.R_bound h.2.1) (fun k hk => ⟨hk.1, fun e => by have := hk.2.2.1; omega⟩), Kd.S_mono (Kd.S_bound h.2.2) (fun k hk => ⟨⟨hk.1.1, fun e => by have := hk.2.2.1; omega⟩, hk.1.2⟩)⟩
end
def da_piece.T6 : Bool × List (List Nat × List Nat) := (true, [([], []), ([], []), ([1], [1]), ([2], [2]), ([3], [3]), ([], []), ([], []), ([], []), ([], []), ([5, 6, 7, 8], [5, 6, 7, 8]), ([9], [9]), ([4, 10, 9], [4, 10]), ([0, 0, 1, 2, 3, 4, 5, 6, 7, 8, 9, 10, 11], [0]), ([12, 0, 1, 2, 3, 4, 5, 6, 7, 8, 9, 10, 11], [12]), ([13, 11, 11, 0, 1, 2, 3, 4, 5, 6, 7, 8, 9, 10, 11], [11, 13])])
def da_piece.B6 : List Nat := [0, 0, 2, 6, 14, 0, 0, 0, 0, 480, 992, 2046, 4095, 8191, 16383]
theorem da_piece.tab6 : rtab .any (opsOf Try.f52 6) = da_piece.T6 := by kernel_rfl
theorem da_piece.bits6 : waitsOk da_piece.T6.2 da_piece.B6 = true := by kernel_rfl
def da_piece.T9 : Bool × List (List Nat × List Nat) := (true, [([], []), ([], []), ([1], [1]), ([2], [2]), ([3], [3]), ([4], [4]), ([], []), ([6], [6]), ([7], [7]), ([8], [8]), ([9], [9]), ([5, 10], [5, 10]), ([0, 0, 1, 2, 3, 4, 5, 6, 7, 8, 9, 10, 11], [0]), ([12, 0, 1, 2, 3, 4, 5, 6, 7, 8, 9, 10, 11], [12]), ([13, 11, 0, 1, 2, 3, 4, 5, 6, 7, 8, 9, 10, 11], [11, 13])])
def da_piece.B9 : List Nat := [0, 0, 2, 6, 14, 30, 0, 64, 192, 448, 960, 2046, 4095, 8191, 16383]
theorem da_piece.tab9 : rtab .any (opsOf Try.f52 9) = da_piece.T9 := by kernel_rfl
theorem da_piece.bits9 : waitsOk da_piece.T9.2 da_piece.B9 = true := by kernel_rfl
def da_piece.T10 : Bool × List (List Nat × List Nat) := (true, [([], []), ([], []), ([1], [1]), ([2], [2]), ([3], [3]), ([], []), ([5], [5]), ([6], [6]), ([7], [7]), ([4, 8], [4, 8]), ([9], [9]), ([0, 0, 1, 2, 3, 4, 5, 6, 7, 8, 9, 10], [0]), ([11, 0, 1, 2, 3, 4, 5, 6, 7, 8, 9, 10], [11]), ([12, 10, 0, 1, 2, 3, 4, 5, 6, 7, 8, 9, 10], [10, 12])])
def da_piece.B10 : List Nat := [0, 0, 2, 6, 14, 0, 32, 96, 224, 510, 1022, 2047, 4095, 8191]
theorem da_piece.tab10 : rtab .any (opsOf Try.f52 10) = da_piece.T10 := by kernel_rfl
theorem da_piece.bits10 : waitsOk da_piece.T10.2 da_piece.B10 = true := by kernel_rfl
def da_piece.T13 : Bool × List (List Nat × List Nat) := (true, [([], []), ([], []), ([1], [1]), ([2], [2]), ([3], [3]), ([], []), ([5], [5]), ([4, 6], [4, 6]), ([0, 0, 1, 2, 3, 4, 5, 6, 7], [0]), ([8, 0, 1, 2, 3, 4, 5, 6, 7], [8]), ([9, 7, 7, 0, 1, 2, 3, 4, 5, 6, 7], [7, 9])])
def da_piece.B13 : List Nat := [0, 0, 2, 6, 14, 0, 32, 126, 255, 511, 1023]
theorem da_piece.tab13 : rtab .any (opsOf Try.f52 13) = da_piece.T13 := by kernel_rfl
theorem da_piece.bits13 : waitsOk da_piece.T13.2 da_piece.B13 = true := by kernel_rfl
set_option maxHeartbeats 8000000 in
set_option maxRecDepth 100000 in
theorem da_piece (k : Nat) (okP : Nat → Prop) (g : Nat) (AD : Option Addr) (cD : Nat) (ds : List Int) (ax ay bx by_ kk left : Int) (vO : Value) (xs : List S29) (vS : Value) (ys : List (List S29)) (r1 r2 : Int) (r3 : List S29) (r4 : List (List S29)) (w0 w : World) (hB : Below w0.heap.size w0 w) (hG : w0.heap.size ≤ g) (hF : ∀ k, w.heap.size ≤ k → okP k) (hC : Kd.C (Kd.int .i64) w0 AD ds.length ds) (hd : DS okP w w0.heap.size g (.slice AD ds.length cD) kk left vO xs vS ys) (h : impl_dasher_piece.f k ds ax ay bx by_ kk left xs ys = some (r1, r2, r3, r4)) :
    Calls Try.prog 52 #[.pointer (some ⟨g, 0, none⟩), .agg #[.int .i64 ax, .int .i64 ay], .agg #[.int .i64 bx, .int .i64 by_]] w fun e w' => ∃ vO' vS' : Value, e = .returned (.tuple #[]) ∧ DS okP w' w0.heap.size g (.slice AD ds.length cD) r1 r2 vO' r3 vS' r4 ∧ Below w0.heap.size w0 w' ∧ Kept w w' (fun k_ => k_ = g ∨ okP k_) := by
  have hu80 := Try.underlying80
  have hu29 := Try.underlying29
  obtain ⟨Ao, co, rfl⟩ := Kd.R_slice hd.2.1
  obtain ⟨As, cs, rfl⟩ := Kd.S_slice hd.2.2
  have HD := Aside0.mk hd
  have HB := Aside0.mk hB
  have HG := Aside0.mk hG
  have HF := Aside0.mk hF
  have HC := Aside0.mk hC
  have HZ := Aside0.mk (Nat.le_refl w.heap.size)
  have HK := Aside0.mk (Kept.refl w (fun k_ => k_ = g ∨ okP k_))
  have H : (impl_LengthOf.f k ax ay bx by_).bind (fun n => if n = 0 then some (kk, left, xs, ys) else impl_dasher_piece.l0 k ds ax ay bx by_ n 0 kk left xs ys) = some (r1, r2, r3, r4) := h
  clear hd hB hG hF hC h
  replace H := Option.bind_eq_some_iff.mp H
  obtain ⟨n, A00, H⟩ := H
  have A0 := Aside0.mk A00
  clear A00
  have H' := Aside0.mk H
  clear H
  go_enter Try.func52, Try.ntmps52
  by_cases cn : n = 0
  · have cb : decide (n = 0) = true := decide_eq_true cn
    have cb2 : (n == 0) = true := by simp [cn]
    replace H' := Aside0.mk ((if_pos cn).symm.trans H'.out)
    clear cn
    go_wp2_with (first | ((with_reducible refine gate_dst (N := 4) rfl ?_); refine box_event ?hg (N := 4) ?hd (cs := #[.int .i64 ax, .int .i64 ay]) (t := 29) ?hr ?_; (case hd => rfl); (case hg => rfl); (case hr => first | (go_simp; done) | (go_simp; rfl)); intro ga hg w7 hbox hb; have n0_ := Aside0.mk ((HD.out.fresh hg).below hb); have n1_ := Aside0.mk (Kept.below HK.out hb); have n2_ := Aside0.mk (below_then HB.out HB.out.size hb); have n3_ := Aside0.mk (Nat.le_trans HZ.out hb.size); clear HD HK HB HZ; have HD := n0_; have HK := n1_; have HB := n2_; have HZ := n3_; clear n0_ n1_ n2_ n3_; have BA := Aside0.mk hbox; clear hb hbox hg) | ((with_reducible refine gate_dst (N := 5) rfl ?_); refine box_event ?hg (N := 5) ?hd (cs := #[.int .i64 bx, .int .i64 by_]) (t := 29) ?hr ?_; (case hd => rfl); (case hg => rfl); (case hr => first | (go_simp; done) | (go_simp; rfl)); intro gb hg w8 hbox hb; have n0_ := Aside0.mk ((HD.out.fresh hg).below hb); have n1_ := Aside0.mk (Kept.below HK.out hb); have n2_ := Aside0.mk (below_then HB.out HB.out.size hb); have n3_ := Aside0.mk (Nat.le_trans HZ.out hb.size); have n4_ := Aside0.mk (blk_below BA.out hb); clear HD HK HB HZ BA; have HD := n0_; have HK := n1_; have HB := n2_; have HZ := n3_; have BA := n4_; clear n0_ n1_ n2_ n3_ n4_; have BB := Aside0.mk hbox; clear hb hbox hg; have ha0_ : w8.cell? ⟨ga, 0, none⟩ = some (.int .i64 ax) := (blk_cell BA.out 0).trans rfl; have ha1_ : w8.cell? ⟨ga, 1, none⟩ = some (.int .i64 ay) := (blk_cell BA.out 1).trans rfl; have hb0_ : w8.cell? ⟨gb, 0, none⟩ = some (.int .i64 bx) := (blk_cell BB.out 0).trans rfl; have hb1_ : w8.cell? ⟨gb, 1, none⟩ = some (.int .i64 by_) := (blk_cell BB.out 1).trans rfl) | ((with_reducible refine gate_callee (f := 83) rfl ?_); refine goesL_ (some 10) rfl rfl Try.func83 (by kernel_rfl) rfl #[.agg #[.int .i64 ax, .int .i64 ay], .agg #[.int .i64 bx, .int .i64 by_]] rfl (by (try simp only [List.map_toArray, List.map_cons, List.map_nil]); first | done | rfl) ?_; (with_reducible refine (impl_LengthOf.calls k ax ay bx by_ n _ A0.out).mono ?_); rintro e w9 ⟨rfl, hb⟩; refine ⟨_, rfl, ?_⟩; have n0_ := Aside0.mk (HD.out.below hb); have n1_ := Aside0.mk (blk_below BA.out hb); have n2_ := Aside0.mk (blk_below BB.out hb); have n3_ := Aside0.mk (below_then HB.out HB.out.size hb); have n4_ := Aside0.mk (Kept.below HK.out hb); have n5_ := Aside0.mk (Nat.le_trans HZ.out hb.size); clear HD BA BB HB HK HZ; have HD := n0_; have BA := n1_; have BB := n2_; have HB := n3_; have HK := n4_; have HZ := n5_; clear n0_ n1_ n2_ n3_ n4_ n5_; clear ha0_ ha1_ hb0_ hb1_ hb))
    have H := Option.some.inj H'.out
    simp only [Prod.mk.injEq] at H
    obtain ⟨rfl, rfl, rfl, rfl⟩ := H
    refine bodyPost_ret (results_none rfl _ _ _) rfl ?_
    exact ⟨_, _, rfl, HD.out.mono (fun _ hk => hk.1.1), HB.out, HK.out⟩
  · have cb : decide (n = 0) = false := decide_eq_false cn
    have cb2 : (n == 0) = false := by simp [cn]
    replace H' := Aside0.mk ((if_neg cn).symm.trans H'.out)
    clear cn
    go_wp2_with (first | ((with_reducible refine gate_dst (N := 4) rfl ?_); refine box_event ?hg (N := 4) ?hd (cs := #[.int .i64 ax, .int .i64 ay]) (t := 29) ?hr ?_; (case hd => rfl); (case hg => rfl); (case hr => first | (go_simp; done) | (go_simp; rfl)); intro ga hg w7 hbox hb; have n0_ := Aside0.mk ((HD.out.fresh hg).below hb); have n1_ := Aside0.mk (Kept.below HK.out hb); have n2_ := Aside0.mk (below_then HB.out HB.out.size hb); have n3_ := Aside0.mk (Nat.le_trans HZ.out hb.size); clear HD HK HB HZ; have HD := n0_; have HK := n1_; have HB := n2_; have HZ := n3_; clear n0_ n1_ n2_ n3_; have BA := Aside0.mk hbox; clear hb hbox hg) | ((with_reducible refine gate_dst (N := 5) rfl ?_); refine box_event ?hg (N := 5) ?hd (cs := #[.int .i64 bx, .int .i64 by_]) (t := 29) ?hr ?_; (case hd => rfl); (case hg => rfl); (case hr => first | (go_simp; done) | (go_simp; rfl)); intro gb hg w8 hbox hb; have n0_ := Aside0.mk ((HD.out.fresh hg).below hb); have n1_ := Aside0.mk (Kept.below HK.out hb); have n2_ := Aside0.mk (below_then HB.out HB.out.size hb); have n3_ := Aside0.mk (Nat.le_trans HZ.out hb.size); have n4_ := Aside0.mk (blk_below BA.out hb); clear HD HK HB HZ BA; have HD := n0_; have HK := n1_; have HB := n2_; have HZ := n3_; have BA := n4_; clear n0_ n1_ n2_ n3_ n4_; have BB := Aside0.mk hbox; clear hb hbox hg; have ha0_ : w8.cell? ⟨ga, 0, none⟩ = some (.int .i64 ax) := (blk_cell BA.out 0).trans rfl; have ha1_ : w8.cell? ⟨ga, 1, none⟩ = some (.int .i64 ay) := (blk_cell BA.out 1).trans rfl; have hb0_ : w8.cell? ⟨gb, 0, none⟩ = some (.int .i64 bx) := (blk_cell BB.out 0).trans rfl; have hb1_ : w8.cell? ⟨gb, 1, none⟩ = some (.int .i64 by_) := (blk_cell BB.out 1).trans rfl) | ((with_reducible refine gate_callee (f := 83) rfl ?_); refine goesL_ (some 10) rfl rfl Try.func83 (by kernel_rfl) rfl #[.agg #[.int .i64 ax, .int .i64 ay], .agg #[.int .i64 bx, .int .i64 by_]] rfl (by (try simp only [List.map_toArray, List.map_cons, List.map_nil]); first | done | rfl) ?_; (with_reducible refine (impl_LengthOf.calls k ax ay bx by_ n _ A0.out).mono ?_); rintro e w9 ⟨rfl, hb⟩; refine ⟨_, rfl, ?_⟩; have n0_ := Aside0.mk (HD.out.below hb); have n1_ := Aside0.mk (blk_below BA.out hb); have n2_ := Aside0.mk (blk_below BB.out hb); have n3_ := Aside0.mk (below_then HB.out HB.out.size hb); have n4_ := Aside0.mk (Kept.below HK.out hb); have n5_ := Aside0.mk (Nat.le_trans HZ.out hb.size); clear HD BA BB HB HK HZ; have HD := n0_; have BA := n1_; have BB := n2_; have HB := n3_; have HK := n4_; have HZ := n5_; clear n0_ n1_ n2_ n3_ n4_ n5_; clear ha0_ ha1_ hb0_ hb1_ hb))
    go_loopg [7] k (fun kq v7 w' => ∃ (at_ kk left : Int) (Ao : Option Addr) (co : Nat) (xs : List S29) (As : Option Addr) (cs : Nat) (ys : List (List S29)), v7 = .int .i64 at_ ∧ Aside0 (impl_dasher_piece.l0 kq ds ax ay bx by_ n at_ kk left xs ys = some (r1, r2, r3, r4)) ∧ Aside0 (kq ≤ k) ∧ Aside0 (DS (fun k_ => (okP k_ ∧ k_ ≠ ga) ∧ k_ ≠ gb) w' w0.heap.size g (.slice AD ds.length cD) kk left (.slice Ao xs.length co) xs (.slice As ys.length cs) ys) ∧ Aside0 (w'.heap[ga]? = some (.cells #[.int .i64 ax, .int .i64 ay] 29 (0, 0))) ∧ Aside0 (w'.heap[gb]? = some (.cells #[.int .i64 bx, .int .i64 by_] 29 (0, 0))) ∧ Aside0 (Below w0.heap.size w0 w') ∧ Aside0 (Kept w w' (fun k_ => k_ = g ∨ okP k_)) ∧ Aside0 (w.heap.size ≤ w'.heap.size))
    case atStart => exact ⟨0, kk, left, _, _, xs, _, _, ys, rfl, H', ⟨Nat.le_refl _⟩, HD, BA, BB, HB, HK, HZ⟩
    case round =>
      clear HD BA BB HB HK HZ H'
      try clear p2
      obtain ⟨at_, kk, left, Ao, co, xs, As, cs, ys, rfl, HA, HK1, HD, BA, BB, HB, HK, HZ⟩ := hrel
      cases gk with
      | zero => exact absurd HA.out (by simp [impl_dasher_piece.l0])
      | succ k1 =>
        have H := HA.out
        clear HA
        simp only [impl_dasher_piece.l0] at H
        by_cases c4 : wrap64 (n - at_) > left
        · rw [if_pos c4] at H
          have c4b : decide (wrap64 (n - at_) > left) = true := decide_eq_true c4
          clear c4
          replace H := Option.bind_eq_some_iff.mp H
          obtain ⟨⟨p0, p1⟩, A10, H⟩ := H
          have A1 := Aside0.mk A10
          clear A10
          by_cases cx : xs.length < 8796093022208
          · rw [if_pos cx] at H
            have HXL := Aside0.mk cx
            clear cx
            by_cases cy : ys.length < 5864062014805
            · rw [if_pos cy] at H
              have HYL := Aside0.mk cy
              clear cy
              by_cases c0 : (ds.length : Int) = 0
              · rw [if_pos c0] at H; exact absurd H (by simp)
              · rw [if_neg c0] at H
                have c0b : decide ((ds.length : Int) = 0) = false := decide_eq_false c0
                have c0c : ((ds.length : Int) == 0) = false := beq_eq_false_iff_ne.mpr c0
                have c0e : (ds = []) = False := eq_false (fun e_ => c0 (by rw [e_]; rfl))
                clear c0
                by_cases c1 : 0 ≤ (Int.tmod (wrap64 (kk + 1)) (ds.length : Int))
                · rw [if_pos c1] at H
                  by_cases c2 : (Int.tmod (wrap64 (kk + 1)) (ds.length : Int)) < (ds.length : Int)
                  · rw [if_pos c2] at H
                    obtain ⟨adD, eD, hxD_⟩ := Kd.at_int HC.out (Int.tmod (wrap64 (kk + 1)) (ds.length : Int)) c1 c2
                    cases eD
                    have hxD := Aside0.mk hxD_
                    clear hxD_
                    have c1b := eq_true c1
                    have c2b := eq_true c2
                    clear c1 c2
                    by_cases ck : Int.tmod kk 2 = 0
                    · rw [if_pos ck] at H
                      have ckb : (Int.tmod kk 2 == 0) = true := by rw [ck]; rfl
                      clear ck
                      have H' := Aside0.mk H
                      clear H
                      have hx0_ : wr.cell? ⟨g, 0, none⟩ = some (.slice (some adD) ds.length cD) := (blk_cell HD.out.1 0).trans rfl
                      have hx1_ : wr.cell? ⟨g, 1, none⟩ = some (.int .i64 kk) := (blk_cell HD.out.1 1).trans rfl
                      have hx2_ : wr.cell? ⟨g, 2, none⟩ = some (.int .i64 left) := (blk_cell HD.out.1 2).trans rfl
                      have hx3_ : wr.cell? ⟨g, 3, none⟩ = some (.slice Ao xs.length co) := (blk_cell HD.out.1 3).trans rfl
                      have hx4_ : wr.cell? ⟨g, 4, none⟩ = some (.slice As ys.length cs) := (blk_cell HD.out.1 4).trans rfl
                      have hf1_ := blk_frozen HD.out.1 1
                      have hf2_ := blk_frozen HD.out.1 2
                      have hf3_ := blk_frozen HD.out.1 3
                      go_wp2
                      clear hx0_ hx1_ hx2_ hx3_ hx4_ hf1_ hf2_ hf3_
                      refine start_ (n := 15) (S := fun w' => w'.cell? ⟨g, 3, none⟩ = some (.slice Ao xs.length co) ∧ w'.cell? ⟨ga, 0, none⟩ = some (.int .i64 ax) ∧ w'.cell? ⟨ga, 1, none⟩ = some (.int .i64 ay) ∧ w'.cell? ⟨gb, 0, none⟩ = some (.int .i64 bx) ∧ w'.cell? ⟨gb, 1, none⟩ = some (.int .i64 by_)) (ds := [14]) #[false, false, false, false, false, false, false, false, false, false, false, false, false, false, false] (by kernel_rfl) rfl rfl ⟨(blk_cell HD.out.1 3).trans rfl, (blk_cell BA.out 0).trans rfl, (blk_cell BA.out 1).trans rfl, (blk_cell BB.out 0).trans rfl, (blk_cell BB.out 1).trans rfl⟩ (fun hHeld => ?_); refine with_tabW da_piece.tab6 da_piece.bits6 (fun HT_ HW_ => ?_)
                      have n0_ := Aside0.mk (HD.out.drew)
                      have n1_ := Aside0.mk (blk_drew BA.out)
                      have n2_ := Aside0.mk (blk_drew BB.out)
                      have n3_ := Aside0.mk (HB.out.drew)
                      have n4_ := Aside0.mk (Kept.drew HK.out)
                      have n5_ := Aside0.mk (show w.heap.size ≤ wr.drew.heap.size from HZ.out)
                      clear HD BA BB HB HK HZ
                      have HD := n0_
                      have BA := n1_
                      have BB := n2_
                      have HB := n3_
                      have HK := n4_
                      have HZ := n5_
                      clear n0_ n1_ n2_ n3_ n4_ n5_
                      generalize wr.drew = w10 at HD BA BB HB HK HZ hHeld ⊢
                      refine pure_ (i := 0) (N := some 27) (v := ?_) (a' := ?_) #[true, false, false, false, false, false, false, false, false, false, false, false, false, false, false] rfl rfl (any_of HT_.out (by kernel_rfl)) (fun _ _ _ h => h) (Or.inl ⟨by rfl, ?_⟩) ?_ ?_
                      rotate_left
                      · intro w'
                        go_simp
                        with_reducible rfl
                      rotate_left
                      · simp only [Act.put, List.setIfInBounds_toArray, List.set_cons_zero, List.set_cons_succ, i64_w, i32_w]
                        rfl
                      refine pure_ (i := 1) (N := some 28) (v := ?_) (a' := ?_) #[true, true, false, false, false, false, false, false, false, false, false, false, false, false, false] rfl rfl (any_of HT_.out (by kernel_rfl)) (fun _ _ _ h => h) (Or.inl ⟨by rfl, ?_⟩) ?_ ?_
                      rotate_left
                      · intro w'
                        go_simp
                        with_reducible rfl
                      rotate_left
                      · simp only [Act.put, List.setIfInBounds_toArray, List.set_cons_zero, List.set_cons_succ, i64_w, i32_w]
                        rfl
                      refine pure_ (i := 2) (N := some 29) (v := ?_) (a' := ?_) #[true, true, true, false, false, false, false, false, false, false, false, false, false, false, false] rfl rfl (any_of HT_.out (by kernel_rfl)) (fun _ _ _ h => h) (Or.inl ⟨by rfl, ?_⟩) ?_ ?_
                      rotate_left
                      · intro w'
                        go_simp
                        with_reducible rfl
                      rotate_left
                      · simp only [Act.put, List.setIfInBounds_toArray, List.set_cons_zero, List.set_cons_succ, i64_w, i32_w]
                        rfl
                      refine pure_ (i := 3) (N := some 30) (v := ?_) (a' := ?_) #[true, true, true, true, false, false, false, false, false, false, false, false, false, false, false] rfl rfl (any_of HT_.out (by kernel_rfl)) (fun _ _ _ h => h) (Or.inl ⟨by rfl, ?_⟩) ?_ ?_
                      rotate_left
                      · intro w'
                        go_simp
                        with_reducible rfl
                      rotate_left
                      · simp only [Act.put, List.setIfInBounds_toArray, List.set_cons_zero, List.set_cons_succ, i64_w, i32_w]
                        rfl
                      refine pure_ (i := 7) (N := some 34) (v := ?_) (a' := ?_) #[true, true, true, true, false, false, false, true, false, false, false, false, false, false, false] rfl rfl (any_of HT_.out (by kernel_rfl)) (fun _ _ _ h => h) (Or.inl ⟨by rfl, ?_⟩) ?_ ?_
                      rotate_left
                      · intro w'
                        go_simp
                        with_reducible rfl
                      rotate_left
                      · simp only [Act.put, List.setIfInBounds_toArray, List.set_cons_zero, List.set_cons_succ, i64_w, i32_w]
                        rfl
                      refine pure_ (i := 8) (N := some 35) (v := ?_) (a' := ?_) #[true, true, true, true, false, false, false, true, true, false, false, false, false, false, false] rfl rfl (any_of HT_.out (by kernel_rfl)) (fun _ _ _ h => h) (Or.inl ⟨by rfl, ?_⟩) ?_ ?_
                      rotate_left
                      · intro w'
                        go_simp
                        with_reducible rfl
                      rotate_left
                      · simp only [Act.put, List.setIfInBounds_toArray, List.set_cons_zero, List.set_cons_succ, i64_w, i32_w]
                        rfl
                      refine take_ (i := 4) (N := some 31) (v := ?_) (a' := ?_) #[true, true, true, true, true, false, false, true, true, false, false, false, false, false, false] rfl rfl (take_ofW HT_.out HW_.out (by kernel_rfl)) (fun _ _ _ h => h) (Or.inl ⟨by rfl, ?_⟩) hHeld ?_ ?_
                      rotate_left
                      · rintro w' ⟨s0, s1, s2, s3, s4⟩
                        go_simp
                        with_reducible rfl
                      rotate_left
                      · simp only [Act.put, List.setIfInBounds_toArray, List.set_cons_zero, List.set_cons_succ, i64_w, i32_w]
                        rfl
                      refine take_ (i := 5) (N := some 32) (v := ?_) (a' := ?_) #[true, true, true, true, true, true, false, true, true, false, false, false, false, false, false] rfl rfl (take_ofW HT_.out HW_.out (by kernel_rfl)) (fun _ _ _ h => h) (Or.inl ⟨by rfl, ?_⟩) hHeld ?_ ?_
                      rotate_left
                      · rintro w' ⟨s0, s1, s2, s3, s4⟩
                        go_simp
                        with_reducible rfl
                      rotate_left
                      · simp only [Act.put, List.setIfInBounds_toArray, List.set_cons_zero, List.set_cons_succ, i64_w, i32_w]
                        rfl
                      refine take_ (i := 6) (N := some 33) (v := ?_) (a' := ?_) #[true, true, true, true, true, true, true, true, true, false, false, false, false, false, false] rfl rfl (take_ofW HT_.out HW_.out (by kernel_rfl)) (fun _ _ _ h => h) (Or.inl ⟨by rfl, ?_⟩) hHeld ?_ ?_
                      rotate_left
                      · rintro w' ⟨s0, s1, s2, s3, s4⟩
                        go_simp
                        with_reducible rfl
                      rotate_left
                      · simp only [Act.put, List.setIfInBounds_toArray, List.set_cons_zero, List.set_cons_succ, i64_w, i32_w]
                        rfl
                      refine one_ (i := 9) (N := some 36) #[true, true, true, true, true, true, true, true, true, true, false, false, false, false, false] rfl rfl (one_of HT_.out (by kernel_rfl)) (by decide) (fun K hK => ?_)
                      refine goes_ Try.func18 (by kernel_rfl) rfl #[.agg #[.int .i64 ax, .int .i64 ay], .agg #[.int .i64 bx, .int .i64 by_], .int .i64 (wrap64 (at_ + left)), .int .i64 n] (by rfl) rfl rfl (by (try simp only [List.map_toArray, List.map_cons, List.map_nil]); first | done | rfl) ?_
                      with_reducible refine (impl_PointAt.calls k1 ax ay bx by_ (wrap64 (at_ + left)) n p0 p1 _ A1.out).mono ?_
                      rintro e w11 ⟨rfl, hb⟩
                      refine ⟨_, rfl, ?_⟩
                      have n0_ := Aside0.mk (HD.out.below hb)
                      have n1_ := Aside0.mk (blk_below BA.out hb)
                      have n2_ := Aside0.mk (blk_below BB.out hb)
                      have n3_ := Aside0.mk (below_then HB.out HB.out.size hb)
                      have n4_ := Aside0.mk (Kept.below HK.out hb)
                      have n5_ := Aside0.mk (Nat.le_trans HZ.out hb.size)
                      clear HD BA BB HB HK HZ
                      have HD := n0_
                      have BA := n1_
                      have BB := n2_
                      have HB := n3_
                      have HK := n4_
                      have HZ := n5_
                      clear n0_ n1_ n2_ n3_ n4_ n5_
                      clear hb
                      refine hK.out _ _ ⟨(blk_cell HD.out.1 3).trans rfl, (blk_cell BA.out 0).trans rfl, (blk_cell BA.out 1).trans rfl, (blk_cell BB.out 0).trans rfl, (blk_cell BB.out 1).trans rfl⟩ (fun hHeld => ?_)
                      clear hK K
                      refine norm_ (a' := ?_) ?_ ?_
                      rotate_left
                      · show Act.put _ (some 36) _ = _
                        simp only [Act.put, List.setIfInBounds_toArray, List.set_cons_zero, List.set_cons_succ, i64_w, i32_w]
                        rfl
                      refine one_ (i := 10) (N := some 37) #[true, true, true, true, true, true, true, true, true, true, true, false, false, false, false] rfl rfl (one_of HT_.out (by kernel_rfl)) (by decide) (fun K hK => ?_)
                      refine value_ (w1 := ?_) (v := ?_) (by rfl) rfl ?_ ?_
                      rotate_left 2
                      · go_simp
                        constructor
                        · rfl
                        · rfl
                      refine hK.out _ _ ⟨(blk_cell (blk_alloc HD.out.1 _) 3).trans rfl, (blk_cell (blk_alloc BA.out _) 0).trans rfl, (blk_cell (blk_alloc BA.out _) 1).trans rfl, (blk_cell (blk_alloc BB.out _) 0).trans rfl, (blk_cell (blk_alloc BB.out _) 1).trans rfl⟩ (fun hHeld => ?_)
                      clear hK K
                      refine norm_ (a' := ?_) ?_ ?_
                      rotate_left
                      · show Act.put _ (some 37) _ = _
                        simp only [Act.put, List.setIfInBounds_toArray, List.set_cons_zero, List.set_cons_succ, i64_w, i32_w]
                        rfl
                      refine one_ (i := 11) (N := some 38) #[true, true, true, true, true, true, true, true, true, true, true, true, false, false, false] rfl rfl (one_of HT_.out (by kernel_rfl)) (by decide) (fun K hK => ?_)
                      refine Kd.R_append_step k29 (w0 := w0) w0.heap.size (by rfl) (.tmp 31) (.tmp 37) 30 29 (.agg #[(.int .i64 0), (.int .i64 0)]) 16 rfl Try.underlying30 da_info29 rfl (by decide) (by omega) (.slice Ao xs.length co) xs (⟨p0, p1⟩ : S29) [.int .i64 p0, .int .i64 p1] (fun k_ => (okP k_ ∧ k_ ≠ ga) ∧ k_ ≠ gb) (fun _ => False) rfl rfl ?aP (fun _ hk => hk.elim) ?aF ?aO ?aB ?aS ?aL ?_
                      (case aP => exact k29_mkM _ _ _ (⟨p0, p1⟩ : S29))
                      (case aF => exact fun k_ hk => ⟨⟨HF.out k_ (Nat.le_trans HZ.out hk), fun e_ => by have := blk_lt BA.out; omega⟩, fun e_ => by have := blk_lt BB.out; omega⟩)
                      (case aO => exact HD.out.2.1)
                      (case aB => exact HB.out)
                      (case aS => exact HB.out.size)
                      (case aL => have := HXL.out; omega)
                      intro v1 w12 ho hb hg hat
                      obtain ⟨zs, hz_⟩ : ∃ zs : List S29, zs = xs ++ [(⟨p0, p1⟩ : S29)] := ⟨_, rfl⟩
                      rw [← hz_] at ho
                      have HZS := Aside0.mk hz_
                      clear hz_
                      obtain ⟨A1, c1, ev1⟩ := Kd.R_slice ho
                      subst ev1
                      have HQ := Aside0.mk (DS.putO HD.out ho hg hat)
                      have HD1 := Aside0.mk (blk_grown HD.out.1 hg (Kd.R_ne HD.out.2.1 HD.out.1 (by decide)))
                      have hga_ := blk_grown BA.out hg (fun e_ => (HD.out.2.1.1 _ e_.symm).1.2 rfl)
                      have hgb_ := blk_grown BB.out hg (fun e_ => (HD.out.2.1.1 _ e_.symm).2 rfl)
                      have n2_ := Aside0.mk (Kept.of_grown (S := (fun k_ => k_ = g ∨ okP k_)) hg HK.out (fun k_ e_ => .inl (.inr (HD.out.2.1.1 k_ e_).1.1)))
                      have n3_ := Aside0.mk (Nat.le_trans HZ.out hg.size)
                      clear HK HZ HB BA BB HD
                      have HB := Aside0.mk hb
                      have HK := n2_
                      have HZ := n3_
                      have BA := Aside0.mk hga_
                      have BB := Aside0.mk hgb_
                      clear n2_ n3_ hg hat ho hb hga_ hgb_
                      refine hK.out _ _ ⟨(blk_cell HD1.out 3).trans rfl, (blk_cell BA.out 0).trans rfl, (blk_cell BA.out 1).trans rfl, (blk_cell BB.out 0).trans rfl, (blk_cell BB.out 1).trans rfl⟩ (fun hHeld => ?_)
                      clear hK K
                      refine norm_ (a' := ?_) ?_ ?_
                      rotate_left
                      · show Act.put _ (some 38) _ = _
                        simp only [Act.put, List.setIfInBounds_toArray, List.set_cons_zero, List.set_cons_succ, i64_w, i32_w]
                        rfl
                      refine pure_ (i := 12) (N := some 39) (v := ?_) (a' := ?_) #[true, true, true, true, true, true, true, true, true, true, true, true, true, false, false] rfl rfl (any_of HT_.out (by kernel_rfl)) (fun _ _ _ h => h) (Or.inl ⟨by rfl, ?_⟩) ?_ ?_
                      rotate_left
                      · intro w'
                        go_simp
                        with_reducible rfl
                      rotate_left
                      · simp only [Act.put, List.setIfInBounds_toArray, List.set_cons_zero, List.set_cons_succ, i64_w, i32_w]
                        rfl
                      refine pure_ (i := 13) (N := some 40) (v := ?_) (a' := ?_) #[true, true, true, true, true, true, true, true, true, true, true, true, true, true, false] rfl rfl (any_of HT_.out (by kernel_rfl)) (fun _ _ _ h => h) (Or.inl ⟨by rfl, ?_⟩) ?_ ?_
                      rotate_left
                      · intro w'
                        go_simp
                        with_reducible rfl
                      rotate_left
                      · simp only [Act.put, List.setIfInBounds_toArray, List.set_cons_zero, List.set_cons_succ, i64_w, i32_w]
                        rfl
                      refine last_ (i := 14) (N := none) #[true, true, true, true, true, true, true, true, true, true, true, true, true, true, true] rfl rfl (one_of HT_.out (by kernel_rfl)) (by decide) (fun K hK => ?_)
                      have hx_ := hHeld.1
                      have hf_ := blk_frozen HD1.out 3
                      refine skip_ (w1 := ?_) ?hwx ?hN ?_ ?_; (case hwx => rfl); (case hN => rfl)
                      rotate_left
                      · go_simp
                        rfl
                      refine hK.out _ _ ?_
                      clear hK K
                      refine done_ (done_of HT_.out (by kernel_rfl)) ?_
                      have hgd_ := HD1.out
                      have n0_ : Aside0 (DS (fun k_ => (okP k_ ∧ k_ ≠ ga) ∧ k_ ≠ gb) (w12.setCell ⟨g, 3, none⟩ (.slice A1 zs.length c1)) w0.heap.size g (.slice (some adD) ds.length cD) kk left (.slice A1 zs.length c1) zs (.slice As ys.length cs) ys) := ⟨HQ.out⟩
                      have n1_ : Aside0 ((w12.setCell ⟨g, 3, none⟩ (.slice A1 zs.length c1)).heap[ga]? = some (.cells #[.int .i64 ax, .int .i64 ay] 29 (0, 0))) := ⟨blk_far BA.out (p := ⟨g, 3, none⟩) (blk_ne BA.out hgd_ (by decide)) _⟩
                      have n2_ : Aside0 ((w12.setCell ⟨g, 3, none⟩ (.slice A1 zs.length c1)).heap[gb]? = some (.cells #[.int .i64 bx, .int .i64 by_] 29 (0, 0))) := ⟨blk_far BB.out (p := ⟨g, 3, none⟩) (blk_ne BB.out hgd_ (by decide)) _⟩
                      have n3_ : Aside0 (Below w0.heap.size w0 (w12.setCell ⟨g, 3, none⟩ (.slice A1 zs.length c1))) := ⟨below_set HB.out HG.out⟩
                      have n4_ : Aside0 (Kept w (w12.setCell ⟨g, 3, none⟩ (.slice A1 zs.length c1)) (fun k_ => k_ = g ∨ okP k_)) := ⟨Kept.setCell (p := ⟨g, 3, none⟩) HK.out (.inl (.inl rfl)) _⟩
                      have n5_ : Aside0 (w.heap.size ≤ (w12.setCell ⟨g, 3, none⟩ (.slice A1 zs.length c1)).heap.size) := ⟨n4_.out.1⟩
                      clear HQ HD1 hHeld hx_ hf_ BA BB HB HK HZ hgd_
                      have HD := n0_
                      have BA := n1_
                      have BB := n2_
                      have HB := n3_
                      have HK := n4_
                      have HZ := n5_
                      clear n0_ n1_ n2_ n3_ n4_ n5_
                      generalize w12.setCell ⟨g, 3, none⟩ (.slice A1 zs.length c1) = w13 at HD BA BB HB HK HZ ⊢
                      go_wp2_with (first | ((with_reducible refine gate_callee (f := 51) rfl ?_); refine goesL_ (some 42) rfl rfl Try.func51 (by kernel_rfl) rfl #[.pointer (some ⟨g, 0, none⟩)] rfl (by (try simp only [List.map_toArray, List.map_cons, List.map_nil]); first | done | rfl) ?_; (with_reducible refine (da_isOn g _ kk left _ _ _ (DS.hp HD.out)).mono ?_); rintro e w14 ⟨rfl, rfl⟩; refine ⟨_, rfl, ?_⟩) | ((with_reducible refine gate_callee (f := 53) rfl ?_); refine goesL_ (some 44) rfl rfl Try.func53 (by kernel_rfl) rfl #[.pointer (some ⟨g, 0, none⟩)] rfl (by (try simp only [List.map_toArray, List.map_cons, List.map_nil]); first | done | rfl) ?_; (with_reducible refine (da_end (fun k_ => (okP k_ ∧ k_ ≠ ga) ∧ k_ ≠ gb) g (.slice (some adD) ds.length cD) kk left (.slice A1 zs.length c1) zs (.slice As ys.length cs) ys w0 _ HB.out HG.out ?sideF HYL.out HD.out).mono ?_); (case sideF => exact fun k_ hk => ⟨⟨HF.out k_ (Nat.le_trans HZ.out hk), fun e_ => by have := blk_lt BA.out; omega⟩, fun e_ => by have := blk_lt BB.out; omega⟩); rintro e w15 ⟨vS2, rfl, hd2, hb2, hkp⟩; refine ⟨_, rfl, ?_⟩; obtain ⟨ys2, hy_⟩ : ∃ y_ : List (List S29), y_ = (if zs.length > 1 then ys ++ [zs] else ys) := ⟨_, rfl⟩; rw [← hy_] at hd2; have HYS := Aside0.mk hy_; clear hy_; obtain ⟨A2, c2, ev2⟩ := Kd.S_slice hd2.2.2; subst ev2; have n1_ := Aside0.mk (blk_kept BA.out hkp (fun hs_ => Or.elim hs_ (fun e_ => blk_ne BA.out HD.out.1 (by decide) e_) (fun h_ => h_.1.2 rfl))); have n2_ := Aside0.mk (blk_kept BB.out hkp (fun hs_ => Or.elim hs_ (fun e_ => blk_ne BB.out HD.out.1 (by decide) e_) (fun h_ => h_.2 rfl))); have n3_ := Aside0.mk (Kept.then_ (S := (fun k_ => k_ = g ∨ okP k_)) HK.out hkp (fun k_ hs_ => .inl (Or.elim hs_ (fun e_ => .inl e_) (fun h_ => .inr h_.1.1)))); have n4_ := Aside0.mk (Nat.le_trans HZ.out hkp.1); clear HD BA BB HB HK HZ hkp; have HD := Aside0.mk hd2; have BA := n1_; have BB := n2_; have HB := Aside0.mk hb2; have HK := n3_; have HZ := n4_; clear n1_ n2_ n3_ n4_ hd2 hb2))
                      refine start_ (n := 15) (S := fun w' => w'.cell? ⟨g, 1, none⟩ = some (.int .i64 kk) ∧ w'.cell? ⟨g, 0, none⟩ = some (.slice (some adD) ds.length cD)) (ds := [14]) #[false, false, false, false, false, false, false, false, false, false, false, false, false, false, false] (by kernel_rfl) rfl rfl ⟨(blk_cell HD.out.1 1).trans rfl, (blk_cell HD.out.1 0).trans rfl⟩ (fun hHeld => ?_); refine with_tabW da_piece.tab9 da_piece.bits9 (fun HT_ HW_ => ?_)
                      have n0_ := Aside0.mk (HD.out.drew)
                      have n1_ := Aside0.mk (blk_drew BA.out)
                      have n2_ := Aside0.mk (blk_drew BB.out)
                      have n3_ := Aside0.mk (HB.out.drew)
                      have n4_ := Aside0.mk (Kept.drew HK.out)
                      have n5_ := Aside0.mk (show w.heap.size ≤ w15.drew.heap.size from HZ.out)
                      clear HD BA BB HB HK HZ
                      have HD := n0_
                      have BA := n1_
                      have BB := n2_
                      have HB := n3_
                      have HK := n4_
                      have HZ := n5_
                      clear n0_ n1_ n2_ n3_ n4_ n5_
                      generalize w15.drew = w16 at HD BA BB HB HK HZ hHeld ⊢
                      refine pure_ (i := 0) (N := some 45) (v := ?_) (a' := ?_) #[true, false, false, false, false, false, false, false, false, false, false, false, false, false, false] rfl rfl (any_of HT_.out (by kernel_rfl)) (fun _ _ _ h => h) (Or.inl ⟨by rfl, ?_⟩) ?_ ?_
                      rotate_left
                      · intro w'
                        go_simp
                        with_reducible rfl
                      rotate_left
                      · simp only [Act.put, List.setIfInBounds_toArray, List.set_cons_zero, List.set_cons_succ, i64_w, i32_w]
                        rfl
                      refine pure_ (i := 1) (N := some 46) (v := ?_) (a' := ?_) #[true, true, false, false, false, false, false, false, false, false, false, false, false, false, false] rfl rfl (any_of HT_.out (by kernel_rfl)) (fun _ _ _ h => h) (Or.inl ⟨by rfl, ?_⟩) ?_ ?_
                      rotate_left
                      · intro w'
                        go_simp
                        with_reducible rfl
                      rotate_left
                      · simp only [Act.put, List.setIfInBounds_toArray, List.set_cons_zero, List.set_cons_succ, i64_w, i32_w]
                        rfl
                      refine pure_ (i := 2) (N := some 47) (v := ?_) (a' := ?_) #[true, true, true, false, false, false, false, false, false, false, false, false, false, false, false] rfl rfl (any_of HT_.out (by kernel_rfl)) (fun _ _ _ h => h) (Or.inl ⟨by rfl, ?_⟩) ?_ ?_
                      rotate_left
                      · intro w'
                        go_simp
                        with_reducible rfl
                      rotate_left
                      · simp only [Act.put, List.setIfInBounds_toArray, List.set_cons_zero, List.set_cons_succ, i64_w, i32_w]
                        rfl
                      refine pure_ (i := 3) (N := some 48) (v := ?_) (a' := ?_) #[true, true, true, true, false, false, false, false, false, false, false, false, false, false, false] rfl rfl (any_of HT_.out (by kernel_rfl)) (fun _ _ _ h => h) (Or.inl ⟨by rfl, ?_⟩) ?_ ?_
                      rotate_left
                      · intro w'
                        go_simp
                        with_reducible rfl
                      rotate_left
                      · simp only [Act.put, List.setIfInBounds_toArray, List.set_cons_zero, List.set_cons_succ, i64_w, i32_w]
                        rfl
                      refine pure_ (i := 6) (N := some 51) (v := ?_) (a' := ?_) #[true, true, true, true, false, false, true, false, false, false, false, false, false, false, false] rfl rfl (any_of HT_.out (by kernel_rfl)) (fun _ _ _ h => h) (Or.inl ⟨by rfl, ?_⟩) ?_ ?_
                      rotate_left
                      · intro w'
                        go_simp
                        with_reducible rfl
                      rotate_left
                      · simp only [Act.put, List.setIfInBounds_toArray, List.set_cons_zero, List.set_cons_succ, i64_w, i32_w]
                        rfl
                      refine pure_ (i := 7) (N := some 52) (v := ?_) (a' := ?_) #[true, true, true, true, false, false, true, true, false, false, false, false, false, false, false] rfl rfl (any_of HT_.out (by kernel_rfl)) (fun _ _ _ h => h) (Or.inl ⟨by rfl, ?_⟩) ?_ ?_
                      rotate_left
                      · intro w'
                        go_simp
                        with_reducible rfl
                      rotate_left
                      · simp only [Act.put, List.setIfInBounds_toArray, List.set_cons_zero, List.set_cons_succ, i64_w, i32_w]
                        rfl
                      refine pure_ (i := 8) (N := some 53) (v := ?_) (a' := ?_) #[true, true, true, true, false, false, true, true, true, false, false, false, false, false, false] rfl rfl (any_of HT_.out (by kernel_rfl)) (fun _ _ _ h => h) (Or.inl ⟨by rfl, ?_⟩) ?_ ?_
                      rotate_left
                      · intro w'
                        go_simp
                        with_reducible rfl
                      rotate_left
                      · simp only [Act.put, List.setIfInBounds_toArray, List.set_cons_zero, List.set_cons_succ, i64_w, i32_w]
                        rfl
                      refine take_ (i := 4) (N := some 49) (v := ?_) (a' := ?_) #[true, true, true, true, true, false, true, true, true, false, false, false, false, false, false] rfl rfl (take_ofW HT_.out HW_.out (by kernel_rfl)) (fun _ _ _ h => h) (Or.inl ⟨by rfl, ?_⟩) hHeld ?_ ?_
                      rotate_left
                      · rintro w' ⟨s0, s1⟩
                        go_simp
                        with_reducible rfl
                      rotate_left
                      · simp only [Act.put, List.setIfInBounds_toArray, List.set_cons_zero, List.set_cons_succ, i64_w, i32_w]
                        rfl
                      refine take_ (i := 9) (N := some 54) (v := ?_) (a' := ?_) #[true, true, true, true, true, false, true, true, true, true, false, false, false, false, false] rfl rfl (take_ofW HT_.out HW_.out (by kernel_rfl)) (fun _ _ _ h => h) (Or.inl ⟨by rfl, ?_⟩) hHeld ?_ ?_
                      rotate_left
                      · rintro w' ⟨s0, s1⟩
                        go_simp
                        with_reducible rfl
                      rotate_left
                      · simp only [Act.put, List.setIfInBounds_toArray, List.set_cons_zero, List.set_cons_succ, i64_w, i32_w]
                        rfl
                      refine pure_ (i := 5) (N := some 50) (v := ?_) (a' := ?_) #[true, true, true, true, true, true, true, true, true, true, false, false, false, false, false] rfl rfl (any_of HT_.out (by kernel_rfl)) (fun _ _ _ h => h) (Or.inl ⟨by rfl, ?_⟩) ?_ ?_
                      rotate_left
                      · intro w'
                        go_simp
                        with_reducible rfl
                      rotate_left
                      · simp only [Act.put, List.setIfInBounds_toArray, List.set_cons_zero, List.set_cons_succ, i64_w, i32_w]
                        rfl
                      refine pure_ (i := 10) (N := some 55) (v := ?_) (a' := ?_) #[true, true, true, true, true, true, true, true, true, true, true, false, false, false, false] rfl rfl (any_of HT_.out (by kernel_rfl)) (fun _ _ _ h => h) (Or.inl ⟨by rfl, ?_⟩) ?_ ?_
                      rotate_left
                      · intro w'
                        go_simp
                        with_reducible rfl
                      rotate_left
                      · simp only [Act.put, List.setIfInBounds_toArray, List.set_cons_zero, List.set_cons_succ, i64_w, i32_w]
                        rfl
                      refine pure_ (i := 11) (N := some 56) (v := ?_) (a' := ?_) #[true, true, true, true, true, true, true, true, true, true, true, true, false, false, false] rfl rfl (any_of HT_.out (by kernel_rfl)) (fun _ _ _ h => h) (Or.inl ⟨by rfl, ?_⟩) ?_ ?_
                      rotate_left
                      · intro w'
                        go_simp
                        with_reducible rfl
                      rotate_left
                      · simp only [Act.put, List.setIfInBounds_toArray, List.set_cons_zero, List.set_cons_succ, i64_w, i32_w]
                        rfl
                      refine pure_ (i := 12) (N := some 57) (v := ?_) (a' := ?_) #[true, true, true, true, true, true, true, true, true, true, true, true, true, false, false] rfl rfl (any_of HT_.out (by kernel_rfl)) (fun _ _ _ h => h) (Or.inl ⟨by rfl, ?_⟩) ?_ ?_
                      rotate_left
                      · intro w'
                        go_simp
                        with_reducible rfl
                      rotate_left
                      · simp only [Act.put, List.setIfInBounds_toArray, List.set_cons_zero, List.set_cons_succ, i64_w, i32_w]
                        rfl
                      refine pure_ (i := 13) (N := some 58) (v := ?_) (a' := ?_) #[true, true, true, true, true, true, true, true, true, true, true, true, true, true, false] rfl rfl (any_of HT_.out (by kernel_rfl)) (fun _ _ _ h => h) (Or.inl ⟨by rfl, ?_⟩) ?_ ?_
                      rotate_left
                      · intro w'
                        go_simp
                        with_reducible rfl
                      rotate_left
                      · simp only [Act.put, List.setIfInBounds_toArray, List.set_cons_zero, List.set_cons_succ, i64_w, i32_w]
                        rfl
                      refine last_ (i := 14) (N := none) #[true, true, true, true, true, true, true, true, true, true, true, true, true, true, true] rfl rfl (one_of HT_.out (by kernel_rfl)) (by decide) (fun K hK => ?_)
                      have hx_ := hHeld.1
                      have hf_ := blk_frozen HD.out.1 1
                      refine skip_ (w1 := ?_) ?hwx ?hN ?_ ?_; (case hwx => rfl); (case hN => rfl)
                      rotate_left
                      · go_simp
                        rfl
                      refine hK.out _ _ ?_
                      clear hK K
                      refine done_ (done_of HT_.out (by kernel_rfl)) ?_
                      have hgd_ := HD.out.1
                      have n0_ : Aside0 (DS (fun k_ => (okP k_ ∧ k_ ≠ ga) ∧ k_ ≠ gb) (w16.setCell ⟨g, 1, none⟩ (.int .i64 (Int.tmod (wrap64 (kk + 1)) (ds.length : Int)))) w0.heap.size g (.slice (some adD) ds.length cD) (Int.tmod (wrap64 (kk + 1)) (ds.length : Int)) left (.slice none 0 0) [] (.slice A2 ys2.length c2) ys2) := ⟨HD.out.putK _⟩
                      have n1_ : Aside0 ((w16.setCell ⟨g, 1, none⟩ (.int .i64 (Int.tmod (wrap64 (kk + 1)) (ds.length : Int)))).heap[ga]? = some (.cells #[.int .i64 ax, .int .i64 ay] 29 (0, 0))) := ⟨blk_far BA.out (p := ⟨g, 1, none⟩) (blk_ne BA.out hgd_ (by decide)) _⟩
                      have n2_ : Aside0 ((w16.setCell ⟨g, 1, none⟩ (.int .i64 (Int.tmod (wrap64 (kk + 1)) (ds.length : Int)))).heap[gb]? = some (.cells #[.int .i64 bx, .int .i64 by_] 29 (0, 0))) := ⟨blk_far BB.out (p := ⟨g, 1, none⟩) (blk_ne BB.out hgd_ (by decide)) _⟩
                      have n3_ : Aside0 (Below w0.heap.size w0 (w16.setCell ⟨g, 1, none⟩ (.int .i64 (Int.tmod (wrap64 (kk + 1)) (ds.length : Int))))) := ⟨below_set HB.out HG.out⟩
                      have n4_ : Aside0 (Kept w (w16.setCell ⟨g, 1, none⟩ (.int .i64 (Int.tmod (wrap64 (kk + 1)) (ds.length : Int)))) (fun k_ => k_ = g ∨ okP k_)) := ⟨Kept.setCell (p := ⟨g, 1, none⟩) HK.out (.inl (.inl rfl)) _⟩
                      have n5_ : Aside0 (w.heap.size ≤ (w16.setCell ⟨g, 1, none⟩ (.int .i64 (Int.tmod (wrap64 (kk + 1)) (ds.length : Int)))).heap.size) := ⟨n4_.out.1⟩
                      clear HD hHeld hx_ hf_ BA BB HB HK HZ hgd_
                      have HD := n0_
                      have BA := n1_
                      have BB := n2_
                      have HB := n3_
                      have HK := n4_
                      have HZ := n5_
                      clear n0_ n1_ n2_ n3_ n4_ n5_
                      generalize w16.setCell ⟨g, 1, none⟩ (.int .i64 (Int.tmod (wrap64 (kk + 1)) (ds.length : Int))) = w17 at HD BA BB HB HK HZ ⊢
                      go_wp2
                      refine start_ (n := 14) (S := fun w' => w'.cell? ⟨g, 0, none⟩ = some (.slice (some adD) ds.length cD) ∧ w'.cell? ⟨g, 1, none⟩ = some (.int .i64 (Int.tmod (wrap64 (kk + 1)) (ds.length : Int))) ∧ w'.cell? (adD.add (Int.tmod (wrap64 (kk + 1)) (ds.length : Int)).toNat) = some (.int .i64 (rd ds (Int.tmod (wrap64 (kk + 1)) (ds.length : Int))))) (ds := [13]) #[false, false, false, false, false, false, false, false, false, false, false, false, false, false] (by kernel_rfl) rfl rfl ⟨(blk_cell HD.out.1 0).trans rfl, (blk_cell HD.out.1 1).trans rfl, ((HB.out.cell (World.block_lt_of_cell? w0 _ hxD.out)).trans hxD.out)⟩ (fun hHeld => ?_); refine with_tabW da_piece.tab10 da_piece.bits10 (fun HT_ HW_ => ?_)
                      have n0_ := Aside0.mk (HD.out.drew)
                      have n1_ := Aside0.mk (blk_drew BA.out)
                      have n2_ := Aside0.mk (blk_drew BB.out)
                      have n3_ := Aside0.mk (HB.out.drew)
                      have n4_ := Aside0.mk (Kept.drew HK.out)
                      have n5_ := Aside0.mk (show w.heap.size ≤ w17.drew.heap.size from HZ.out)
                      clear HD BA BB HB HK HZ
                      have HD := n0_
                      have BA := n1_
                      have BB := n2_
                      have HB := n3_
                      have HK := n4_
                      have HZ := n5_
                      clear n0_ n1_ n2_ n3_ n4_ n5_
                      generalize w17.drew = w18 at HD BA BB HB HK HZ hHeld ⊢
                      refine pure_ (i := 0) (N := some 59) (v := ?_) (a' := ?_) #[true, false, false, false, false, false, false, false, false, false, false, false, false, false] rfl rfl (any_of HT_.out (by kernel_rfl)) (fun _ _ _ h => h) (Or.inl ⟨by rfl, ?_⟩) ?_ ?_
                      rotate_left
                      · intro w'
                        go_simp
                        with_reducible rfl
                      rotate_left
                      · simp only [Act.put, List.setIfInBounds_toArray, List.set_cons_zero, List.set_cons_succ, i64_w, i32_w]
                        rfl
                      refine pure_ (i := 1) (N := some 60) (v := ?_) (a' := ?_) #[true, true, false, false, false, false, false, false, false, false, false, false, false, false] rfl rfl (any_of HT_.out (by kernel_rfl)) (fun _ _ _ h => h) (Or.inl ⟨by rfl, ?_⟩) ?_ ?_
                      rotate_left
                      · intro w'
                        go_simp
                        with_reducible rfl
                      rotate_left
                      · simp only [Act.put, List.setIfInBounds_toArray, List.set_cons_zero, List.set_cons_succ, i64_w, i32_w]
                        rfl
                      refine pure_ (i := 2) (N := some 61) (v := ?_) (a' := ?_) #[true, true, true, false, false, false, false, false, false, false, false, false, false, false] rfl rfl (any_of HT_.out (by kernel_rfl)) (fun _ _ _ h => h) (Or.inl ⟨by rfl, ?_⟩) ?_ ?_
                      rotate_left
                      · intro w'
                        go_simp
                        with_reducible rfl
                      rotate_left
                      · simp only [Act.put, List.setIfInBounds_toArray, List.set_cons_zero, List.set_cons_succ, i64_w, i32_w]
                        rfl
                      refine pure_ (i := 3) (N := some 62) (v := ?_) (a' := ?_) #[true, true, true, true, false, false, false, false, false, false, false, false, false, false] rfl rfl (any_of HT_.out (by kernel_rfl)) (fun _ _ _ h => h) (Or.inl ⟨by rfl, ?_⟩) ?_ ?_
                      rotate_left
                      · intro w'
                        go_simp
                        with_reducible rfl
                      rotate_left
                      · simp only [Act.put, List.setIfInBounds_toArray, List.set_cons_zero, List.set_cons_succ, i64_w, i32_w]
                        rfl
                      refine pure_ (i := 5) (N := some 64) (v := ?_) (a' := ?_) #[true, true, true, true, false, true, false, false, false, false, false, false, false, false] rfl rfl (any_of HT_.out (by kernel_rfl)) (fun _ _ _ h => h) (Or.inl ⟨by rfl, ?_⟩) ?_ ?_
                      rotate_left
                      · intro w'
                        go_simp
                        with_reducible rfl
                      rotate_left
                      · simp only [Act.put, List.setIfInBounds_toArray, List.set_cons_zero, List.set_cons_succ, i64_w, i32_w]
                        rfl
                      refine pure_ (i := 6) (N := some 65) (v := ?_) (a' := ?_) #[true, true, true, true, false, true, true, false, false, false, false, false, false, false] rfl rfl (any_of HT_.out (by kernel_rfl)) (fun _ _ _ h => h) (Or.inl ⟨by rfl, ?_⟩) ?_ ?_
                      rotate_left
                      · intro w'
                        go_simp
                        with_reducible rfl
                      rotate_left
                      · simp only [Act.put, List.setIfInBounds_toArray, List.set_cons_zero, List.set_cons_succ, i64_w, i32_w]
                        rfl
                      refine pure_ (i := 7) (N := some 66) (v := ?_) (a' := ?_) #[true, true, true, true, false, true, true, true, false, false, false, false, false, false] rfl rfl (any_of HT_.out (by kernel_rfl)) (fun _ _ _ h => h) (Or.inl ⟨by rfl, ?_⟩) ?_ ?_
                      rotate_left
                      · intro w'
                        go_simp
                        with_reducible rfl
                      rotate_left
                      · simp only [Act.put, List.setIfInBounds_toArray, List.set_cons_zero, List.set_cons_succ, i64_w, i32_w]
                        rfl
                      refine take_ (i := 4) (N := some 63) (v := ?_) (a' := ?_) #[true, true, true, true, true, true, true, true, false, false, false, false, false, false] rfl rfl (take_ofW HT_.out HW_.out (by kernel_rfl)) (fun _ _ _ h => h) (Or.inl ⟨by rfl, ?_⟩) hHeld ?_ ?_
                      rotate_left
                      · rintro w' ⟨s0, s1, s2⟩
                        go_simp
                        with_reducible rfl
                      rotate_left
                      · simp only [Act.put, List.setIfInBounds_toArray, List.set_cons_zero, List.set_cons_succ, i64_w, i32_w]
                        rfl
                      refine take_ (i := 8) (N := some 67) (v := ?_) (a' := ?_) #[true, true, true, true, true, true, true, true, true, false, false, false, false, false] rfl rfl (take_ofW HT_.out HW_.out (by kernel_rfl)) (fun _ _ _ h => h) (Or.inl ⟨by rfl, ?_⟩) hHeld ?_ ?_
                      rotate_left
                      · rintro w' ⟨s0, s1, s2⟩
                        go_simp
                        with_reducible rfl
                      rotate_left
                      · simp only [Act.put, List.setIfInBounds_toArray, List.set_cons_zero, List.set_cons_succ, i64_w, i32_w]
                        rfl
                      refine pure_ (i := 9) (N := some 68) (v := ?_) (a' := ?_) #[true, true, true, true, true, true, true, true, true, true, false, false, false, false] rfl rfl (any_of HT_.out (by kernel_rfl)) (fun _ _ _ h => h) (Or.inl ⟨by rfl, ?_⟩) ?_ ?_
                      rotate_left
                      · intro w'
                        go_simp
                        with_reducible rfl
                      rotate_left
                      · simp only [Act.put, List.setIfInBounds_toArray, List.set_cons_zero, List.set_cons_succ, i64_w, i32_w]
                        rfl
                      refine take_ (i := 10) (N := some 69) (v := ?_) (a' := ?_) #[true, true, true, true, true, true, true, true, true, true, true, false, false, false] rfl rfl (take_ofW HT_.out HW_.out (by kernel_rfl)) (fun _ _ _ h => h) (Or.inl ⟨by rfl, ?_⟩) hHeld ?_ ?_
                      rotate_left
                      · rintro w' ⟨s0, s1, s2⟩
                        go_simp
                        with_reducible rfl
                      rotate_left
                      · simp only [Act.put, List.setIfInBounds_toArray, List.set_cons_zero, List.set_cons_succ, i64_w, i32_w]
                        rfl
                      refine pure_ (i := 11) (N := some 70) (v := ?_) (a' := ?_) #[true, true, true, true, true, true, true, true, true, true, true, true, false, false] rfl rfl (any_of HT_.out (by kernel_rfl)) (fun _ _ _ h => h) (Or.inl ⟨by rfl, ?_⟩) ?_ ?_
                      rotate_left
                      · intro w'
                        go_simp
                        with_reducible rfl
                      rotate_left
                      · simp only [Act.put, List.setIfInBounds_toArray, List.set_cons_zero, List.set_cons_succ, i64_w, i32_w]
                        rfl
                      refine pure_ (i := 12) (N := some 71) (v := ?_) (a' := ?_) #[true, true, true, true, true, true, true, true, true, true, true, true, true, false] rfl rfl (any_of HT_.out (by kernel_rfl)) (fun _ _ _ h => h) (Or.inl ⟨by rfl, ?_⟩) ?_ ?_
                      rotate_left
                      · intro w'
                        go_simp
                        with_reducible rfl
                      rotate_left
                      · simp only [Act.put, List.setIfInBounds_toArray, List.set_cons_zero, List.set_cons_succ, i64_w, i32_w]
                        rfl
                      refine last_ (i := 13) (N := none) #[true, true, true, true, true, true, true, true, true, true, true, true, true, true] rfl rfl (one_of HT_.out (by kernel_rfl)) (by decide) (fun K hK => ?_)
                      have hx_ : w18.cell? ⟨g, 2, none⟩ = some (.int .i64 left) := (blk_cell HD.out.1 2).trans rfl
                      have hf_ := blk_frozen HD.out.1 2
                      refine skip_ (w1 := ?_) ?hwx ?hN ?_ ?_; (case hwx => rfl); (case hN => rfl)
                      rotate_left
                      · go_simp
                        rfl
                      refine hK.out _ _ ?_
                      clear hK K
                      refine done_ (done_of HT_.out (by kernel_rfl)) ?_
                      have hgd_ := HD.out.1
                      have n0_ : Aside0 (DS (fun k_ => (okP k_ ∧ k_ ≠ ga) ∧ k_ ≠ gb) (w18.setCell ⟨g, 2, none⟩ (.int .i64 (rd ds (Int.tmod (wrap64 (kk + 1)) (ds.length : Int))))) w0.heap.size g (.slice (some adD) ds.length cD) (Int.tmod (wrap64 (kk + 1)) (ds.length : Int)) (rd ds (Int.tmod (wrap64 (kk + 1)) (ds.length : Int))) (.slice none 0 0) [] (.slice A2 ys2.length c2) ys2) := ⟨HD.out.putL _⟩
                      have n1_ : Aside0 ((w18.setCell ⟨g, 2, none⟩ (.int .i64 (rd ds (Int.tmod (wrap64 (kk + 1)) (ds.length : Int))))).heap[ga]? = some (.cells #[.int .i64 ax, .int .i64 ay] 29 (0, 0))) := ⟨blk_far BA.out (p := ⟨g, 2, none⟩) (blk_ne BA.out hgd_ (by decide)) _⟩
                      have n2_ : Aside0 ((w18.setCell ⟨g, 2, none⟩ (.int .i64 (rd ds (Int.tmod (wrap64 (kk + 1)) (ds.length : Int))))).heap[gb]? = some (.cells #[.int .i64 bx, .int .i64 by_] 29 (0, 0))) := ⟨blk_far BB.out (p := ⟨g, 2, none⟩) (blk_ne BB.out hgd_ (by decide)) _⟩
                      have n3_ : Aside0 (Below w0.heap.size w0 (w18.setCell ⟨g, 2, none⟩ (.int .i64 (rd ds (Int.tmod (wrap64 (kk + 1)) (ds.length : Int)))))) := ⟨below_set HB.out HG.out⟩
                      have n4_ : Aside0 (Kept w (w18.setCell ⟨g, 2, none⟩ (.int .i64 (rd ds (Int.tmod (wrap64 (kk + 1)) (ds.length : Int))))) (fun k_ => k_ = g ∨ okP k_)) := ⟨Kept.setCell (p := ⟨g, 2, none⟩) HK.out (.inl (.inl rfl)) _⟩
                      have n5_ : Aside0 (w.heap.size ≤ (w18.setCell ⟨g, 2, none⟩ (.int .i64 (rd ds (Int.tmod (wrap64 (kk + 1)) (ds.length : Int))))).heap.size) := ⟨n4_.out.1⟩
                      clear HD hHeld hx_ hf_ BA BB HB HK HZ hgd_
                      have HD := n0_
                      have BA := n1_
                      have BB := n2_
                      have HB := n3_
                      have HK := n4_
                      have HZ := n5_
                      clear n0_ n1_ n2_ n3_ n4_ n5_
                      generalize w18.setCell ⟨g, 2, none⟩ (.int .i64 (rd ds (Int.tmod (wrap64 (kk + 1)) (ds.length : Int)))) = w19 at HD BA BB HB HK HZ ⊢
                      try go_wp2
                      go_roundg k1
                      case measure => have := HK1.out; omega
                      case rel => exact ⟨(wrap64 (at_ + left)), (Int.tmod (wrap64 (kk + 1)) (ds.length : Int)), (rd ds (Int.tmod (wrap64 (kk + 1)) (ds.length : Int))), _, _, [], _, _, ys2, rfl, ⟨by rw [HYS.out, HZS.out]; exact H'.out⟩, ⟨by have := HK1.out; omega⟩, HD, BA, BB, HB, HK, HZ⟩
                    · rw [if_neg ck] at H
                      have ckb : (Int.tmod kk 2 == 0) = false := beq_eq_false_iff_ne.mpr ck
                      clear ck
                      have H' := Aside0.mk H
                      clear H
                      have hx0_ : wr.cell? ⟨g, 0, none⟩ = some (.slice (some adD) ds.length cD) := (blk_cell HD.out.1 0).trans rfl
                      have hx1_ : wr.cell? ⟨g, 1, none⟩ = some (.int .i64 kk) := (blk_cell HD.out.1 1).trans rfl
                      have hx2_ : wr.cell? ⟨g, 2, none⟩ = some (.int .i64 left) := (blk_cell HD.out.1 2).trans rfl
                      have hx3_ : wr.cell? ⟨g, 3, none⟩ = some (.slice Ao xs.length co) := (blk_cell HD.out.1 3).trans rfl
                      have hx4_ : wr.cell? ⟨g, 4, none⟩ = some (.slice As ys.length cs) := (blk_cell HD.out.1 4).trans rfl
                      have hf1_ := blk_frozen HD.out.1 1
                      have hf2_ := blk_frozen HD.out.1 2
                      have hf3_ := blk_frozen HD.out.1 3
                      go_wp2
                      clear hx0_ hx1_ hx2_ hx3_ hx4_ hf1_ hf2_ hf3_
                      refine start_ (n := 15) (S := fun w' => w'.cell? ⟨g, 3, none⟩ = some (.slice Ao xs.length co) ∧ w'.cell? ⟨ga, 0, none⟩ = some (.int .i64 ax) ∧ w'.cell? ⟨ga, 1, none⟩ = some (.int .i64 ay) ∧ w'.cell? ⟨gb, 0, none⟩ = some (.int .i64 bx) ∧ w'.cell? ⟨gb, 1, none⟩ = some (.int .i64 by_)) (ds := [14]) #[false, false, false, false, false, false, false, false, false, false, false, false, false, false, false] (by kernel_rfl) rfl rfl ⟨(blk_cell HD.out.1 3).trans rfl, (blk_cell BA.out 0).trans rfl, (blk_cell BA.out 1).trans rfl, (blk_cell BB.out 0).trans rfl, (blk_cell BB.out 1).trans rfl⟩ (fun hHeld => ?_); refine with_tabW da_piece.tab6 da_piece.bits6 (fun HT_ HW_ => ?_)
                      have n0_ := Aside0.mk (HD.out.drew)
                      have n1_ := Aside0.mk (blk_drew BA.out)
                      have n2_ := Aside0.mk (blk_drew BB.out)
                      have n3_ := Aside0.mk (HB.out.drew)
                      have n4_ := Aside0.mk (Kept.drew HK.out)
                      have n5_ := Aside0.mk (show w.heap.size ≤ wr.drew.heap.size from HZ.out)
                      clear HD BA BB HB HK HZ
                      have HD := n0_
                      have BA := n1_
                      have BB := n2_
                      have HB := n3_
                      have HK := n4_
                      have HZ := n5_
                      clear n0_ n1_ n2_ n3_ n4_ n5_
                      generalize wr.drew = w10 at HD BA BB HB HK HZ hHeld ⊢
                      refine pure_ (i := 0) (N := some 27) (v := ?_) (a' := ?_) #[true, false, false, false, false, false, false, false, false, false, false, false, false, false, false] rfl rfl (any_of HT_.out (by kernel_rfl)) (fun _ _ _ h => h) (Or.inl ⟨by rfl, ?_⟩) ?_ ?_
                      rotate_left
                      · intro w'
                        go_simp
                        with_reducible rfl
                      rotate_left
                      · simp only [Act.put, List.setIfInBounds_toArray, List.set_cons_zero, List.set_cons_succ, i64_w, i32_w]
                        rfl
                      refine pure_ (i := 1) (N := some 28) (v := ?_) (a' := ?_) #[true, true, false, false, false, false, false, false, false, false, false, false, false, false, false] rfl rfl (any_of HT_.out (by kernel_rfl)) (fun _ _ _ h => h) (Or.inl ⟨by rfl, ?_⟩) ?_ ?_
                      rotate_left
                      · intro w'
                        go_simp
                        with_reducible rfl
                      rotate_left
                      · simp only [Act.put, List.setIfInBounds_toArray, List.set_cons_zero, List.set_cons_succ, i64_w, i32_w]
                        rfl
                      refine pure_ (i := 2) (N := some 29) (v := ?_) (a' := ?_) #[true, true, true, false, false, false, false, false, false, false, false, false, false, false, false] rfl rfl (any_of HT_.out (by kernel_rfl)) (fun _ _ _ h => h) (Or.inl ⟨by rfl, ?_⟩) ?_ ?_
                      rotate_left
                      · intro w'
                        go_simp
                        with_reducible rfl
                      rotate_left
                      · simp only [Act.put, List.setIfInBounds_toArray, List.set_cons_zero, List.set_cons_succ, i64_w, i32_w]
                        rfl
                      refine pure_ (i := 3) (N := some 30) (v := ?_) (a' := ?_) #[true, true, true, true, false, false, false, false, false, false, false, false, false, false, false] rfl rfl (any_of HT_.out (by kernel_rfl)) (fun _ _ _ h => h) (Or.inl ⟨by rfl, ?_⟩) ?_ ?_
                      rotate_left
                      · intro w'
                        go_simp
                        with_reducible rfl
                      rotate_left
                      · simp only [Act.put, List.setIfInBounds_toArray, List.set_cons_zero, List.set_cons_succ, i64_w, i32_w]
                        rfl
                      refine pure_ (i := 7) (N := some 34) (v := ?_) (a' := ?_) #[true, true, true, true, false, false, false, true, false, false, false, false, false, false, false] rfl rfl (any_of HT_.out (by kernel_rfl)) (fun _ _ _ h => h) (Or.inl ⟨by rfl, ?_⟩) ?_ ?_
                      rotate_left
                      · intro w'
                        go_simp
                        with_reducible rfl
                      rotate_left
                      · simp only [Act.put, List.setIfInBounds_toArray, List.set_cons_zero, List.set_cons_succ, i64_w, i32_w]
                        rfl
                      refine pure_ (i := 8) (N := some 35) (v := ?_) (a' := ?_) #[true, true, true, true, false, false, false, true, true, false, false, false, false, false, false] rfl rfl (any_of HT_.out (by kernel_rfl)) (fun _ _ _ h => h) (Or.inl ⟨by rfl, ?_⟩) ?_ ?_
                      rotate_left
                      · intro w'
                        go_simp
                        with_reducible rfl
                      rotate_left
                      · simp only [Act.put, List.setIfInBounds_toArray, List.set_cons_zero, List.set_cons_succ, i64_w, i32_w]
                        rfl
                      refine take_ (i := 4) (N := some 31) (v := ?_) (a' := ?_) #[true, true, true, true, true, false, false, true, true, false, false, false, false, false, false] rfl rfl (take_ofW HT_.out HW_.out (by kernel_rfl)) (fun _ _ _ h => h) (Or.inl ⟨by rfl, ?_⟩) hHeld ?_ ?_
                      rotate_left
                      · rintro w' ⟨s0, s1, s2, s3, s4⟩
                        go_simp
                        with_reducible rfl
                      rotate_left
                      · simp only [Act.put, List.setIfInBounds_toArray, List.set_cons_zero, List.set_cons_succ, i64_w, i32_w]
                        rfl
                      refine take_ (i := 5) (N := some 32) (v := ?_) (a' := ?_) #[true, true, true, true, true, true, false, true, true, false, false, false, false, false, false] rfl rfl (take_ofW HT_.out HW_.out (by kernel_rfl)) (fun _ _ _ h => h) (Or.inl ⟨by rfl, ?_⟩) hHeld ?_ ?_
                      rotate_left
                      · rintro w' ⟨s0, s1, s2, s3, s4⟩
                        go_simp
                        with_reducible rfl
                      rotate_left
                      · simp only [Act.put, List.setIfInBounds_toArray, List.set_cons_zero, List.set_cons_succ, i64_w, i32_w]
                        rfl
                      refine take_ (i := 6) (N := some 33) (v := ?_) (a' := ?_) #[true, true, true, true, true, true, true, true, true, false, false, false, false, false, false] rfl rfl (take_ofW HT_.out HW_.out (by kernel_rfl)) (fun _ _ _ h => h) (Or.inl ⟨by rfl, ?_⟩) hHeld ?_ ?_
                      rotate_left
                      · rintro w' ⟨s0, s1, s2, s3, s4⟩
                        go_simp
                        with_reducible rfl
                      rotate_left
                      · simp only [Act.put, List.setIfInBounds_toArray, List.set_cons_zero, List.set_cons_succ, i64_w, i32_w]
                        rfl
                      refine one_ (i := 9) (N := some 36) #[true, true, true, true, true, true, true, true, true, true, false, false, false, false, false] rfl rfl (one_of HT_.out (by kernel_rfl)) (by decide) (fun K hK => ?_)
                      refine goes_ Try.func18 (by kernel_rfl) rfl #[.agg #[.int .i64 ax, .int .i64 ay], .agg #[.int .i64 bx, .int .i64 by_], .int .i64 (wrap64 (at_ + left)), .int .i64 n] (by rfl) rfl rfl (by (try simp only [List.map_toArray, List.map_cons, List.map_nil]); first | done | rfl) ?_
                      with_reducible refine (impl_PointAt.calls k1 ax ay bx by_ (wrap64 (at_ + left)) n p0 p1 _ A1.out).mono ?_
                      rintro e w11 ⟨rfl, hb⟩
                      refine ⟨_, rfl, ?_⟩
                      have n0_ := Aside0.mk (HD.out.below hb)
                      have n1_ := Aside0.mk (blk_below BA.out hb)
                      have n2_ := Aside0.mk (blk_below BB.out hb)
                      have n3_ := Aside0.mk (below_then HB.out HB.out.size hb)
                      have n4_ := Aside0.mk (Kept.below HK.out hb)
                      have n5_ := Aside0.mk (Nat.le_trans HZ.out hb.size)
                      clear HD BA BB HB HK HZ
                      have HD := n0_
                      have BA := n1_
                      have BB := n2_
                      have HB := n3_
                      have HK := n4_
                      have HZ := n5_
                      clear n0_ n1_ n2_ n3_ n4_ n5_
                      clear hb
                      refine hK.out _ _ ⟨(blk_cell HD.out.1 3).trans rfl, (blk_cell BA.out 0).trans rfl, (blk_cell BA.out 1).trans rfl, (blk_cell BB.out 0).trans rfl, (blk_cell BB.out 1).trans rfl⟩ (fun hHeld => ?_)
                      clear hK K
                      refine norm_ (a' := ?_) ?_ ?_
                      rotate_left
                      · show Act.put _ (some 36) _ = _
                        simp only [Act.put, List.setIfInBounds_toArray, List.set_cons_zero, List.set_cons_succ, i64_w, i32_w]
                        rfl
                      refine one_ (i := 10) (N := some 37) #[true, true, true, true, true, true, true, true, true, true, true, false, false, false, false] rfl rfl (one_of HT_.out (by kernel_rfl)) (by decide) (fun K hK => ?_)
                      refine value_ (w1 := ?_) (v := ?_) (by rfl) rfl ?_ ?_
                      rotate_left 2
                      · go_simp
                        constructor
                        · rfl
                        · rfl
                      refine hK.out _ _ ⟨(blk_cell (blk_alloc HD.out.1 _) 3).trans rfl, (blk_cell (blk_alloc BA.out _) 0).trans rfl, (blk_cell (blk_alloc BA.out _) 1).trans rfl, (blk_cell (blk_alloc BB.out _) 0).trans rfl, (blk_cell (blk_alloc BB.out _) 1).trans rfl⟩ (fun hHeld => ?_)
                      clear hK K
                      refine norm_ (a' := ?_) ?_ ?_
                      rotate_left
                      · show Act.put _ (some 37) _ = _
                        simp only [Act.put, List.setIfInBounds_toArray, List.set_cons_zero, List.set_cons_succ, i64_w, i32_w]
                        rfl
                      refine one_ (i := 11) (N := some 38) #[true, true, true, true, true, true, true, true, true, true, true, true, false, false, false] rfl rfl (one_of HT_.out (by kernel_rfl)) (by decide) (fun K hK => ?_)
                      refine Kd.R_append_step k29 (w0 := w0) w0.heap.size (by rfl) (.tmp 31) (.tmp 37) 30 29 (.agg #[(.int .i64 0), (.int .i64 0)]) 16 rfl Try.underlying30 da_info29 rfl (by decide) (by omega) (.slice Ao xs.length co) xs (⟨p0, p1⟩ : S29) [.int .i64 p0, .int .i64 p1] (fun k_ => (okP k_ ∧ k_ ≠ ga) ∧ k_ ≠ gb) (fun _ => False) rfl rfl ?aP (fun _ hk => hk.elim) ?aF ?aO ?aB ?aS ?aL ?_
                      (case aP => exact k29_mkM _ _ _ (⟨p0, p1⟩ : S29))
                      (case aF => exact fun k_ hk => ⟨⟨HF.out k_ (Nat.le_trans HZ.out hk), fun e_ => by have := blk_lt BA.out; omega⟩, fun e_ => by have := blk_lt BB.out; omega⟩)
                      (case aO => exact HD.out.2.1)
                      (case aB => exact HB.out)
                      (case aS => exact HB.out.size)
                      (case aL => have := HXL.out; omega)
                      intro v1 w12 ho hb hg hat
                      obtain ⟨zs, hz_⟩ : ∃ zs : List S29, zs = xs ++ [(⟨p0, p1⟩ : S29)] := ⟨_, rfl⟩
                      rw [← hz_] at ho
                      have HZS := Aside0.mk hz_
                      clear hz_
                      obtain ⟨A1, c1, ev1⟩ := Kd.R_slice ho
                      subst ev1
                      have HQ := Aside0.mk (DS.putO HD.out ho hg hat)
                      have HD1 := Aside0.mk (blk_grown HD.out.1 hg (Kd.R_ne HD.out.2.1 HD.out.1 (by decide)))
                      have hga_ := blk_grown BA.out hg (fun e_ => (HD.out.2.1.1 _ e_.symm).1.2 rfl)
                      have hgb_ := blk_grown BB.out hg (fun e_ => (HD.out.2.1.1 _ e_.symm).2 rfl)
                      have n2_ := Aside0.mk (Kept.of_grown (S := (fun k_ => k_ = g ∨ okP k_)) hg HK.out (fun k_ e_ => .inl (.inr (HD.out.2.1.1 k_ e_).1.1)))
                      have n3_ := Aside0.mk (Nat.le_trans HZ.out hg.size)
                      clear HK HZ HB BA BB HD
                      have HB := Aside0.mk hb
                      have HK := n2_
                      have HZ := n3_
                      have BA := Aside0.mk hga_
                      have BB := Aside0.mk hgb_
                      clear n2_ n3_ hg hat ho hb hga_ hgb_
                      refine hK.out _ _ ⟨(blk_cell HD1.out 3).trans rfl, (blk_cell BA.out 0).trans rfl, (blk_cell BA.out 1).trans rfl, (blk_cell BB.out 0).trans rfl, (blk_cell BB.out 1).trans rfl⟩ (fun hHeld => ?_)
                      clear hK K
                      refine norm_ (a' := ?_) ?_ ?_
                      rotate_left
                      · show Act.put _ (some 38) _ = _
                        simp only [Act.put, List.setIfInBounds_toArray, List.set_cons_zero, List.set_cons_succ, i64_w, i32_w]
                        rfl
                      refine pure_ (i := 12) (N := some 39) (v := ?_) (a' := ?_) #[true, true, true, true, true, true, true, true, true, true, true, true, true, false, false] rfl rfl (any_of HT_.out (by kernel_rfl)) (fun _ _ _ h => h) (Or.inl ⟨by rfl, ?_⟩) ?_ ?_
                      rotate_left
                      · intro w'
                        go_simp
                        with_reducible rfl
                      rotate_left
                      · simp only [Act.put, List.setIfInBounds_toArray, List.set_cons_zero, List.set_cons_succ, i64_w, i32_w]
                        rfl
                      refine pure_ (i := 13) (N := some 40) (v := ?_) (a' := ?_) #[true, true, true, true, true, true, true, true, true, true, true, true, true, true, false] rfl rfl (any_of HT_.out (by kernel_rfl)) (fun _ _ _ h => h) (Or.inl ⟨by rfl, ?_⟩) ?_ ?_
                      rotate_left
                      · intro w'
                        go_simp
                        with_reducible rfl
                      rotate_left
                      · simp only [Act.put, List.setIfInBounds_toArray, List.set_cons_zero, List.set_cons_succ, i64_w, i32_w]
                        rfl
                      refine last_ (i := 14) (N := none) #[true, true, true, true, true, true, true, true, true, true, true, true, true, true, true] rfl rfl (one_of HT_.out (by kernel_rfl)) (by decide) (fun K hK => ?_)
                      have hx_ := hHeld.1
                      have hf_ := blk_frozen HD1.out 3
                      refine skip_ (w1 := ?_) ?hwx ?hN ?_ ?_; (case hwx => rfl); (case hN => rfl)
                      rotate_left
                      · go_simp
                        rfl
                      refine hK.out _ _ ?_
                      clear hK K
                      refine done_ (done_of HT_.out (by kernel_rfl)) ?_
                      have hgd_ := HD1.out
                      have n0_ : Aside0 (DS (fun k_ => (okP k_ ∧ k_ ≠ ga) ∧ k_ ≠ gb) (w12.setCell ⟨g, 3, none⟩ (.slice A1 zs.length c1)) w0.heap.size g (.slice (some adD) ds.length cD) kk left (.slice A1 zs.length c1) zs (.slice As ys.length cs) ys) := ⟨HQ.out⟩
                      have n1_ : Aside0 ((w12.setCell ⟨g, 3, none⟩ (.slice A1 zs.length c1)).heap[ga]? = some (.cells #[.int .i64 ax, .int .i64 ay] 29 (0, 0))) := ⟨blk_far BA.out (p := ⟨g, 3, none⟩) (blk_ne BA.out hgd_ (by decide)) _⟩
                      have n2_ : Aside0 ((w12.setCell ⟨g, 3, none⟩ (.slice A1 zs.length c1)).heap[gb]? = some (.cells #[.int .i64 bx, .int .i64 by_] 29 (0, 0))) := ⟨blk_far BB.out (p := ⟨g, 3, none⟩) (blk_ne BB.out hgd_ (by decide)) _⟩
                      have n3_ : Aside0 (Below w0.heap.size w0 (w12.setCell ⟨g, 3, none⟩ (.slice A1 zs.length c1))) := ⟨below_set HB.out HG.out⟩
                      have n4_ : Aside0 (Kept w (w12.setCell ⟨g, 3, none⟩ (.slice A1 zs.length c1)) (fun k_ => k_ = g ∨ okP k_)) := ⟨Kept.setCell (p := ⟨g, 3, none⟩) HK.out (.inl (.inl rfl)) _⟩
                      have n5_ : Aside0 (w.heap.size ≤ (w12.setCell ⟨g, 3, none⟩ (.slice A1 zs.length c1)).heap.size) := ⟨n4_.out.1⟩
                      clear HQ HD1 hHeld hx_ hf_ BA BB HB HK HZ hgd_
                      have HD := n0_
                      have BA := n1_
                      have BB := n2_
                      have HB := n3_
                      have HK := n4_
                      have HZ := n5_
                      clear n0_ n1_ n2_ n3_ n4_ n5_
                      generalize w12.setCell ⟨g, 3, none⟩ (.slice A1 zs.length c1) = w13 at HD BA BB HB HK HZ ⊢
                      go_wp2_with (first | ((with_reducible refine gate_callee (f := 51) rfl ?_); refine goesL_ (some 42) rfl rfl Try.func51 (by kernel_rfl) rfl #[.pointer (some ⟨g, 0, none⟩)] rfl (by (try simp only [List.map_toArray, List.map_cons, List.map_nil]); first | done | rfl) ?_; (with_reducible refine (da_isOn g _ kk left _ _ _ (DS.hp HD.out)).mono ?_); rintro e w14 ⟨rfl, rfl⟩; refine ⟨_, rfl, ?_⟩))
                      refine start_ (n := 15) (S := fun w' => w'.cell? ⟨g, 1, none⟩ = some (.int .i64 kk) ∧ w'.cell? ⟨g, 0, none⟩ = some (.slice (some adD) ds.length cD)) (ds := [14]) #[false, false, false, false, false, false, false, false, false, false, false, false, false, false, false] (by kernel_rfl) rfl rfl ⟨(blk_cell HD.out.1 1).trans rfl, (blk_cell HD.out.1 0).trans rfl⟩ (fun hHeld => ?_); refine with_tabW da_piece.tab9 da_piece.bits9 (fun HT_ HW_ => ?_)
                      have n0_ := Aside0.mk (HD.out.drew)
                      have n1_ := Aside0.mk (blk_drew BA.out)
                      have n2_ := Aside0.mk (blk_drew BB.out)
                      have n3_ := Aside0.mk (HB.out.drew)
                      have n4_ := Aside0.mk (Kept.drew HK.out)
                      have n5_ := Aside0.mk (show w.heap.size ≤ w14.drew.heap.size from HZ.out)
                      clear HD BA BB HB HK HZ
                      have HD := n0_
                      have BA := n1_
                      have BB := n2_
                      have HB := n3_
                      have HK := n4_
                      have HZ := n5_
                      clear n0_ n1_ n2_ n3_ n4_ n5_
                      generalize w14.drew = w16 at HD BA BB HB HK HZ hHeld ⊢
                      refine pure_ (i := 0) (N := some 45) (v := ?_) (a' := ?_) #[true, false, false, false, false, false, false, false, false, false, false, false, false, false, false] rfl rfl (any_of HT_.out (by kernel_rfl)) (fun _ _ _ h => h) (Or.inl ⟨by rfl, ?_⟩) ?_ ?_
                      rotate_left
                      · intro w'
                        go_simp
                        with_reducible rfl
                      rotate_left
                      · simp only [Act.put, List.setIfInBounds_toArray, List.set_cons_zero, List.set_cons_succ, i64_w, i32_w]
                        rfl
                      refine pure_ (i := 1) (N := some 46) (v := ?_) (a' := ?_) #[true, true, false, false, false, false, false, false, false, false, false, false, false, false, false] rfl rfl (any_of HT_.out (by kernel_rfl)) (fun _ _ _ h => h) (Or.inl ⟨by rfl, ?_⟩) ?_ ?_
                      rotate_left
                      · intro w'
                        go_simp
                        with_reducible rfl
                      rotate_left
                      · simp only [Act.put, List.setIfInBounds_toArray, List.set_cons_zero, List.set_cons_succ, i64_w, i32_w]
                        rfl
                      refine pure_ (i := 2) (N := some 47) (v := ?_) (a' := ?_) #[true, true, true, false, false, false, false, false, false, false, false, false, false, false, false] rfl rfl (any_of HT_.out (by kernel_rfl)) (fun _ _ _ h => h) (Or.inl ⟨by rfl, ?_⟩) ?_ ?_
                      rotate_left
                      · intro w'
                        go_simp
                        with_reducible rfl
                      rotate_left
                      · simp only [Act.put, List.setIfInBounds_toArray, List.set_cons_zero, List.set_cons_succ, i64_w, i32_w]
                        rfl
                      refine pure_ (i := 3) (N := some 48) (v := ?_) (a' := ?_) #[true, true, true, true, false, false, false, false, false, false, false, false, false, false, false] rfl rfl (any_of HT_.out (by kernel_rfl)) (fun _ _ _ h => h) (Or.inl ⟨by rfl, ?_⟩) ?_ ?_
                      rotate_left
                      · intro w'
                        go_simp
                        with_reducible rfl
                      rotate_left
                      · simp only [Act.put, List.setIfInBounds_toArray, List.set_cons_zero, List.set_cons_succ, i64_w, i32_w]
                        rfl
                      refine pure_ (i := 6) (N := some 51) (v := ?_) (a' := ?_) #[true, true, true, true, false, false, true, false, false, false, false, false, false, false, false] rfl rfl (any_of HT_.out (by kernel_rfl)) (fun _ _ _ h => h) (Or.inl ⟨by rfl, ?_⟩) ?_ ?_
                      rotate_left
                      · intro w'
                        go_simp
                        with_reducible rfl
                      rotate_left
                      · simp only [Act.put, List.setIfInBounds_toArray, List.set_cons_zero, List.set_cons_succ, i64_w, i32_w]
                        rfl
                      refine pure_ (i := 7) (N := some 52) (v := ?_) (a' := ?_) #[true, true, true, true, false, false, true, true, false, false, false, false, false, false, false] rfl rfl (any_of HT_.out (by kernel_rfl)) (fun _ _ _ h => h) (Or.inl ⟨by rfl, ?_⟩) ?_ ?_
                      rotate_left
                      · intro w'
                        go_simp
                        with_reducible rfl
                      rotate_left
                      · simp only [Act.put, List.setIfInBounds_toArray, List.set_cons_zero, List.set_cons_succ, i64_w, i32_w]
                        rfl
                      refine pure_ (i := 8) (N := some 53) (v := ?_) (a' := ?_) #[true, true, true, true, false, false, true, true, true, false, false, false, false, false, false] rfl rfl (any_of HT_.out (by kernel_rfl)) (fun _ _ _ h => h) (Or.inl ⟨by rfl, ?_⟩) ?_ ?_
                      rotate_left
                      · intro w'
                        go_simp
                        with_reducible rfl
                      rotate_left
                      · simp only [Act.put, List.setIfInBounds_toArray, List.set_cons_zero, List.set_cons_succ, i64_w, i32_w]
                        rfl
                      refine take_ (i := 4) (N := some 49) (v := ?_) (a' := ?_) #[true, true, true, true, true, false, true, true, true, false, false, false, false, false, false] rfl rfl (take_ofW HT_.out HW_.out (by kernel_rfl)) (fun _ _ _ h => h) (Or.inl ⟨by rfl, ?_⟩) hHeld ?_ ?_
                      rotate_left
                      · rintro w' ⟨s0, s1⟩
                        go_simp
                        with_reducible rfl
                      rotate_left
                      · simp only [Act.put, List.setIfInBounds_toArray, List.set_cons_zero, List.set_cons_succ, i64_w, i32_w]
                        rfl
                      refine take_ (i := 9) (N := some 54) (v := ?_) (a' := ?_) #[true, true, true, true, true, false, true, true, true, true, false, false, false, false, false] rfl rfl (take_ofW HT_.out HW_.out (by kernel_rfl)) (fun _ _ _ h => h) (Or.inl ⟨by rfl, ?_⟩) hHeld ?_ ?_
                      rotate_left
                      · rintro w' ⟨s0, s1⟩
                        go_simp
                        with_reducible rfl
                      rotate_left
                      · simp only [Act.put, List.setIfInBounds_toArray, List.set_cons_zero, List.set_cons_succ, i64_w, i32_w]
                        rfl
                      refine pure_ (i := 5) (N := some 50) (v := ?_) (a' := ?_) #[true, true, true, true, true, true, true, true, true, true, false, false, false, false, false] rfl rfl (any_of HT_.out (by kernel_rfl)) (fun _ _ _ h => h) (Or.inl ⟨by rfl, ?_⟩) ?_ ?_
                      rotate_left
                      · intro w'
                        go_simp
                        with_reducible rfl
                      rotate_left
                      · simp only [Act.put, List.setIfInBounds_toArray, List.set_cons_zero, List.set_cons_succ, i64_w, i32_w]
                        rfl
                      refine pure_ (i := 10) (N := some 55) (v := ?_) (a' := ?_) #[true, true, true, true, true, true, true, true, true, true, true, false, false, false, false] rfl rfl (any_of HT_.out (by kernel_rfl)) (fun _ _ _ h => h) (Or.inl ⟨by rfl, ?_⟩) ?_ ?_
                      rotate_left
                      · intro w'
                        go_simp
                        with_reducible rfl
                      rotate_left
                      · simp only [Act.put, List.setIfInBounds_toArray, List.set_cons_zero, List.set_cons_succ, i64_w, i32_w]
                        rfl
                      refine pure_ (i := 11) (N := some 56) (v := ?_) (a' := ?_) #[true, true, true, true, true, true, true, true, true, true, true, true, false, false, false] rfl rfl (any_of HT_.out (by kernel_rfl)) (fun _ _ _ h => h) (Or.inl ⟨by rfl, ?_⟩) ?_ ?_
                      rotate_left
                      · intro w'
                        go_simp
                        with_reducible rfl
                      rotate_left
                      · simp only [Act.put, List.setIfInBounds_toArray, List.set_cons_zero, List.set_cons_succ, i64_w, i32_w]
                        rfl
                      refine pure_ (i := 12) (N := some 57) (v := ?_) (a' := ?_) #[true, true, true, true, true, true, true, true, true, true, true, true, true, false, false] rfl rfl (any_of HT_.out (by kernel_rfl)) (fun _ _ _ h => h) (Or.inl ⟨by rfl, ?_⟩) ?_ ?_
                      rotate_left
                      · intro w'
                        go_simp
                        with_reducible rfl
                      rotate_left
                      · simp only [Act.put, List.setIfInBounds_toArray, List.set_cons_zero, List.set_cons_succ, i64_w, i32_w]
                        rfl
                      refine pure_ (i := 13) (N := some 58) (v := ?_) (a' := ?_) #[true, true, true, true, true, true, true, true, true, true, true, true, true, true, false] rfl rfl (any_of HT_.out (by kernel_rfl)) (fun _ _ _ h => h) (Or.inl ⟨by rfl, ?_⟩) ?_ ?_
                      rotate_left
                      · intro w'
                        go_simp
                        with_reducible rfl
                      rotate_left
                      · simp only [Act.put, List.setIfInBounds_toArray, List.set_cons_zero, List.set_cons_succ, i64_w, i32_w]
                        rfl
                      refine last_ (i := 14) (N := none) #[true, true, true, true, true, true, true, true, true, true, true, true, true, true, true] rfl rfl (one_of HT_.out (by kernel_rfl)) (by decide) (fun K hK => ?_)
                      have hx_ := hHeld.1
                      have hf_ := blk_frozen HD.out.1 1
                      refine skip_ (w1 := ?_) ?hwx ?hN ?_ ?_; (case hwx => rfl); (case hN => rfl)
                      rotate_left
                      · go_simp
                        rfl
                      refine hK.out _ _ ?_
                      clear hK K
                      refine done_ (done_of HT_.out (by kernel_rfl)) ?_
                      have hgd_ := HD.out.1
                      have n0_ : Aside0 (DS (fun k_ => (okP k_ ∧ k_ ≠ ga) ∧ k_ ≠ gb) (w16.setCell ⟨g, 1, none⟩ (.int .i64 (Int.tmod (wrap64 (kk + 1)) (ds.length : Int)))) w0.heap.size g (.slice (some adD) ds.length cD) (Int.tmod (wrap64 (kk + 1)) (ds.length : Int)) left (.slice A1 zs.length c1) zs (.slice As ys.length cs) ys) := ⟨HD.out.putK _⟩
                      have n1_ : Aside0 ((w16.setCell ⟨g, 1, none⟩ (.int .i64 (Int.tmod (wrap64 (kk + 1)) (ds.length : Int)))).heap[ga]? = some (.cells #[.int .i64 ax, .int .i64 ay] 29 (0, 0))) := ⟨blk_far BA.out (p := ⟨g, 1, none⟩) (blk_ne BA.out hgd_ (by decide)) _⟩
                      have n2_ : Aside0 ((w16.setCell ⟨g, 1, none⟩ (.int .i64 (Int.tmod (wrap64 (kk + 1)) (ds.length : Int)))).heap[gb]? = some (.cells #[.int .i64 bx, .int .i64 by_] 29 (0, 0))) := ⟨blk_far BB.out (p := ⟨g, 1, none⟩) (blk_ne BB.out hgd_ (by decide)) _⟩
                      have n3_ : Aside0 (Below w0.heap.size w0 (w16.setCell ⟨g, 1, none⟩ (.int .i64 (Int.tmod (wrap64 (kk + 1)) (ds.length : Int))))) := ⟨below_set HB.out HG.out⟩
                      have n4_ : Aside0 (Kept w (w16.setCell ⟨g, 1, none⟩ (.int .i64 (Int.tmod (wrap64 (kk + 1)) (ds.length : Int)))) (fun k_ => k_ = g ∨ okP k_)) := ⟨Kept.setCell (p := ⟨g, 1, none⟩) HK.out (.inl (.inl rfl)) _⟩
                      have n5_ : Aside0 (w.heap.size ≤ (w16.setCell ⟨g, 1, none⟩ (.int .i64 (Int.tmod (wrap64 (kk + 1)) (ds.length : Int)))).heap.size) := ⟨n4_.out.1⟩
                      clear HD hHeld hx_ hf_ BA BB HB HK HZ hgd_
                      have HD := n0_
                      have BA := n1_
                      have BB := n2_
                      have HB := n3_
                      have HK := n4_
                      have HZ := n5_
                      clear n0_ n1_ n2_ n3_ n4_ n5_
                      generalize w16.setCell ⟨g, 1, none⟩ (.int .i64 (Int.tmod (wrap64 (kk + 1)) (ds.length : Int))) = w17 at HD BA BB HB HK HZ ⊢
                      go_wp2
                      refine start_ (n := 14) (S := fun w' => w'.cell? ⟨g, 0, none⟩ = some (.slice (some adD) ds.length cD) ∧ w'.cell? ⟨g, 1, none⟩ = some (.int .i64 (Int.tmod (wrap64 (kk + 1)) (ds.length : Int))) ∧ w'.cell? (adD.add (Int.tmod (wrap64 (kk + 1)) (ds.length : Int)).toNat) = some (.int .i64 (rd ds (Int.tmod (wrap64 (kk + 1)) (ds.length : Int))))) (ds := [13]) #[false, false, false, false, false, false, false, false, false, false, false, false, false, false] (by kernel_rfl) rfl rfl ⟨(blk_cell HD.out.1 0).trans rfl, (blk_cell HD.out.1 1).trans rfl, ((HB.out.cell (World.block_lt_of_cell? w0 _ hxD.out)).trans hxD.out)⟩ (fun hHeld => ?_); refine with_tabW da_piece.tab10 da_piece.bits10 (fun HT_ HW_ => ?_)
                      have n0_ := Aside0.mk (HD.out.drew)
                      have n1_ := Aside0.mk (blk_drew BA.out)
                      have n2_ := Aside0.mk (blk_drew BB.out)
                      have n3_ := Aside0.mk (HB.out.drew)
                      have n4_ := Aside0.mk (Kept.drew HK.out)
                      have n5_ := Aside0.mk (show w.heap.size ≤ w17.drew.heap.size from HZ.out)
                      clear HD BA BB HB HK HZ
                      have HD := n0_
                      have BA := n1_
                      have BB := n2_
                      have HB := n3_
                      have HK := n4_
                      have HZ := n5_
                      clear n0_ n1_ n2_ n3_ n4_ n5_
                      generalize w17.drew = w18 at HD BA BB HB HK HZ hHeld ⊢
                      refine pure_ (i := 0) (N := some 59) (v := ?_) (a' := ?_) #[true, false, false, false, false, false, false, false, false, false, false, false, false, false] rfl rfl (any_of HT_.out (by kernel_rfl)) (fun _ _ _ h => h) (Or.inl ⟨by rfl, ?_⟩) ?_ ?_
                      rotate_left
                      · intro w'
                        go_simp
                        with_reducible rfl
                      rotate_left
                      · simp only [Act.put, List.setIfInBounds_toArray, List.set_cons_zero, List.set_cons_succ, i64_w, i32_w]
                        rfl
                      refine pure_ (i := 1) (N := some 60) (v := ?_) (a' := ?_) #[true, true, false, false, false, false, false, false, false, false, false, false, false, false] rfl rfl (any_of HT_.out (by kernel_rfl)) (fun _ _ _ h => h) (Or.inl ⟨by rfl, ?_⟩) ?_ ?_
                      rotate_left
                      · intro w'
                        go_simp
                        with_reducible rfl
                      rotate_left
                      · simp only [Act.put, List.setIfInBounds_toArray, List.set_cons_zero, List.set_cons_succ, i64_w, i32_w]
                        rfl
                      refine pure_ (i := 2) (N := some 61) (v := ?_) (a' := ?_) #[true, true, true, false, false, false, false, false, false, false, false, false, false, false] rfl rfl (any_of HT_.out (by kernel_rfl)) (fun _ _ _ h => h) (Or.inl ⟨by rfl, ?_⟩) ?_ ?_
                      rotate_left
                      · intro w'
                        go_simp
                        with_reducible rfl
                      rotate_left
                      · simp only [Act.put, List.setIfInBounds_toArray, List.set_cons_zero, List.set_cons_succ, i64_w, i32_w]
                        rfl
                      refine pure_ (i := 3) (N := some 62) (v := ?_) (a' := ?_) #[true, true, true, true, false, false, false, false, false, false, false, false, false, false] rfl rfl (any_of HT_.out (by kernel_rfl)) (fun _ _ _ h => h) (Or.inl ⟨by rfl, ?_⟩) ?_ ?_
                      rotate_left
                      · intro w'
                        go_simp
                        with_reducible rfl
                      rotate_left
                      · simp only [Act.put, List.setIfInBounds_toArray, List.set_cons_zero, List.set_cons_succ, i64_w, i32_w]
                        rfl
                      refine pure_ (i := 5) (N := some 64) (v := ?_) (a' := ?_) #[true, true, true, true, false, true, false, false, false, false, false, false, false, false] rfl rfl (any_of HT_.out (by kernel_rfl)) (fun _ _ _ h => h) (Or.inl ⟨by rfl, ?_⟩) ?_ ?_
                      rotate_left
                      · intro w'
                        go_simp
                        with_reducible rfl
                      rotate_left
                      · simp only [Act.put, List.setIfInBounds_toArray, List.set_cons_zero, List.set_cons_succ, i64_w, i32_w]
                        rfl
                      refine pure_ (i := 6) (N := some 65) (v := ?_) (a' := ?_) #[true, true, true, true, false, true, true, false, false, false, false, false, false, false] rfl rfl (any_of HT_.out (by kernel_rfl)) (fun _ _ _ h => h) (Or.inl ⟨by rfl, ?_⟩) ?_ ?_
                      rotate_left
                      · intro w'
                        go_simp
                        with_reducible rfl
                      rotate_left
                      · simp only [Act.put, List.setIfInBounds_toArray, List.set_cons_zero, List.set_cons_succ, i64_w, i32_w]
                        rfl
                      refine pure_ (i := 7) (N := some 66) (v := ?_) (a' := ?_) #[true, true, true, true, false, true, true, true, false, false, false, false, false, false] rfl rfl (any_of HT_.out (by kernel_rfl)) (fun _ _ _ h => h) (Or.inl ⟨by rfl, ?_⟩) ?_ ?_
                      rotate_left
                      · intro w'
                        go_simp
                        with_reducible rfl
                      rotate_left
                      · simp only [Act.put, List.setIfInBounds_toArray, List.set_cons_zero, List.set_cons_succ, i64_w, i32_w]
                        rfl
                      refine take_ (i := 4) (N := some 63) (v := ?_) (a' := ?_) #[true, true, true, true, true, true, true, true, false, false, false, false, false, false] rfl rfl (take_ofW HT_.out HW_.out (by kernel_rfl)) (fun _ _ _ h => h) (Or.inl ⟨by rfl, ?_⟩) hHeld ?_ ?_
                      rotate_left
                      · rintro w' ⟨s0, s1, s2⟩
                        go_simp
                        with_reducible rfl
                      rotate_left
                      · simp only [Act.put, List.setIfInBounds_toArray, List.set_cons_zero, List.set_cons_succ, i64_w, i32_w]
                        rfl
                      refine take_ (i := 8) (N := some 67) (v := ?_) (a' := ?_) #[true, true, true, true, true, true, true, true, true, false, false, false, false, false] rfl rfl (take_ofW HT_.out HW_.out (by kernel_rfl)) (fun _ _ _ h => h) (Or.inl ⟨by rfl, ?_⟩) hHeld ?_ ?_
                      rotate_left
                      · rintro w' ⟨s0, s1, s2⟩
                        go_simp
                        with_reducible rfl
                      rotate_left
                      · simp only [Act.put, List.setIfInBounds_toArray, List.set_cons_zero, List.set_cons_succ, i64_w, i32_w]
                        rfl
                      refine pure_ (i := 9) (N := some 68) (v := ?_) (a' := ?_) #[true, true, true, true, true, true, true, true, true, true, false, false, false, false] rfl rfl (any_of HT_.out (by kernel_rfl)) (fun _ _ _ h => h) (Or.inl ⟨by rfl, ?_⟩) ?_ ?_
                      rotate_left
                      · intro w'
                        go_simp
                        with_reducible rfl
                      rotate_left
                      · simp only [Act.put, List.setIfInBounds_toArray, List.set_cons_zero, List.set_cons_succ, i64_w, i32_w]
                        rfl
                      refine take_ (i := 10) (N := some 69) (v := ?_) (a' := ?_) #[true, true, true, true, true, true, true, true, true, true, true, false, false, false] rfl rfl (take_ofW HT_.out HW_.out (by kernel_rfl)) (fun _ _ _ h => h) (Or.inl ⟨by rfl, ?_⟩) hHeld ?_ ?_
                      rotate_left
                      · rintro w' ⟨s0, s1, s2⟩
                        go_simp
                        with_reducible rfl
                      rotate_left
                      · simp only [Act.put, List.setIfInBounds_toArray, List.set_cons_zero, List.set_cons_succ, i64_w, i32_w]
                        rfl
                      refine pure_ (i := 11) (N := some 70) (v := ?_) (a' := ?_) #[true, true, true, true, true, true, true, true, true, true, true, true, false, false] rfl rfl (any_of HT_.out (by kernel_rfl)) (fun _ _ _ h => h) (Or.inl ⟨by rfl, ?_⟩) ?_ ?_
                      rotate_left
                      · intro w'
                        go_simp
                        with_reducible rfl
                      rotate_left
                      · simp only [Act.put, List.setIfInBounds_toArray, List.set_cons_zero, List.set_cons_succ, i64_w, i32_w]
                        rfl
                      refine pure_ (i := 12) (N := some 71) (v := ?_) (a' := ?_) #[true, true, true, true, true, true, true, true, true, true, true, true, true, false] rfl rfl (any_of HT_.out (by kernel_rfl)) (fun _ _ _ h => h) (Or.inl ⟨by rfl, ?_⟩) ?_ ?_
                      rotate_left
                      · intro w'
                        go_simp
                        with_reducible rfl
                      rotate_left
                      · simp only [Act.put, List.setIfInBounds_toArray, List.set_cons_zero, List.set_cons_succ, i64_w, i32_w]
                        rfl
                      refine last_ (i := 13) (N := none) #[true, true, true, true, true, true, true, true, true, true, true, true, true, true] rfl rfl (one_of HT_.out (by kernel_rfl)) (by decide) (fun K hK => ?_)
                      have hx_ : w18.cell? ⟨g, 2, none⟩ = some (.int .i64 left) := (blk_cell HD.out.1 2).trans rfl
                      have hf_ := blk_frozen HD.out.1 2
                      refine skip_ (w1 := ?_) ?hwx ?hN ?_ ?_; (case hwx => rfl); (case hN => rfl)
                      rotate_left
                      · go_simp
                        rfl
                      refine hK.out _ _ ?_
                      clear hK K
                      refine done_ (done_of HT_.out (by kernel_rfl)) ?_
                      have hgd_ := HD.out.1
                      have n0_ : Aside0 (DS (fun k_ => (okP k_ ∧ k_ ≠ ga) ∧ k_ ≠ gb) (w18.setCell ⟨g, 2, none⟩ (.int .i64 (rd ds (Int.tmod (wrap64 (kk + 1)) (ds.length : Int))))) w0.heap.size g (.slice (some adD) ds.length cD) (Int.tmod (wrap64 (kk + 1)) (ds.length : Int)) (rd ds (Int.tmod (wrap64 (kk + 1)) (ds.length : Int))) (.slice A1 zs.length c1) zs (.slice As ys.length cs) ys) := ⟨HD.out.putL _⟩
                      have n1_ : Aside0 ((w18.setCell ⟨g, 2, none⟩ (.int .i64 (rd ds (Int.tmod (wrap64 (kk + 1)) (ds.length : Int))))).heap[ga]? = some (.cells #[.int .i64 ax, .int .i64 ay] 29 (0, 0))) := ⟨blk_far BA.out (p := ⟨g, 2, none⟩) (blk_ne BA.out hgd_ (by decide)) _⟩
                      have n2_ : Aside0 ((w18.setCell ⟨g, 2, none⟩ (.int .i64 (rd ds (Int.tmod (wrap64 (kk + 1)) (ds.length : Int))))).heap[gb]? = some (.cells #[.int .i64 bx, .int .i64 by_] 29 (0, 0))) := ⟨blk_far BB.out (p := ⟨g, 2, none⟩) (blk_ne BB.out hgd_ (by decide)) _⟩
                      have n3_ : Aside0 (Below w0.heap.size w0 (w18.setCell ⟨g, 2, none⟩ (.int .i64 (rd ds (Int.tmod (wrap64 (kk + 1)) (ds.length : Int)))))) := ⟨below_set HB.out HG.out⟩
                      have n4_ : Aside0 (Kept w (w18.setCell ⟨g, 2, none⟩ (.int .i64 (rd ds (Int.tmod (wrap64 (kk + 1)) (ds.length : Int))))) (fun k_ => k_ = g ∨ okP k_)) := ⟨Kept.setCell (p := ⟨g, 2, none⟩) HK.out (.inl (.inl rfl)) _⟩
                      have n5_ : Aside0 (w.heap.size ≤ (w18.setCell ⟨g, 2, none⟩ (.int .i64 (rd ds (Int.tmod (wrap64 (kk + 1)) (ds.length : Int))))).heap.size) := ⟨n4_.out.1⟩
                      clear HD hHeld hx_ hf_ BA BB HB HK HZ hgd_
                      have HD := n0_
                      have BA := n1_
                      have BB := n2_
                      have HB := n3_
                      have HK := n4_
                      have HZ := n5_
                      clear n0_ n1_ n2_ n3_ n4_ n5_
                      generalize w18.setCell ⟨g, 2, none⟩ (.int .i64 (rd ds (Int.tmod (wrap64 (kk + 1)) (ds.length : Int)))) = w19 at HD BA BB HB HK HZ ⊢
                      try go_wp2
                      go_roundg k1
                      case measure => have := HK1.out; omega
                      case rel => exact ⟨(wrap64 (at_ + left)), (Int.tmod (wrap64 (kk + 1)) (ds.length : Int)), (rd ds (Int.tmod (wrap64 (kk + 1)) (ds.length : Int))), _, _, zs, _, _, ys, rfl, ⟨by rw [HZS.out]; exact H'.out⟩, ⟨by have := HK1.out; omega⟩, HD, BA, BB, HB, HK, HZ⟩
                  · rw [if_neg c2] at H; exact absurd H (by simp)
                · rw [if_neg c1] at H; exact absurd H (by simp)
            · rw [if_neg cy] at H; exact absurd H (by simp)
          · rw [if_neg cx] at H; exact absurd H (by simp)
        · rw [if_neg c4] at H
          have c4b : decide (wrap64 (n - at_) > left) = false := decide_eq_false c4
          clear c4
          by_cases ck : Int.tmod kk 2 = 0
          · rw [if_pos ck] at H
            have ckb : (Int.tmod kk 2 == 0) = true := by rw [ck]; rfl
            clear ck
            by_cases cx : xs.length < 8796093022208
            · rw [if_pos cx] at H
              have HXL := Aside0.mk cx
              clear cx
              simp only [Option.some.injEq, Prod.mk.injEq] at H
              obtain ⟨rfl, rfl, rfl, rfl⟩ := H
              have hx0_ : wr.cell? ⟨g, 0, none⟩ = some (.slice AD ds.length cD) := (blk_cell HD.out.1 0).trans rfl
              have hx1_ : wr.cell? ⟨g, 1, none⟩ = some (.int .i64 kk) := (blk_cell HD.out.1 1).trans rfl
              have hx2_ : wr.cell? ⟨g, 2, none⟩ = some (.int .i64 left) := (blk_cell HD.out.1 2).trans rfl
              have hx3_ : wr.cell? ⟨g, 3, none⟩ = some (.slice Ao xs.length co) := (blk_cell HD.out.1 3).trans rfl
              have hx4_ : wr.cell? ⟨g, 4, none⟩ = some (.slice As ys.length cs) := (blk_cell HD.out.1 4).trans rfl
              have hf1_ := blk_frozen HD.out.1 1
              have hf2_ := blk_frozen HD.out.1 2
              have hf3_ := blk_frozen HD.out.1 3
              go_wp2_with (first | ((with_reducible refine gate_callee (f := 51) rfl ?_); refine goesL_ (some 83) rfl rfl Try.func51 (by kernel_rfl) rfl #[.pointer (some ⟨g, 0, none⟩)] rfl (by (try simp only [List.map_toArray, List.map_cons, List.map_nil]); first | done | rfl) ?_; (with_reducible refine (da_isOn g _ kk _ _ _ _ (DS.hp (DS.putL HD.out (wrap64 (left - wrap64 (n - at_)))))).mono ?_); rintro e w14 ⟨rfl, rfl⟩; refine ⟨_, rfl, ?_⟩))
              clear hx0_ hx1_ hx2_ hx3_ hx4_ hf1_ hf2_ hf3_
              have hgd_ := HD.out.1
              have n0_ : Aside0 (DS (fun k_ => (okP k_ ∧ k_ ≠ ga) ∧ k_ ≠ gb) (wr.setCell ⟨g, 2, none⟩ (.int .i64 (wrap64 (left - wrap64 (n - at_))))) w0.heap.size g (.slice AD ds.length cD) kk (wrap64 (left - wrap64 (n - at_))) (.slice Ao xs.length co) xs (.slice As ys.length cs) ys) := ⟨HD.out.putL _⟩
              have n1_ : Aside0 ((wr.setCell ⟨g, 2, none⟩ (.int .i64 (wrap64 (left - wrap64 (n - at_))))).heap[ga]? = some (.cells #[.int .i64 ax, .int .i64 ay] 29 (0, 0))) := ⟨blk_far BA.out (p := ⟨g, 2, none⟩) (blk_ne BA.out hgd_ (by decide)) _⟩
              have n2_ : Aside0 ((wr.setCell ⟨g, 2, none⟩ (.int .i64 (wrap64 (left - wrap64 (n - at_))))).heap[gb]? = some (.cells #[.int .i64 bx, .int .i64 by_] 29 (0, 0))) := ⟨blk_far BB.out (p := ⟨g, 2, none⟩) (blk_ne BB.out hgd_ (by decide)) _⟩
              have n3_ : Aside0 (Below w0.heap.size w0 (wr.setCell ⟨g, 2, none⟩ (.int .i64 (wrap64 (left - wrap64 (n - at_)))))) := ⟨below_set HB.out HG.out⟩
              have n4_ : Aside0 (Kept w (wr.setCell ⟨g, 2, none⟩ (.int .i64 (wrap64 (left - wrap64 (n - at_))))) (fun k_ => k_ = g ∨ okP k_)) := ⟨Kept.setCell (p := ⟨g, 2, none⟩) HK.out (.inl (.inl rfl)) _⟩
              have n5_ : Aside0 (w.heap.size ≤ (wr.setCell ⟨g, 2, none⟩ (.int .i64 (wrap64 (left - wrap64 (n - at_))))).heap.size) := ⟨n4_.out.1⟩
              clear HD BA BB HB HK HZ hgd_
              have HD := n0_
              have BA := n1_
              have BB := n2_
              have HB := n3_
              have HK := n4_
              have HZ := n5_
              clear n0_ n1_ n2_ n3_ n4_ n5_
              generalize wr.setCell ⟨g, 2, none⟩ (.int .i64 (wrap64 (left - wrap64 (n - at_)))) = w20 at HD BA BB HB HK HZ ⊢
              refine start_ (n := 11) (S := fun w' => w'.cell? ⟨g, 3, none⟩ = some (.slice Ao xs.length co) ∧ w'.cell? ⟨gb, 0, none⟩ = some (.int .i64 bx) ∧ w'.cell? ⟨gb, 1, none⟩ = some (.int .i64 by_)) (ds := [10]) #[false, false, false, false, false, false, false, false, false, false, false] (by kernel_rfl) rfl rfl ⟨(blk_cell HD.out.1 3).trans rfl, (blk_cell BB.out 0).trans rfl, (blk_cell BB.out 1).trans rfl⟩ (fun hHeld => ?_); refine with_tabW da_piece.tab13 da_piece.bits13 (fun HT_ HW_ => ?_)
              have n0_ := Aside0.mk (HD.out.drew)
              have n1_ := Aside0.mk (blk_drew BA.out)
              have n2_ := Aside0.mk (blk_drew BB.out)
              have n3_ := Aside0.mk (HB.out.drew)
              have n4_ := Aside0.mk (Kept.drew HK.out)
              have n5_ := Aside0.mk (show w.heap.size ≤ w20.drew.heap.size from HZ.out)
              clear HD BA BB HB HK HZ
              have HD := n0_
              have BA := n1_
              have BB := n2_
              have HB := n3_
              have HK := n4_
              have HZ := n5_
              clear n0_ n1_ n2_ n3_ n4_ n5_
              generalize w20.drew = w21 at HD BA BB HB HK HZ hHeld ⊢
              refine pure_ (i := 0) (N := some 84) (v := ?_) (a' := ?_) #[true, false, false, false, false, false, false, false, false, false, false] rfl rfl (any_of HT_.out (by kernel_rfl)) (fun _ _ _ h => h) (Or.inl ⟨by rfl, ?_⟩) ?_ ?_
              rotate_left
              · intro w'
                go_simp
                with_reducible rfl
              rotate_left
              · simp only [Act.put, List.setIfInBounds_toArray, List.set_cons_zero, List.set_cons_succ, i64_w, i32_w]
                rfl
              refine pure_ (i := 1) (N := some 85) (v := ?_) (a' := ?_) #[true, true, false, false, false, false, false, false, false, false, false] rfl rfl (any_of HT_.out (by kernel_rfl)) (fun _ _ _ h => h) (Or.inl ⟨by rfl, ?_⟩) ?_ ?_
              rotate_left
              · intro w'
                go_simp
                with_reducible rfl
              rotate_left
              · simp only [Act.put, List.setIfInBounds_toArray, List.set_cons_zero, List.set_cons_succ, i64_w, i32_w]
                rfl
              refine pure_ (i := 2) (N := some 86) (v := ?_) (a' := ?_) #[true, true, true, false, false, false, false, false, false, false, false] rfl rfl (any_of HT_.out (by kernel_rfl)) (fun _ _ _ h => h) (Or.inl ⟨by rfl, ?_⟩) ?_ ?_
              rotate_left
              · intro w'
                go_simp
                with_reducible rfl
              rotate_left
              · simp only [Act.put, List.setIfInBounds_toArray, List.set_cons_zero, List.set_cons_succ, i64_w, i32_w]
                rfl
              refine pure_ (i := 3) (N := some 87) (v := ?_) (a' := ?_) #[true, true, true, true, false, false, false, false, false, false, false] rfl rfl (any_of HT_.out (by kernel_rfl)) (fun _ _ _ h => h) (Or.inl ⟨by rfl, ?_⟩) ?_ ?_
              rotate_left
              · intro w'
                go_simp
                with_reducible rfl
              rotate_left
              · simp only [Act.put, List.setIfInBounds_toArray, List.set_cons_zero, List.set_cons_succ, i64_w, i32_w]
                rfl
              refine take_ (i := 4) (N := some 88) (v := ?_) (a' := ?_) #[true, true, true, true, true, false, false, false, false, false, false] rfl rfl (take_ofW HT_.out HW_.out (by kernel_rfl)) (fun _ _ _ h => h) (Or.inl ⟨by rfl, ?_⟩) hHeld ?_ ?_
              rotate_left
              · rintro w' ⟨s0, s1, s2⟩
                go_simp
                with_reducible rfl
              rotate_left
              · simp only [Act.put, List.setIfInBounds_toArray, List.set_cons_zero, List.set_cons_succ, i64_w, i32_w]
                rfl
              refine take_ (i := 5) (N := some 89) (v := ?_) (a' := ?_) #[true, true, true, true, true, true, false, false, false, false, false] rfl rfl (take_ofW HT_.out HW_.out (by kernel_rfl)) (fun _ _ _ h => h) (Or.inl ⟨by rfl, ?_⟩) hHeld ?_ ?_
              rotate_left
              · rintro w' ⟨s0, s1, s2⟩
                go_simp
                with_reducible rfl
              rotate_left
              · simp only [Act.put, List.setIfInBounds_toArray, List.set_cons_zero, List.set_cons_succ, i64_w, i32_w]
                rfl
              refine one_ (i := 6) (N := some 90) #[true, true, true, true, true, true, true, false, false, false, false] rfl rfl (one_of HT_.out (by kernel_rfl)) (by decide) (fun K hK => ?_)
              refine value_ (w1 := ?_) (v := ?_) (by rfl) rfl ?_ ?_
              rotate_left 2
              · go_simp
                constructor
                · rfl
                · rfl
              refine hK.out _ _ ⟨(blk_cell (blk_alloc HD.out.1 _) 3).trans rfl, (blk_cell (blk_alloc BB.out _) 0).trans rfl, (blk_cell (blk_alloc BB.out _) 1).trans rfl⟩ (fun hHeld => ?_)
              clear hK K
              refine norm_ (a' := ?_) ?_ ?_
              rotate_left
              · show Act.put _ (some 90) _ = _
                simp only [Act.put, List.setIfInBounds_toArray, List.set_cons_zero, List.set_cons_succ, i64_w, i32_w]
                rfl
              refine one_ (i := 7) (N := some 91) #[true, true, true, true, true, true, true, true, false, false, false] rfl rfl (one_of HT_.out (by kernel_rfl)) (by decide) (fun K hK => ?_)
              refine Kd.R_append_step k29 (w0 := w0) w0.heap.size (by rfl) (.tmp 88) (.tmp 90) 30 29 (.agg #[(.int .i64 0), (.int .i64 0)]) 16 rfl Try.underlying30 da_info29 rfl (by decide) (by omega) (.slice Ao xs.length co) xs (⟨bx, by_⟩ : S29) [.int .i64 bx, .int .i64 by_] (fun k_ => (okP k_ ∧ k_ ≠ ga) ∧ k_ ≠ gb) (fun _ => False) rfl rfl ?aP (fun _ hk => hk.elim) ?aF ?aO ?aB ?aS ?aL ?_
              (case aP => exact k29_mkM _ _ _ (⟨bx, by_⟩ : S29))
              (case aF => exact fun k_ hk => ⟨⟨HF.out k_ (Nat.le_trans HZ.out hk), fun e_ => by have := blk_lt BA.out; omega⟩, fun e_ => by have := blk_lt BB.out; omega⟩)
              (case aO => exact HD.out.2.1)
              (case aB => exact HB.out)
              (case aS => exact HB.out.size)
              (case aL => have := HXL.out; omega)
              intro v1 w22 ho hb hg hat
              obtain ⟨zs, hz_⟩ : ∃ zs : List S29, zs = xs ++ [(⟨bx, by_⟩ : S29)] := ⟨_, rfl⟩
              rw [← hz_] at ho
              have HZS := Aside0.mk hz_
              clear hz_
              obtain ⟨A1, c1, ev1⟩ := Kd.R_slice ho
              subst ev1
              have HQ := Aside0.mk (DS.putO HD.out ho hg hat)
              have HD1 := Aside0.mk (blk_grown HD.out.1 hg (Kd.R_ne HD.out.2.1 HD.out.1 (by decide)))
              have hga_ := blk_grown BA.out hg (fun e_ => (HD.out.2.1.1 _ e_.symm).1.2 rfl)
              have hgb_ := blk_grown BB.out hg (fun e_ => (HD.out.2.1.1 _ e_.symm).2 rfl)
              have n2_ := Aside0.mk (Kept.of_grown (S := (fun k_ => k_ = g ∨ okP k_)) hg HK.out (fun k_ e_ => .inl (.inr (HD.out.2.1.1 k_ e_).1.1)))
              have n3_ := Aside0.mk (Nat.le_trans HZ.out hg.size)
              clear HK HZ HB BA BB HD
              have HB := Aside0.mk hb
              have HK := n2_
              have HZ := n3_
              have BA := Aside0.mk hga_
              have BB := Aside0.mk hgb_
              clear n2_ n3_ hg hat ho hb hga_ hgb_
              refine hK.out _ _ ⟨(blk_cell HD1.out 3).trans rfl, (blk_cell BB.out 0).trans rfl, (blk_cell BB.out 1).trans rfl⟩ (fun hHeld => ?_)
              clear hK K
              refine norm_ (a' := ?_) ?_ ?_
              rotate_left
              · show Act.put _ (some 91) _ = _
                simp only [Act.put, List.setIfInBounds_toArray, List.set_cons_zero, List.set_cons_succ, i64_w, i32_w]
                rfl
              refine pure_ (i := 8) (N := some 92) (v := ?_) (a' := ?_) #[true, true, true, true, true, true, true, true, true, false, false] rfl rfl (any_of HT_.out (by kernel_rfl)) (fun _ _ _ h => h) (Or.inl ⟨by rfl, ?_⟩) ?_ ?_
              rotate_left
              · intro w'
                go_simp
                with_reducible rfl
              rotate_left
              · simp only [Act.put, List.setIfInBounds_toArray, List.set_cons_zero, List.set_cons_succ, i64_w, i32_w]
                rfl
              refine pure_ (i := 9) (N := some 93) (v := ?_) (a' := ?_) #[true, true, true, true, true, true, true, true, true, true, false] rfl rfl (any_of HT_.out (by kernel_rfl)) (fun _ _ _ h => h) (Or.inl ⟨by rfl, ?_⟩) ?_ ?_
              rotate_left
              · intro w'
                go_simp
                with_reducible rfl
              rotate_left
              · simp only [Act.put, List.setIfInBounds_toArray, List.set_cons_zero, List.set_cons_succ, i64_w, i32_w]
                rfl
              refine last_ (i := 10) (N := none) #[true, true, true, true, true, true, true, true, true, true, true] rfl rfl (one_of HT_.out (by kernel_rfl)) (by decide) (fun K hK => ?_)
              have hx_ := hHeld.1
              have hf_ := blk_frozen HD1.out 3
              refine skip_ (w1 := ?_) ?hwx ?hN ?_ ?_; (case hwx => rfl); (case hN => rfl)
              rotate_left
              · go_simp
                rfl
              refine hK.out _ _ ?_
              clear hK K
              refine done_ (done_of HT_.out (by kernel_rfl)) ?_
              have hgd_ := HD1.out
              have n0_ : Aside0 (DS (fun k_ => (okP k_ ∧ k_ ≠ ga) ∧ k_ ≠ gb) (w22.setCell ⟨g, 3, none⟩ (.slice A1 zs.length c1)) w0.heap.size g (.slice AD ds.length cD) kk (wrap64 (left - wrap64 (n - at_))) (.slice A1 zs.length c1) zs (.slice As ys.length cs) ys) := ⟨HQ.out⟩
              have n1_ : Aside0 ((w22.setCell ⟨g, 3, none⟩ (.slice A1 zs.length c1)).heap[ga]? = some (.cells #[.int .i64 ax, .int .i64 ay] 29 (0, 0))) := ⟨blk_far BA.out (p := ⟨g, 3, none⟩) (blk_ne BA.out hgd_ (by decide)) _⟩
              have n2_ : Aside0 ((w22.setCell ⟨g, 3, none⟩ (.slice A1 zs.length c1)).heap[gb]? = some (.cells #[.int .i64 bx, .int .i64 by_] 29 (0, 0))) := ⟨blk_far BB.out (p := ⟨g, 3, none⟩) (blk_ne BB.out hgd_ (by decide)) _⟩
              have n3_ : Aside0 (Below w0.heap.size w0 (w22.setCell ⟨g, 3, none⟩ (.slice A1 zs.length c1))) := ⟨below_set HB.out HG.out⟩
              have n4_ : Aside0 (Kept w (w22.setCell ⟨g, 3, none⟩ (.slice A1 zs.length c1)) (fun k_ => k_ = g ∨ okP k_)) := ⟨Kept.setCell (p := ⟨g, 3, none⟩) HK.out (.inl (.inl rfl)) _⟩
              have n5_ : Aside0 (w.heap.size ≤ (w22.setCell ⟨g, 3, none⟩ (.slice A1 zs.length c1)).heap.size) := ⟨n4_.out.1⟩
              clear HQ HD1 hHeld hx_ hf_ BA BB HB HK HZ hgd_
              have HD := n0_
              have BA := n1_
              have BB := n2_
              have HB := n3_
              have HK := n4_
              have HZ := n5_
              clear n0_ n1_ n2_ n3_ n4_ n5_
              generalize w22.setCell ⟨g, 3, none⟩ (.slice A1 zs.length c1) = w23 at HD BA BB HB HK HZ ⊢
              try go_wp2
              go_end0
              rw [← HZS.out]
              exact ⟨_, _, rfl, HD.out.mono (fun _ hk => hk.1.1), HB.out, HK.out⟩
            · rw [if_neg cx] at H; exact absurd H (by simp)
          · rw [if_neg ck] at H
            have ckb : (Int.tmod kk 2 == 0) = false := beq_eq_false_iff_ne.mpr ck
            clear ck
            simp only [Option.some.injEq, Prod.mk.injEq] at H
            obtain ⟨rfl, rfl, rfl, rfl⟩ := H
            have hx0_ : wr.cell? ⟨g, 0, none⟩ = some (.slice AD ds.length cD) := (blk_cell HD.out.1 0).trans rfl
            have hx1_ : wr.cell? ⟨g, 1, none⟩ = some (.int .i64 kk) := (blk_cell HD.out.1 1).trans rfl
            have hx2_ : wr.cell? ⟨g, 2, none⟩ = some (.int .i64 left) := (blk_cell HD.out.1 2).trans rfl
            have hx3_ : wr.cell? ⟨g, 3, none⟩ = some (.slice Ao xs.length co) := (blk_cell HD.out.1 3).trans rfl
            have hx4_ : wr.cell? ⟨g, 4, none⟩ = some (.slice As ys.length cs) := (blk_cell HD.out.1 4).trans rfl
            have hf1_ := blk_frozen HD.out.1 1
            have hf2_ := blk_frozen HD.out.1 2
            have hf3_ := blk_frozen HD.out.1 3
            go_wp2_with (first | ((with_reducible refine gate_callee (f := 51) rfl ?_); refine goesL_ (some 83) rfl rfl Try.func51 (by kernel_rfl) rfl #[.pointer (some ⟨g, 0, none⟩)] rfl (by (try simp only [List.map_toArray, List.map_cons, List.map_nil]); first | done | rfl) ?_; (with_reducible refine (da_isOn g _ kk _ _ _ _ (DS.hp (DS.putL HD.out (wrap64 (left - wrap64 (n - at_)))))).mono ?_); rintro e w14 ⟨rfl, rfl⟩; refine ⟨_, rfl, ?_⟩))
            clear hx0_ hx1_ hx2_ hx3_ hx4_ hf1_ hf2_ hf3_
            have hgd_ := HD.out.1
            have n0_ : Aside0 (DS (fun k_ => (okP k_ ∧ k_ ≠ ga) ∧ k_ ≠ gb) (wr.setCell ⟨g, 2, none⟩ (.int .i64 (wrap64 (left - wrap64 (n - at_))))) w0.heap.size g (.slice AD ds.length cD) kk (wrap64 (left - wrap64 (n - at_))) (.slice Ao xs.length co) xs (.slice As ys.length cs) ys) := ⟨HD.out.putL _⟩
            have n1_ : Aside0 ((wr.setCell ⟨g, 2, none⟩ (.int .i64 (wrap64 (left - wrap64 (n - at_))))).heap[ga]? = some (.cells #[.int .i64 ax, .int .i64 ay] 29 (0, 0))) := ⟨blk_far BA.out (p := ⟨g, 2, none⟩) (blk_ne BA.out hgd_ (by decide)) _⟩
            have n2_ : Aside0 ((wr.setCell ⟨g, 2, none⟩ (.int .i64 (wrap64 (left - wrap64 (n - at_))))).heap[gb]? = some (.cells #[.int .i64 bx, .int .i64 by_] 29 (0, 0))) := ⟨blk_far BB.out (p := ⟨g, 2, none⟩) (blk_ne BB.out hgd_ (by decide)) _⟩
            have n3_ : Aside0 (Below w0.heap.size w0 (wr.setCell ⟨g, 2, none⟩ (.int .i64 (wrap64 (left - wrap64 (n - at_)))))) := ⟨below_set HB.out HG.out⟩
            have n4_ : Aside0 (Kept w (wr.setCell ⟨g, 2, none⟩ (.int .i64 (wrap64 (left - wrap64 (n - at_))))) (fun k_ => k_ = g ∨ okP k_)) := ⟨Kept.setCell (p := ⟨g, 2, none⟩) HK.out (.inl (.inl rfl)) _⟩
            have n5_ : Aside0 (w.heap.size ≤ (wr.setCell ⟨g, 2, none⟩ (.int .i64 (wrap64 (left - wrap64 (n - at_))))).heap.size) := ⟨n4_.out.1⟩
            clear HD BA BB HB HK HZ hgd_
            have HD := n0_
            have BA := n1_
            have BB := n2_
            have HB := n3_
            have HK := n4_
            have HZ := n5_
            clear n0_ n1_ n2_ n3_ n4_ n5_
            generalize wr.setCell ⟨g, 2, none⟩ (.int .i64 (wrap64 (left - wrap64 (n - at_)))) = w20 at HD BA BB HB HK HZ ⊢
            try go_wp2
            go_end0
            exact ⟨_, _, rfl, HD.out.mono (fun _ hk => hk.1.1), HB.out, HK.out⟩
theorem S_one {α : Type} {d : Kd α} {e : Nat} {W : World} {base : Nat} {ok : Nat → Prop} {v : Value} {x : α} (h : (Kd.tag (fun _ => 0) d).R e W base ok v [(x, 0)]) : Kd.S d e W base ok v [x] := ⟨fun _ => 0, h⟩
theorem eqIn_nil30 (d : Nat) (A : Option Addr) (n c : Nat) (w : World) : (Op.equalIn (d + 1) 30 (.slice A n c) (.slice none 0 0)).run Try.prog w = .ok A.isNone w := by
  have hu := Try.underlying30
  cases A <;> simp [Op.equalIn, run_underlying hu]
theorem eq_nil30 (A : Option Addr) (n c : Nat) (w : World) : (binOp .eql 30 (.slice A n c) (.slice none 0 0)).run Try.prog w = .ok (.bool A.isNone) w := by
  simp only [binOp]
  simp [Op.equal, Op.maxDepth, eqIn_nil30 9999]
set_option maxHeartbeats 8000000 in
set_option maxRecDepth 100000 in
theorem da_clone (A0 : Option Addr) (c0 : Nat) (l0 : List S29) (w : World) (hr0 : Kd.C k29 w A0 l0.length l0) (hc0 : l0.length ≤ c0) (hl : l0.length < 8796093022208) :
    Calls Try.prog 50 #[.slice A0 l0.length c0] w fun e w' => ∃ v : Value, e = .returned v ∧ Kd.R k29 29 w' w.heap.size (fun _ => True) v l0 ∧ Below w.heap.size w w' := by
  have HR := Aside0.mk hr0
  have HL := Aside0.mk hl
  clear hl
  cases A0 with
  | none =>
    have e0 : l0 = [] := by
      cases l0 with
      | nil => rfl
      | cons x t =>
        obtain ⟨ad, e, _⟩ := at_T29 hr0 0 (by omega) (by simp)
        cases e
    subst e0
    clear hr0 hc0
    have hq := fun w => eq_nil30 none 0 c0 w
    go_enter Try.func50, Try.ntmps50
    go_wp2
    go_ret
    exact ⟨_, rfl, Kd.R_nil _ _ _ _ _, Below.refl _ _⟩
  | some ad =>
    have HC := Aside0.mk hc0
    clear hr0 hc0
    have HB := Aside0.mk (Below.refl w.heap.size w)
    have hq := fun w => eq_nil30 (some ad) l0.length c0 w
    go_enter Try.func50, Try.ntmps50
    go_wp2_with (first | ((with_reducible refine gate_dst (N := 5) rfl ?_); refine Kd.R_lit k29 w.heap.size 29 ?hg (N := 5) ?hd (xs := ([] : List (S29))) (inner := []) (ok := fun _ => True) (okp := fun _ => True) ?hr ?hp (fun _ hk => hk) trivial HB.out HB.out.size (by simp) ?_; (case hd => rfl); (case hg => rfl); (case hr => first | (go_simp; done) | (go_simp; rfl)); (case hp => exact (Reps.none _ _)); intro v270 w22 ho hb hg_ hnew_; clear hg_ hnew_; clear HB; have HB := Aside0.mk hb; have HO := Aside0.mk ho; clear ho hb) | ((with_reducible refine gate_builtin (b := .append) (xs := #[.tmp 5, .tmp 6]) rfl ?_); at_builtin; refine Kd.R_append_rows k29 (w0 := w) w.heap.size rfl (.tmp 5) (.tmp 6) 30 29 (.agg #[(.int .i64 0), (.int .i64 0)]) 16 rfl Try.underlying30 da_info29 rfl (by decide) (by omega) v270 ([] : List S29) l0 _ _ _ (fun _ => True) (fun _ => False) rfl rfl ?aO ?aR (fun _ _ h => h) (fun _ h => h.elim) ?aF ?aB ?aS ?aL ?_; (case aR => exact Kd.C_below HR.out HB.out); (case aB => exact HB.out); (case aF => exact (fun _ _ => trivial)); (case aO => exact HO.out); (case aS => exact HB.out.size); (case aL => have := HL.out; simp only [List.length_nil]; omega); intro v273 w24 ho hb hg hat; rw [List.nil_append] at ho; clear HB HO hg hat; have HB := Aside0.mk hb; have HO := Aside0.mk ho; clear ho hb))
    go_ret
    exact ⟨_, rfl, HO.out, HB.out⟩
def da_of.T22 : Bool × List (List Nat × List Nat) := (true, [([], []), ([], []), ([1], [1]), ([0, 2], [0, 2]), ([3], [3]), ([], []), ([], []), ([5, 6], [5, 6]), ([7], [7]), ([4, 8], [4, 8])])
def da_of.B22 : List Nat := [0, 0, 2, 7, 15, 0, 0, 96, 224, 511]
theorem da_of.tab22 : rtab .any (opsOf Try.f11 22) = da_of.T22 := by kernel_rfl
theorem da_of.bits22 : waitsOk da_of.T22.2 da_of.B22 = true := by kernel_rfl
set_option maxHeartbeats 8000000 in
set_option maxRecDepth 100000 in
theorem impl_DashOf.calls (k : Nat) (A0 : Option Addr) (c0 : Nat) (l0 : List S29) (A1 : Option Addr) (c1 : Nat) (ds : List Int) (a2 : Int) (r : List (List S29)) (w : World) (hr0 : Kd.C k29 w A0 l0.length l0) (hc0 : l0.length ≤ c0) (hr1 : Kd.C (Kd.int .i64) w A1 ds.length ds) (hc1 : ds.length ≤ c1) (h : impl_DashOf.f k l0 ds a2 = some r) :
    Calls Try.prog 11 #[.slice A0 l0.length c0, .slice A1 ds.length c1, .int .i64 a2] w fun e w' => ∃ v0_ : Value, e = .returned (v0_) ∧ Kd.S (Kd.slice 29 k29) 30 w' w.heap.size (fun _ => True) v0_ r ∧ Below w.heap.size w w' := by
  have hu80 := Try.underlying80
  have hu29 := Try.underlying29
  have HR0 := Aside0.mk hr0
  have HC0 := Aside0.mk hc0
  have HR1 := Aside0.mk hr1
  have HC1 := Aside0.mk hc1
  clear hr0 hc0 hr1 hc1
  have HB := Aside0.mk (Below.refl w.heap.size w)
  unfold impl_DashOf.f at h
  obtain ⟨t, A50, H⟩ := Option.bind_eq_some_iff.mp h
  have A5 := Aside0.mk A50
  clear A50 h
  go_enter Try.func11, Try.ntmps11
  cases t with
  | false =>
    simp only [Bool.false_eq_true, if_false] at H
    obtain rfl := Option.some.inj H
    clear H
    go_wp2_with (first | ((with_reducible refine gate_callee (f := 12) rfl ?_); refine goesL_ (some 13) rfl rfl Try.func12 (by kernel_rfl) rfl #[.slice A1 ds.length c1] rfl (by (try simp only [List.map_toArray, List.map_cons, List.map_nil]); first | done | rfl) ?_; (with_reducible refine (impl_DashOk.calls k _ _ ds false _ ?side1 ?side2 A5.out).mono ?_); (case side1 => repeat (first | exact (Kd.C_below HR1.out HB.out) | (with_reducible refine Kd.C_alloc ?_ _) | (with_reducible refine Kd.C_drewN ?_ _) | (with_reducible refine Kd.C_drew ?_))); (case side2 => exact HC1.out); rintro e w' ⟨rfl, ⟨nd, rfl⟩⟩; refine ⟨_, rfl, ?_⟩))
    go_ret
    exact ⟨_, rfl, Kd.S_nil _ _ _ _ _, (by repeat (first | (with_reducible first | exact HB.out | apply below_alloc | apply pw_below_drewN | apply below_drew1) | exact HB.out))⟩
  | true =>
    simp only [if_true] at H
    by_cases c2 : (l0.length : Int) < 2
    · rw [if_pos c2] at H
      have c2b : decide ((l0.length : Int) < 2) = true := decide_eq_true c2
      clear c2
      obtain rfl := Option.some.inj H
      clear H
      go_wp2_with (first | ((with_reducible refine gate_callee (f := 12) rfl ?_); refine goesL_ (some 13) rfl rfl Try.func12 (by kernel_rfl) rfl #[.slice A1 ds.length c1] rfl (by (try simp only [List.map_toArray, List.map_cons, List.map_nil]); first | done | rfl) ?_; (with_reducible refine (impl_DashOk.calls k _ _ ds true _ ?side1 ?side2 A5.out).mono ?_); (case side1 => repeat (first | exact (Kd.C_below HR1.out HB.out) | (with_reducible refine Kd.C_alloc ?_ _) | (with_reducible refine Kd.C_drewN ?_ _) | (with_reducible refine Kd.C_drew ?_))); (case side2 => exact HC1.out); rintro e w' ⟨rfl, ⟨nd, rfl⟩⟩; refine ⟨_, rfl, ?_⟩))
      go_ret
      exact ⟨_, rfl, Kd.S_nil _ _ _ _ _, (by repeat (first | (with_reducible first | exact HB.out | apply below_alloc | apply pw_below_drewN | apply below_drew1) | exact HB.out))⟩
    · rw [if_neg c2] at H
      have c2b : decide ((l0.length : Int) < 2) = false := decide_eq_false c2
      have HLL := Aside0.mk c2
      clear c2
      obtain ⟨u, A60, H2⟩ := Option.bind_eq_some_iff.mp H
      clear H
      have H := H2
      clear H2
      have A6 := Aside0.mk A60
      clear A60
      cases u with
      | false =>
        simp only [Bool.false_eq_true, if_false] at H
        obtain rfl := Option.some.inj H
        clear H
        go_wp2_with (first | ((with_reducible refine gate_callee (f := 12) rfl ?_); refine goesL_ (some 13) rfl rfl Try.func12 (by kernel_rfl) rfl #[.slice A1 ds.length c1] rfl (by (try simp only [List.map_toArray, List.map_cons, List.map_nil]); first | done | rfl) ?_; (with_reducible refine (impl_DashOk.calls k _ _ ds true _ ?side1 ?side2 A5.out).mono ?_); (case side1 => repeat (first | exact (Kd.C_below HR1.out HB.out) | (with_reducible refine Kd.C_alloc ?_ _) | (with_reducible refine Kd.C_drewN ?_ _) | (with_reducible refine Kd.C_drew ?_))); (case side2 => exact HC1.out); rintro e w' ⟨rfl, ⟨nd, rfl⟩⟩; refine ⟨_, rfl, ?_⟩) | (go_at_call 48; (with_reducible refine (impl_inRange.calls a2 0 20000 false _ A6.out).mono ?_); rintro e w' ⟨rfl, ⟨nd, rfl⟩⟩))
        go_ret
        exact ⟨_, rfl, Kd.S_nil _ _ _ _ _, (by repeat (first | (with_reducible first | exact HB.out | apply below_alloc | apply pw_below_drewN | apply below_drew1) | exact HB.out))⟩
      | true =>
        simp only [if_true] at H
        obtain ⟨v, A70, H2⟩ := Option.bind_eq_some_iff.mp H
        clear H
        have H := H2
        clear H2
        have A7 := Aside0.mk A70
        clear A70
        cases v with
        | false =>
          simp only [Bool.false_eq_true, if_false] at H
          obtain rfl := Option.some.inj H
          clear H
          go_wp2_with (first | ((with_reducible refine gate_callee (f := 12) rfl ?_); refine goesL_ (some 13) rfl rfl Try.func12 (by kernel_rfl) rfl #[.slice A1 ds.length c1] rfl (by (try simp only [List.map_toArray, List.map_cons, List.map_nil]); first | done | rfl) ?_; (with_reducible refine (impl_DashOk.calls k _ _ ds true _ ?side1 ?side2 A5.out).mono ?_); (case side1 => repeat (first | exact (Kd.C_below HR1.out HB.out) | (with_reducible refine Kd.C_alloc ?_ _) | (with_reducible refine Kd.C_drewN ?_ _) | (with_reducible refine Kd.C_drew ?_))); (case side2 => exact HC1.out); rintro e w' ⟨rfl, ⟨nd, rfl⟩⟩; refine ⟨_, rfl, ?_⟩) | (go_at_call 48; (with_reducible refine (impl_inRange.calls a2 0 20000 true _ A6.out).mono ?_); rintro e w' ⟨rfl, ⟨nd, rfl⟩⟩) | (go_at_call 49; (with_reducible refine (impl_pointsOk.calls k _ _ l0 false _ ?side1 ?side2 A7.out).mono ?_); (case side1 => repeat (first | exact (Kd.C_below HR0.out HB.out) | (with_reducible refine Kd.C_alloc ?_ _) | (with_reducible refine Kd.C_drewN ?_ _) | (with_reducible refine Kd.C_drew ?_))); (case side2 => exact HC0.out); rintro e w9 ⟨rfl, hb⟩; have n0_ := Aside0.mk (below_step (by repeat (first | (with_reducible first | exact HB.out | apply below_alloc | apply pw_below_drewN | apply below_drew1) | exact HB.out)) hb); clear HB hb; have HB := n0_; clear n0_))
          go_ret
          exact ⟨_, rfl, Kd.S_nil _ _ _ _ _, (by repeat (first | (with_reducible first | exact HB.out | apply below_alloc | apply pw_below_drewN | apply below_drew1) | exact HB.out))⟩
        | true =>
          simp only [if_true] at H
          by_cases cz : (ds.length : Int) = 0
          · rw [if_pos cz] at H
            have czb : decide ((ds.length : Int) = 0) = true := decide_eq_true cz
            have czc : ((ds.length : Int) == 0) = true := beq_iff_eq.mpr cz
            have cze : (ds = []) = True := eq_true (by cases ds with | nil => rfl | cons x t => simp at cz; omega)
            clear cz
            by_cases cl : l0.length < 8796093022208
            · rw [if_pos cl] at H
              obtain rfl := Option.some.inj H
              clear H
              have HCL := Aside0.mk cl
              clear cl
              go_wp2_with (first | ((with_reducible refine gate_callee (f := 12) rfl ?_); refine goesL_ (some 13) rfl rfl Try.func12 (by kernel_rfl) rfl #[.slice A1 ds.length c1] rfl (by (try simp only [List.map_toArray, List.map_cons, List.map_nil]); first | done | rfl) ?_; (with_reducible refine (impl_DashOk.calls k _ _ ds true _ ?side1 ?side2 A5.out).mono ?_); (case side1 => repeat (first | exact (Kd.C_below HR1.out HB.out) | (with_reducible refine Kd.C_alloc ?_ _) | (with_reducible refine Kd.C_drewN ?_ _) | (with_reducible refine Kd.C_drew ?_))); (case side2 => exact HC1.out); rintro e w' ⟨rfl, ⟨nd, rfl⟩⟩; refine ⟨_, rfl, ?_⟩) | (go_at_call 48; (with_reducible refine (impl_inRange.calls a2 0 20000 true _ A6.out).mono ?_); rintro e w' ⟨rfl, ⟨nd, rfl⟩⟩) | (go_at_call 49; (with_reducible refine (impl_pointsOk.calls k _ _ l0 true _ ?side1 ?side2 A7.out).mono ?_); (case side1 => repeat (first | exact (Kd.C_below HR0.out HB.out) | (with_reducible refine Kd.C_alloc ?_ _) | (with_reducible refine Kd.C_drewN ?_ _) | (with_reducible refine Kd.C_drew ?_))); (case side2 => exact HC0.out); rintro e w9 ⟨rfl, hb⟩; have n0_ := Aside0.mk (below_step (by repeat (first | (with_reducible first | exact HB.out | apply below_alloc | apply pw_below_drewN | apply below_drew1) | exact HB.out)) hb); clear HB hb; have HB := n0_; clear n0_) | ((with_reducible refine gate_callee (f := 50) rfl ?_); refine goesL_ (some 34) rfl rfl Try.func50 (by kernel_rfl) rfl #[.slice A0 l0.length c0] rfl (by (try simp only [List.map_toArray, List.map_cons, List.map_nil]); first | done | rfl) ?_; (with_reducible refine (da_clone A0 c0 l0 _ ?side1 HC0.out HCL.out).mono ?_); (case side1 => repeat (first | exact (Kd.C_below HR0.out HB.out) | (with_reducible refine Kd.C_alloc ?_ _) | (with_reducible refine Kd.C_drewN ?_ _) | (with_reducible refine Kd.C_drew ?_))); rintro e w10 ⟨v1, rfl, hr, hb⟩; refine ⟨_, rfl, ?_⟩; obtain ⟨Av, cv, ev⟩ := Kd.R_slice hr; subst ev; have n0_ := Aside0.mk (Kd.R_lower hr (below_size (by repeat (first | (with_reducible first | exact HB.out | apply below_alloc | apply pw_below_drewN | apply below_drew1) | exact HB.out)))); have n1_ := Aside0.mk (below_step (by repeat (first | (with_reducible first | exact HB.out | apply below_alloc | apply pw_below_drewN | apply below_drew1) | exact HB.out)) hb); clear HB hr hb; have HO := n0_; have HB := n1_; clear n0_ n1_) | ((with_reducible refine gate_dst (N := 35) rfl ?_); refine Kd.R_lit (Kd.tag (fun _ => 0) (Kd.slice 29 k29)) w.heap.size 30 ?hg (N := 35) ?hd (xs := [(l0, 0)]) (inner := [.slice Av l0.length cv]) (ok := fun _ => True) (okp := fun _ => True) ?hr ?hp (fun _ hk => hk) trivial HB.out HB.out.size (by simp) ?_; (case hd => rfl); (case hg => rfl); (case hr => first | (go_simp; done) | (go_simp; rfl)); (case hp => exact (Reps.one (show (Kd.tag (fun _ => 0) (Kd.slice 29 k29)).M _ _ _ (l0, 0) [.slice Av l0.length cv] from Kd.M_row (Kd.R_mono HO.out (fun _ _ => ⟨trivial, rfl⟩))) (Reps.none _ _))); intro v11 w11 ho hb hg_ hnew_; clear hg_ hnew_ HB; have HS := Aside0.mk (S_one ho); have HB := Aside0.mk hb; clear ho hb))
              go_ret
              exact ⟨_, rfl, HS.out, HB.out⟩
            · rw [if_neg cl] at H; exact absurd H (by simp)
          · rw [if_neg cz] at H
            have czb : decide ((ds.length : Int) = 0) = false := decide_eq_false cz
            have czc : ((ds.length : Int) == 0) = false := beq_eq_false_iff_ne.mpr cz
            have cze : (ds = []) = False := eq_false (fun e_ => cz (by rw [e_]; rfl))
            clear cz
            unfold impl_DashOf.m at H
            obtain ⟨sm, A80, H2⟩ := Option.bind_eq_some_iff.mp H
            clear H
            have H := H2
            clear H2
            have A8 := Aside0.mk A80
            clear A80
            by_cases c0_ : sm = 0
            · rw [if_pos c0_] at H; exact absurd H (by simp)
            rw [if_neg c0_] at H
            have c0b : decide (sm = 0) = false := decide_eq_false c0_
            have c0c : (sm == 0) = false := beq_eq_false_iff_ne.mpr c0_
            have c0e : (sm = 0) = False := eq_false c0_
            clear c0_
            obtain ⟨⟨ph, kk⟩, A90, H2⟩ := Option.bind_eq_some_iff.mp H
            clear H
            have H := H2
            clear H2
            have A9 := Aside0.mk A90
            clear A90
            by_cases ck1 : 0 ≤ kk
            case neg => rw [if_neg ck1] at H; exact absurd H (by simp)
            rw [if_pos ck1] at H
            by_cases ck2 : kk < (ds.length : Int)
            case neg => rw [if_neg ck2] at H; exact absurd H (by simp)
            rw [if_pos ck2] at H
            obtain ⟨⟨k2, l2, x2, y2⟩, A100, H2⟩ := Option.bind_eq_some_iff.mp H
            clear H
            have H := H2
            clear H2
            have A10 := Aside0.mk A100
            clear A100
            by_cases cy : y2.length < 5864062014805
            case neg => rw [if_neg cy] at H; exact absurd H (by simp)
            rw [if_pos cy] at H
            have HYL := Aside0.mk cy
            clear cy
            have HRR := Aside0.mk (Option.some.inj H)
            clear H
            have HK1 := Aside0.mk ck1
            have HK2 := Aside0.mk ck2
            clear ck1 ck2
            go_wp2_with (first | ((with_reducible refine gate_callee (f := 12) rfl ?_); refine goesL_ (some 13) rfl rfl Try.func12 (by kernel_rfl) rfl #[.slice A1 ds.length c1] rfl (by (try simp only [List.map_toArray, List.map_cons, List.map_nil]); first | done | rfl) ?_; (with_reducible refine (impl_DashOk.calls k _ _ ds true _ ?side1 ?side2 A5.out).mono ?_); (case side1 => repeat (first | exact (Kd.C_below HR1.out HB.out) | (with_reducible refine Kd.C_alloc ?_ _) | (with_reducible refine Kd.C_drewN ?_ _) | (with_reducible refine Kd.C_drew ?_))); (case side2 => exact HC1.out); rintro e w' ⟨rfl, ⟨nd, rfl⟩⟩; refine ⟨_, rfl, ?_⟩) | (go_at_call 48; (with_reducible refine (impl_inRange.calls a2 0 20000 true _ A6.out).mono ?_); rintro e w' ⟨rfl, ⟨nd, rfl⟩⟩) | (go_at_call 49; (with_reducible refine (impl_pointsOk.calls k _ _ l0 true _ ?side1 ?side2 A7.out).mono ?_); (case side1 => repeat (first | exact (Kd.C_below HR0.out HB.out) | (with_reducible refine Kd.C_alloc ?_ _) | (with_reducible refine Kd.C_drewN ?_ _) | (with_reducible refine Kd.C_drew ?_))); (case side2 => exact HC0.out); rintro e w9 ⟨rfl, hb⟩; have n0_ := Aside0.mk (below_step (by repeat (first | (with_reducible first | exact HB.out | apply below_alloc | apply pw_below_drewN | apply below_drew1) | exact HB.out)) hb); clear HB hb; have HB := n0_; clear n0_))
            go_loopg [7, 38] k (fun kq v7 v38 w' => ∃ (s i : Int), v7 = .int .i64 s ∧ v38 = .int .i64 i ∧ Aside0 (impl_DashOf.s0 kq ds s i = some sm) ∧ Aside0 (kq ≤ k) ∧ Aside0 (Below w.heap.size w w'))
            case atStart => exact ⟨0, 0, rfl, rfl, A8, ⟨Nat.le_refl _⟩, ⟨(by repeat (first | (with_reducible first | exact HB.out | apply below_alloc | apply pw_below_drewN | apply below_drew1) | exact HB.out))⟩⟩
            case round =>
              clear HB A8
              try clear p2
              obtain ⟨s, i, rfl, rfl, HA, HQ1, HB⟩ := hrel
              cases gk with
              | zero => exact absurd HA.out (by simp [impl_DashOf.s0])
              | succ k1 =>
                have H := HA.out
                clear HA
                simp only [impl_DashOf.s0] at H
                by_cases c4 : i < (ds.length : Int)
                · rw [if_pos c4] at H
                  have c4b : decide (i < (ds.length : Int)) = true := decide_eq_true c4
                  by_cases c5 : 0 ≤ i
                  case neg => rw [if_neg c5] at H; exact absurd H (by simp)
                  rw [if_pos c5] at H
                  have H' := Aside0.mk H
                  clear H
                  obtain ⟨ad, e_, hx_⟩ := Kd.at_int HR1.out i c5 c4
                  cases e_
                  replace hx_ := (HB.out.cell (World.block_lt_of_cell? w _ hx_)).trans hx_
                  replace c4 := eq_true c4
                  replace c5 := eq_true c5
                  go_wp2
                  go_roundg k1
                  case measure => have := HQ1.out; omega
                  case rel => exact ⟨(wrap64 (s + rd ds i)), (wrap64 (i + 1)), rfl, rfl, H', ⟨by have := HQ1.out; omega⟩, HB⟩
                · rw [if_neg c4] at H
                  have c4b : decide (i < (ds.length : Int)) = false := decide_eq_false c4
                  clear c4
                  obtain rfl := Option.some.inj H
                  clear H HQ1
                  go_wp2_with (first | ((with_reducible refine gate_dst (N := 10) rfl ?_); refine box_event ?hg (N := 10) ?hd (cs := #[.slice none 0 0, .int .i64 0, .int .i64 0, .slice none 0 0, .slice none 0 0]) (t := 80) ?hr ?_; (case hd => rfl); (case hg => rfl); (case hr => first | (go_simp; done) | (go_simp; rfl)); intro gd hg w20 hbox hb; have GE := Aside0.mk ((by rw [hg]; exact HB.out.size : w.heap.size ≤ gd)); have n1_ := Aside0.mk (below_step HB.out hb); clear HB; have HB := n1_; clear n1_; have BK := Aside0.mk hbox; clear hb hbox hg; have hz0_ : w20.cell? ⟨gd, 0, none⟩ = some (.slice none 0 0) := (blk_cell BK.out 0).trans rfl; have hzf0_ := blk_frozen BK.out 0; have hz1_ : w20.cell? ⟨gd, 1, none⟩ = some (.int .i64 0) := (blk_cell BK.out 1).trans rfl; have hzf1_ := blk_frozen BK.out 1; have hz2_ : w20.cell? ⟨gd, 2, none⟩ = some (.int .i64 0) := (blk_cell BK.out 2).trans rfl; have hzf2_ := blk_frozen BK.out 2; have hz3_ : w20.cell? ⟨gd, 3, none⟩ = some (.slice none 0 0) := (blk_cell BK.out 3).trans rfl; have hzf3_ := blk_frozen BK.out 3; have hz4_ : w20.cell? ⟨gd, 4, none⟩ = some (.slice none 0 0) := (blk_cell BK.out 4).trans rfl; have hzf4_ := blk_frozen BK.out 4) | ((with_reducible refine gate_store (t := 80) (p := 10) rfl ?_); refine store_event (t := 80) (p := 10) (v := ?vo_) (w1 := (((((w20.setCell ⟨gd, 0, none⟩ (.slice A1 ds.length c1)).setCell ⟨gd, 1, none⟩ (.int .i64 0)).setCell ⟨gd, 2, none⟩ (.int .i64 0)).setCell ⟨gd, 3, none⟩ (.slice none 0 0)).setCell ⟨gd, 4, none⟩ (.slice none 0 0))) ?hg ?ho ?hn ?hr ?_; (case ho => rfl); (case hg => rfl); (case hn => rfl); (case hr => first | (go_simp; done) | (go_simp; rfl)); intro w21 hw; have HD : Aside0 (DS (fun _ => True) w21 w.heap.size gd (.slice A1 ds.length c1) 0 0 (.slice none 0 0) [] (.slice none 0 0) []) := ⟨by rw [hw]; exact ⟨blk_put (blk_put (blk_put (blk_put (blk_put BK.out 0 _ rfl) 1 _ rfl) 2 _ rfl) 3 _ rfl) 4 _ rfl, Kd.R_nil _ _ _ _ _, Kd.S_nil _ _ _ _ _⟩⟩; have n1_ : Aside0 (Below w.heap.size w w21) := ⟨by rw [hw]; exact below_set (below_set (below_set (below_set (below_set HB.out GE.out) GE.out) GE.out) GE.out) GE.out⟩; clear HB BK hw hz0_ hzf0_ hz1_ hzf1_ hz2_ hzf2_ hz3_ hzf3_ hz4_ hzf4_; have HB := n1_; clear n1_))
                  go_loopg [2] k (fun kq v2 w' => ∃ (p q : Int), v2 = .int .i64 p ∧ Aside0 (impl_DashOf.s1 kq ds p q = some (ph, kk)) ∧ Aside0 (kq ≤ k) ∧ Aside0 (DS (fun _ => True) w' w.heap.size gd (.slice A1 ds.length c1) q 0 (.slice none 0 0) [] (.slice none 0 0) []) ∧ Aside0 (Below w.heap.size w w'))
                  case atStart => exact ⟨_, 0, rfl, A9, ⟨Nat.le_refl _⟩, HD, HB⟩
                  case round =>
                    clear HB HD A9
                    try clear p2
                    obtain ⟨p, q, rfl, HA, HQ1, HD, HB⟩ := hrel
                    cases gk with
                    | zero => exact absurd HA.out (by simp [impl_DashOf.s1])
                    | succ k1 =>
                      have H := HA.out
                      clear HA
                      simp only [impl_DashOf.s1] at H
                      by_cases c5 : 0 ≤ q
                      case neg => rw [if_neg c5] at H; exact absurd H (by simp)
                      rw [if_pos c5] at H
                      by_cases c4 : q < (ds.length : Int)
                      case neg => rw [if_neg c4] at H; exact absurd H (by simp)
                      rw [if_pos c4] at H
                      obtain ⟨ad, e_, hx_⟩ := Kd.at_int HR1.out q c5 c4
                      cases e_
                      have hxD := Aside0.mk hx_
                      replace hx_ := (HB.out.cell (World.block_lt_of_cell? w _ hx_)).trans hx_
                      have hq1 := eq_true c4
                      have hq2 := eq_true c5
                      clear c4 c5
                      have hx1_ : wr.cell? ⟨gd, 1, none⟩ = some (.int .i64 q) := (blk_cell HD.out.1 1).trans rfl
                      have hf1_ := blk_frozen HD.out.1 1
                      by_cases c3 : p ≥ rd ds q
                      · rw [if_pos c3] at H
                        have c3b : decide (p ≥ rd ds q) = true := decide_eq_true c3
                        clear c3
                        have H' := Aside0.mk H
                        clear H
                        go_wp2
                        go_roundg k1
                        case measure => have := HQ1.out; omega
                        case rel => exact ⟨(wrap64 (p - rd ds q)), (wrap64 (q + 1)), rfl, H', ⟨by have := HQ1.out; omega⟩, ⟨HD.out.putK _⟩, ⟨below_set HB.out GE.out⟩⟩
                      · rw [if_neg c3] at H
                        have c3b : decide (p ≥ rd ds q) = false := decide_eq_false c3
                        clear c3
                        simp only [Option.some.injEq, Prod.mk.injEq] at H
                        obtain ⟨rfl, rfl⟩ := H
                        clear HQ1
                        have hx2_ : wr.cell? ⟨gd, 2, none⟩ = some (.int .i64 0) := (blk_cell HD.out.1 2).trans rfl
                        have hf2_ := blk_frozen HD.out.1 2
                        have hx3_ : wr.cell? ⟨gd, 3, none⟩ = some (.slice none 0 0) := (blk_cell HD.out.1 3).trans rfl
                        have hf3_ := blk_frozen HD.out.1 3
                        by_cases ck : Int.tmod q 2 = 0
                        · have ckb : (Int.tmod q 2 == 0) = true := by rw [ck]; rfl
                          have A11 := A10.out
                          simp only [if_pos ck] at A11
                          rw [if_pos (show (0 : Int) < (l0.length : Int) by have := HLL.out; omega)] at A11
                          have H' := Aside0.mk A11
                          clear A11 ck
                          obtain ⟨ad0, e0_, hw0_, hw1_⟩ := at_T29 HR0.out 0 (by omega) (by have := HLL.out; omega)
                          cases e0_
                          (try rw [show ((0 : Int)).toNat = 0 from rfl] at hw0_ hw1_)
                          (try rw [show 0 * 2 = 0 from rfl] at hw0_ hw1_)
                          (try rw [Addr.add_zero'] at hw0_ hw1_)
                          have hb0_ : ad0.block < wr.heap.size := Nat.lt_of_lt_of_le (World.block_lt_of_cell? w _ hw0_) HB.out.size
                          have hy0_ : (wr.setCell ⟨gd, 2, none⟩ (.int .i64 (wrap64 (rd ds q - p)))).cell? ad0 = some (.int .i64 (rd_T29 l0 0).f0) := ((below_set HB.out GE.out).cell (World.block_lt_of_cell? w _ hw0_)).trans hw0_
                          have hy1_ : (wr.setCell ⟨gd, 2, none⟩ (.int .i64 (wrap64 (rd ds q - p)))).cell? ⟨ad0.block, ad0.off + 1, none⟩ = some (.int .i64 (rd_T29 l0 0).f1) := ((below_set HB.out GE.out).cell (World.block_lt_of_cell? w _ hw1_)).trans hw1_
                          have hll_ : ((0 : Int) < (l0.length : Int)) = True := eq_true (by have := HLL.out; omega)
                          have hll2_ : (0 < l0.length) = True := eq_true (by have := HLL.out; omega)
                          clear hb0_ hw0_ hw1_
                          go_wp2_with (first | ((with_reducible refine gate_callee (f := 51) rfl ?_); refine goesL_ (some 77) rfl rfl Try.func51 (by kernel_rfl) rfl #[.pointer (some ⟨gd, 0, none⟩)] rfl (by (try simp only [List.map_toArray, List.map_cons, List.map_nil]); first | done | rfl) ?_; (with_reducible refine (da_isOn gd _ q _ _ _ _ (DS.hp (DS.putL HD.out (wrap64 (rd ds q - p))))).mono ?_); rintro e w30 ⟨rfl, rfl⟩; refine ⟨_, rfl, ?_⟩) | ((with_reducible refine gate_dst (N := 81) rfl ?_); refine Kd.R_lit k29 w.heap.size 29 ?hg (N := 81) ?hd (xs := [(⟨(rd_T29 l0 0).f0, (rd_T29 l0 0).f1⟩ : S29)]) (inner := [.int .i64 (rd_T29 l0 0).f0, .int .i64 (rd_T29 l0 0).f1]) (ok := fun _ => True) (okp := fun _ => False) ?hr ?hp (fun _ hk => hk.elim) trivial (below_set HB.out GE.out) (below_set HB.out GE.out).size (by simp) ?_; (case hd => rfl); (case hg => rfl); (case hr => first | (go_simp; done) | (go_simp; rfl)); (case hp => exact (Reps.c2 (k29_mkM _ _ _ (⟨(rd_T29 l0 0).f0, (rd_T29 l0 0).f1⟩ : S29)) (Reps.none _ _))); intro v31 w31 ho hb hg hnew_; have n0_ := Aside0.mk (DS.putO (DS.putL HD.out (wrap64 (rd ds q - p))) ho (by exact hg) (Or.inr hnew_)); have HD1 := Aside0.mk (blk_grown (DS.hp (DS.putL HD.out (wrap64 (rd ds q - p)))) hg (by simp)); have hx3b_ : w31.cell? ⟨gd, 3, none⟩ = some (.slice none 0 0) := (blk_cell HD1.out 3).trans rfl; have hf3b_ := blk_frozen HD1.out 3; clear HD HB HD1; have HD := n0_; have HB := Aside0.mk hb; clear n0_ ho hb hg hnew_ hy0_ hy1_; obtain ⟨Aq, cq, eq_⟩ : ∃ A c, v31 = .slice A ([(⟨(rd_T29 l0 0).f0, (rd_T29 l0 0).f1⟩ : S29)]).length c := Kd.R_slice HD.out.2.1; subst eq_))
                          go_loopg [11] k (fun kq v11 w' => ∃ (i kk left : Int) (vO : Value) (xs : List S29) (vS : Value) (ys : List (List S29)), v11 = .int .i64 i ∧ Aside0 (impl_DashOf.s2 kq l0 ds i kk left xs ys = some (k2, l2, x2, y2)) ∧ Aside0 (kq ≤ k) ∧ Aside0 (DS (fun _ => True) w' w.heap.size gd (.slice (some ad) ds.length c1) kk left vO xs vS ys) ∧ Aside0 (Below w.heap.size w w'))
                          case atStart => exact ⟨1, _, _, _, _, _, _, rfl, H', ⟨Nat.le_refl _⟩, HD, ⟨below_set HB.out GE.out⟩⟩
                          case round =>
                            clear HB HD H' A10
                            try clear hx_
                            try clear hx1_
                            try clear hf1_
                            try clear hx2_
                            try clear hf2_
                            try clear hx3_
                            try clear hf3_
                            try clear hx3b_
                            try clear hf3b_
                            obtain ⟨i, kk, left, vO, xs, vS, ys, rfl, HA, HQ2, HD, HB⟩ := hrel
                            cases gk with
                            | zero => exact absurd HA.out (by simp [impl_DashOf.s2])
                            | succ k1 =>
                              have H := HA.out
                              clear HA
                              simp only [impl_DashOf.s2] at H
                              by_cases c4 : i < (l0.length : Int)
                              · rw [if_pos c4] at H
                                by_cases c5 : 0 ≤ wrap64 (i - 1)
                                case neg => rw [if_neg c5] at H; exact absurd H (by simp)
                                rw [if_pos c5] at H
                                by_cases c6 : wrap64 (i - 1) < (l0.length : Int)
                                case neg => rw [if_neg c6] at H; exact absurd H (by simp)
                                rw [if_pos c6] at H
                                by_cases c7 : 0 ≤ i
                                case neg => rw [if_neg c7] at H; exact absurd H (by simp)
                                rw [if_pos c7] at H
                                obtain ⟨⟨k3, l3, x3, y3⟩, A120, H2⟩ := Option.bind_eq_some_iff.mp H
                                clear H
                                have A12 := Aside0.mk A120
                                clear A120
                                have H3 := Aside0.mk H2
                                clear H2
                                obtain ⟨_, e1_, hP0_, hP1_⟩ := at_T29 HR0.out (wrap64 (i - 1)) c5 c6
                                obtain rfl := Option.some.inj e1_
                                obtain ⟨_, e2_, hQ0_, hQ1_⟩ := at_T29 HR0.out i c7 c4
                                obtain rfl := Option.some.inj e2_
                                clear e1_ e2_
                                have hP0 := Aside0.mk hP0_
                                have hP1 := Aside0.mk hP1_
                                have hQ0 := Aside0.mk hQ0_
                                have hQ1 := Aside0.mk hQ1_
                                clear hP0_ hP1_ hQ0_ hQ1_
                                have c4b : decide (i < (l0.length : Int)) = true := decide_eq_true c4
                                replace c4 := eq_true c4
                                replace c5 := eq_true c5
                                replace c6 := eq_true c6
                                replace c7 := eq_true c7
                                go_wp2
                                refine start_ (n := 10) (S := fun w' => w'.cell? (ad0.add ((wrap64 (i - 1)).toNat * 2)) = some (.int .i64 (rd_T29 l0 (wrap64 (i - 1))).f0) ∧ w'.cell? ⟨(ad0.add ((wrap64 (i - 1)).toNat * 2)).block, (ad0.add ((wrap64 (i - 1)).toNat * 2)).off + 1, none⟩ = some (.int .i64 (rd_T29 l0 (wrap64 (i - 1))).f1) ∧ w'.cell? (ad0.add (i.toNat * 2)) = some (.int .i64 (rd_T29 l0 i).f0) ∧ w'.cell? ⟨(ad0.add (i.toNat * 2)).block, (ad0.add (i.toNat * 2)).off + 1, none⟩ = some (.int .i64 (rd_T29 l0 i).f1)) (ds := [9]) #[false, false, false, false, false, false, false, false, false, false] (by kernel_rfl) rfl rfl ⟨((HB.out.cell (World.block_lt_of_cell? w _ hP0.out)).trans hP0.out), ((HB.out.cell (World.block_lt_of_cell? w _ hP1.out)).trans hP1.out), ((HB.out.cell (World.block_lt_of_cell? w _ hQ0.out)).trans hQ0.out), ((HB.out.cell (World.block_lt_of_cell? w _ hQ1.out)).trans hQ1.out)⟩ (fun hHeld => ?_); refine with_tabW da_of.tab22 da_of.bits22 (fun HT_ HW_ => ?_)
                                have n0_ := Aside0.mk (DS.drew HD.out)
                                have n1_ := Aside0.mk HB.out.drew
                                clear HD HB
                                have HD := n0_
                                have HB := n1_
                                clear n0_ n1_
                                generalize wr.drew = w40 at HD HB hHeld ⊢
                                refine pure_ (i := 0) (N := some 89) (v := ?_) (a' := ?_) #[true, false, false, false, false, false, false, false, false, false] rfl rfl (any_of HT_.out (by kernel_rfl)) (fun _ _ _ h => h) (Or.inl ⟨by rfl, ?_⟩) ?_ ?_
                                rotate_left
                                · intro w'
                                  go_simp
                                  with_reducible rfl
                                rotate_left
                                · simp only [Act.put, List.setIfInBounds_toArray, List.set_cons_zero, List.set_cons_succ, i64_w, i32_w]
                                  rfl
                                refine pure_ (i := 1) (N := some 90) (v := ?_) (a' := ?_) #[true, true, false, false, false, false, false, false, false, false] rfl rfl (any_of HT_.out (by kernel_rfl)) (fun _ _ _ h => h) (Or.inl ⟨by rfl, ?_⟩) ?_ ?_
                                rotate_left
                                · intro w'
                                  go_simp
                                  with_reducible rfl
                                rotate_left
                                · simp only [Act.put, List.setIfInBounds_toArray, List.set_cons_zero, List.set_cons_succ, i64_w, i32_w]
                                  rfl
                                refine pure_ (i := 2) (N := some 91) (v := ?_) (a' := ?_) #[true, true, true, false, false, false, false, false, false, false] rfl rfl (any_of HT_.out (by kernel_rfl)) (fun _ _ _ h => h) (Or.inl ⟨by rfl, ?_⟩) ?_ ?_
                                rotate_left
                                · intro w'
                                  go_simp
                                  with_reducible rfl
                                rotate_left
                                · simp only [Act.put, List.setIfInBounds_toArray, List.set_cons_zero, List.set_cons_succ, i64_w, i32_w]
                                  rfl
                                refine pure_ (i := 3) (N := some 92) (v := ?_) (a' := ?_) #[true, true, true, true, false, false, false, false, false, false] rfl rfl (any_of HT_.out (by kernel_rfl)) (fun _ _ _ h => h) (Or.inl ⟨by rfl, ?_⟩) ?_ ?_
                                rotate_left
                                · intro w'
                                  go_simp
                                  with_reducible rfl
                                rotate_left
                                · simp only [Act.put, List.setIfInBounds_toArray, List.set_cons_zero, List.set_cons_succ, i64_w, i32_w]
                                  rfl
                                refine pure_ (i := 5) (N := some 94) (v := ?_) (a' := ?_) #[true, true, true, true, false, true, false, false, false, false] rfl rfl (any_of HT_.out (by kernel_rfl)) (fun _ _ _ h => h) (Or.inl ⟨by rfl, ?_⟩) ?_ ?_
                                rotate_left
                                · intro w'
                                  go_simp
                                  with_reducible rfl
                                rotate_left
                                · simp only [Act.put, List.setIfInBounds_toArray, List.set_cons_zero, List.set_cons_succ, i64_w, i32_w]
                                  rfl
                                refine pure_ (i := 6) (N := some 95) (v := ?_) (a' := ?_) #[true, true, true, true, false, true, true, false, false, false] rfl rfl (any_of HT_.out (by kernel_rfl)) (fun _ _ _ h => h) (Or.inl ⟨by rfl, ?_⟩) ?_ ?_
                                rotate_left
                                · intro w'
                                  go_simp
                                  with_reducible rfl
                                rotate_left
                                · simp only [Act.put, List.setIfInBounds_toArray, List.set_cons_zero, List.set_cons_succ, i64_w, i32_w]
                                  rfl
                                refine pure_ (i := 7) (N := some 96) (v := ?_) (a' := ?_) #[true, true, true, true, false, true, true, true, false, false] rfl rfl (any_of HT_.out (by kernel_rfl)) (fun _ _ _ h => h) (Or.inl ⟨by rfl, ?_⟩) ?_ ?_
                                rotate_left
                                · intro w'
                                  go_simp
                                  with_reducible rfl
                                rotate_left
                                · simp only [Act.put, List.setIfInBounds_toArray, List.set_cons_zero, List.set_cons_succ, i64_w, i32_w]
                                  rfl
                                refine take_ (i := 4) (N := some 93) (v := ?_) (a' := ?_) #[true, true, true, true, true, true, true, true, false, false] rfl rfl (take_ofW HT_.out HW_.out (by kernel_rfl)) (fun _ _ _ h => h) (Or.inl ⟨by rfl, ?_⟩) hHeld ?_ ?_
                                rotate_left
                                · rintro w' ⟨s0, s1, s2, s3⟩
                                  go_simp
                                  with_reducible rfl
                                rotate_left
                                · simp only [Act.put, List.setIfInBounds_toArray, List.set_cons_zero, List.set_cons_succ, i64_w, i32_w]
                                  rfl
                                refine take_ (i := 8) (N := some 97) (v := ?_) (a' := ?_) #[true, true, true, true, true, true, true, true, true, false] rfl rfl (take_ofW HT_.out HW_.out (by kernel_rfl)) (fun _ _ _ h => h) (Or.inl ⟨by rfl, ?_⟩) hHeld ?_ ?_
                                rotate_left
                                · rintro w' ⟨s0, s1, s2, s3⟩
                                  go_simp
                                  with_reducible rfl
                                rotate_left
                                · simp only [Act.put, List.setIfInBounds_toArray, List.set_cons_zero, List.set_cons_succ, i64_w, i32_w]
                                  rfl
                                refine last_ (i := 9) (N := some 98) #[true, true, true, true, true, true, true, true, true, true] rfl rfl (one_of HT_.out (by kernel_rfl)) (by decide) (fun K hK => ?_)
                                refine goes_ Try.func52 (by kernel_rfl) rfl #[.pointer (some ⟨gd, 0, none⟩), .agg #[.int .i64 (rd_T29 l0 (wrap64 (i - 1))).f0, .int .i64 (rd_T29 l0 (wrap64 (i - 1))).f1], .agg #[.int .i64 (rd_T29 l0 i).f0, .int .i64 (rd_T29 l0 i).f1]] (by rfl) rfl rfl (by (try simp only [List.map_toArray, List.map_cons, List.map_nil]); first | done | rfl) ?_
                                with_reducible refine (da_piece k1 (fun _ => True) gd (some ad) c1 ds _ _ _ _ kk left vO xs vS ys k3 l3 x3 y3 w _ HB.out GE.out (fun _ _ => trivial) HR1.out HD.out A12.out).mono ?_
                                rintro e w41 ⟨vO2, vS2, rfl, hd2, hb2, hkp_⟩
                                refine ⟨_, rfl, ?_⟩
                                clear HD HB hkp_ hHeld
                                have HD := Aside0.mk hd2
                                have HB := Aside0.mk hb2
                                clear hd2 hb2
                                refine hK.out _ _ ?_
                                clear hK K
                                refine done_ (done_of HT_.out (by kernel_rfl)) ?_
                                go_wp2
                                go_roundg k1
                                case measure => have := HQ2.out; omega
                                case rel => exact ⟨wrap64 (i + 1), k3, l3, vO2, x3, vS2, y3, rfl, H3, ⟨by have := HQ2.out; omega⟩, HD, HB⟩
                              · rw [if_neg c4] at H
                                have c4b : decide (i < (l0.length : Int)) = false := decide_eq_false c4
                                clear c4
                                simp only [Option.some.injEq, Prod.mk.injEq] at H
                                obtain ⟨rfl, rfl, rfl, rfl⟩ := H
                                clear HQ2
                                go_wp2_with (first | ((with_reducible refine gate_callee (f := 53) rfl ?_); refine goesL_ (some 99) rfl rfl Try.func53 (by kernel_rfl) rfl #[.pointer (some ⟨gd, 0, none⟩)] rfl (by (try simp only [List.map_toArray, List.map_cons, List.map_nil]); first | done | rfl) ?_; (with_reducible refine (da_end (fun _ => True) gd _ _ _ vO _ vS _ w _ HB.out GE.out (fun _ _ => trivial) HYL.out HD.out).mono ?_); rintro e w50 ⟨vS3, rfl, hd3, hb3, hkp_⟩; refine ⟨_, rfl, ?_⟩; clear HD HB hkp_; have HD := Aside0.mk hd3; have HB := Aside0.mk hb3; have hy4_ : w50.cell? ⟨gd, 4, none⟩ = some vS3 := (blk_cell HD.out.1 4).trans rfl; clear hd3 hb3))
                                go_ret
                                exact ⟨_, rfl, by rw [← HRR.out]; exact Kd.S_mono HD.out.2.2 (fun _ _ => trivial), HB.out⟩
                        · have ckb : (Int.tmod q 2 == 0) = false := beq_eq_false_iff_ne.mpr ck
                          have A11 := A10.out
                          simp only [if_neg ck] at A11
                          have H' := Aside0.mk A11
                          clear A11 ck
                          go_wp2_with (first | ((with_reducible refine gate_callee (f := 51) rfl ?_); refine goesL_ (some 77) rfl rfl Try.func51 (by kernel_rfl) rfl #[.pointer (some ⟨gd, 0, none⟩)] rfl (by (try simp only [List.map_toArray, List.map_cons, List.map_nil]); first | done | rfl) ?_; (with_reducible refine (da_isOn gd _ q _ _ _ _ (DS.hp (DS.putL HD.out (wrap64 (rd ds q - p))))).mono ?_); rintro e w30 ⟨rfl, rfl⟩; refine ⟨_, rfl, ?_⟩))
                          obtain ⟨ad0, e0_, hw0_, hw1_⟩ := at_T29 HR0.out 0 (by omega) (by have := HLL.out; omega)
                          cases e0_
                          clear hw0_ hw1_
                          go_loopg [11] k (fun kq v11 w' => ∃ (i kk left : Int) (vO : Value) (xs : List S29) (vS : Value) (ys : List (List S29)), v11 = .int .i64 i ∧ Aside0 (impl_DashOf.s2 kq l0 ds i kk left xs ys = some (k2, l2, x2, y2)) ∧ Aside0 (kq ≤ k) ∧ Aside0 (DS (fun _ => True) w' w.heap.size gd (.slice (some ad) ds.length c1) kk left vO xs vS ys) ∧ Aside0 (Below w.heap.size w w'))
                          case atStart => exact ⟨1, _, _, _, _, _, _, rfl, H', ⟨Nat.le_refl _⟩, ⟨HD.out.putL _⟩, ⟨below_set HB.out GE.out⟩⟩
                          case round =>
                            clear HB HD H' A10
                            try clear hx_
                            try clear hx1_
                            try clear hf1_
                            try clear hx2_
                            try clear hf2_
                            try clear hx3_
                            try clear hf3_
                            try clear hx3b_
                            try clear hf3b_
                            obtain ⟨i, kk, left, vO, xs, vS, ys, rfl, HA, HQ2, HD, HB⟩ := hrel
                            cases gk with
                            | zero => exact absurd HA.out (by simp [impl_DashOf.s2])
                            | succ k1 =>
                              have H := HA.out
                              clear HA
                              simp only [impl_DashOf.s2] at H
                              by_cases c4 : i < (l0.length : Int)
                              · rw [if_pos c4] at H
                                by_cases c5 : 0 ≤ wrap64 (i - 1)
                                case neg => rw [if_neg c5] at H; exact absurd H (by simp)
                                rw [if_pos c5] at H
                                by_cases c6 : wrap64 (i - 1) < (l0.length : Int)
                                case neg => rw [if_neg c6] at H; exact absurd H (by simp)
                                rw [if_pos c6] at H
                                by_cases c7 : 0 ≤ i
                                case neg => rw [if_neg c7] at H; exact absurd H (by simp)
                                rw [if_pos c7] at H
                                obtain ⟨⟨k3, l3, x3, y3⟩, A120, H2⟩ := Option.bind_eq_some_iff.mp H
                                clear H
                                have A12 := Aside0.mk A120
                                clear A120
                                have H3 := Aside0.mk H2
                                clear H2
                                obtain ⟨_, e1_, hP0_, hP1_⟩ := at_T29 HR0.out (wrap64 (i - 1)) c5 c6
                                obtain rfl := Option.some.inj e1_
                                obtain ⟨_, e2_, hQ0_, hQ1_⟩ := at_T29 HR0.out i c7 c4
                                obtain rfl := Option.some.inj e2_
                                clear e1_ e2_
                                have hP0 := Aside0.mk hP0_
                                have hP1 := Aside0.mk hP1_
                                have hQ0 := Aside0.mk hQ0_
                                have hQ1 := Aside0.mk hQ1_
                                clear hP0_ hP1_ hQ0_ hQ1_
                                have c4b : decide (i < (l0.length : Int)) = true := decide_eq_true c4
                                replace c4 := eq_true c4
                                replace c5 := eq_true c5
                                replace c6 := eq_true c6
                                replace c7 := eq_true c7
                                go_wp2
                                refine start_ (n := 10) (S := fun w' => w'.cell? (ad0.add ((wrap64 (i - 1)).toNat * 2)) = some (.int .i64 (rd_T29 l0 (wrap64 (i - 1))).f0) ∧ w'.cell? ⟨(ad0.add ((wrap64 (i - 1)).toNat * 2)).block, (ad0.add ((wrap64 (i - 1)).toNat * 2)).off + 1, none⟩ = some (.int .i64 (rd_T29 l0 (wrap64 (i - 1))).f1) ∧ w'.cell? (ad0.add (i.toNat * 2)) = some (.int .i64 (rd_T29 l0 i).f0) ∧ w'.cell? ⟨(ad0.add (i.toNat * 2)).block, (ad0.add (i.toNat * 2)).off + 1, none⟩ = some (.int .i64 (rd_T29 l0 i).f1)) (ds := [9]) #[false, false, false, false, false, false, false, false, false, false] (by kernel_rfl) rfl rfl ⟨((HB.out.cell (World.block_lt_of_cell? w _ hP0.out)).trans hP0.out), ((HB.out.cell (World.block_lt_of_cell? w _ hP1.out)).trans hP1.out), ((HB.out.cell (World.block_lt_of_cell? w _ hQ0.out)).trans hQ0.out), ((HB.out.cell (World.block_lt_of_cell? w _ hQ1.out)).trans hQ1.out)⟩ (fun hHeld => ?_); refine with_tabW da_of.tab22 da_of.bits22 (fun HT_ HW_ => ?_)
                                have n0_ := Aside0.mk (DS.drew HD.out)
                                have n1_ := Aside0.mk HB.out.drew
                                clear HD HB
                                have HD := n0_
                                have HB := n1_
                                clear n0_ n1_
                                generalize wr.drew = w40 at HD HB hHeld ⊢
                                refine pure_ (i := 0) (N := some 89) (v := ?_) (a' := ?_) #[true, false, false, false, false, false, false, false, false, false] rfl rfl (any_of HT_.out (by kernel_rfl)) (fun _ _ _ h => h) (Or.inl ⟨by rfl, ?_⟩) ?_ ?_
                                rotate_left
                                · intro w'
                                  go_simp
                                  with_reducible rfl
                                rotate_left
                                · simp only [Act.put, List.setIfInBounds_toArray, List.set_cons_zero, List.set_cons_succ, i64_w, i32_w]
                                  rfl
                                refine pure_ (i := 1) (N := some 90) (v := ?_) (a' := ?_) #[true, true, false, false, false, false, false, false, false, false] rfl rfl (any_of HT_.out (by kernel_rfl)) (fun _ _ _ h => h) (Or.inl ⟨by rfl, ?_⟩) ?_ ?_
                                rotate_left
                                · intro w'
                                  go_simp
                                  with_reducible rfl
                                rotate_left
                                · simp only [Act.put, List.setIfInBounds_toArray, List.set_cons_zero, List.set_cons_succ, i64_w, i32_w]
                                  rfl
                                refine pure_ (i := 2) (N := some 91) (v := ?_) (a' := ?_) #[true, true, true, false, false, false, false, false, false, false] rfl rfl (any_of HT_.out (by kernel_rfl)) (fun _ _ _ h => h) (Or.inl ⟨by rfl, ?_⟩) ?_ ?_
                                rotate_left
                                · intro w'
                                  go_simp
                                  with_reducible rfl
                                rotate_left
                                · simp only [Act.put, List.setIfInBounds_toArray, List.set_cons_zero, List.set_cons_succ, i64_w, i32_w]
                                  rfl
                                refine pure_ (i := 3) (N := some 92) (v := ?_) (a' := ?_) #[true, true, true, true, false, false, false, false, false, false] rfl rfl (any_of HT_.out (by kernel_rfl)) (fun _ _ _ h => h) (Or.inl ⟨by rfl, ?_⟩) ?_ ?_
                                rotate_left
                                · intro w'
                                  go_simp
                                  with_reducible rfl
                                rotate_left
                                · simp only [Act.put, List.setIfInBounds_toArray, List.set_cons_zero, List.set_cons_succ, i64_w, i32_w]
                                  rfl
                                refine pure_ (i := 5) (N := some 94) (v := ?_) (a' := ?_) #[true, true, true, true, false, true, false, false, false, false] rfl rfl (any_of HT_.out (by kernel_rfl)) (fun _ _ _ h => h) (Or.inl ⟨by rfl, ?_⟩) ?_ ?_
                                rotate_left
                                · intro w'
                                  go_simp
                                  with_reducible rfl
                                rotate_left
                                · simp only [Act.put, List.setIfInBounds_toArray, List.set_cons_zero, List.set_cons_succ, i64_w, i32_w]
                                  rfl
                                refine pure_ (i := 6) (N := some 95) (v := ?_) (a' := ?_) #[true, true, true, true, false, true, true, false, false, false] rfl rfl (any_of HT_.out (by kernel_rfl)) (fun _ _ _ h => h) (Or.inl ⟨by rfl, ?_⟩) ?_ ?_
                                rotate_left
                                · intro w'
                                  go_simp
                                  with_reducible rfl
                                rotate_left
                                · simp only [Act.put, List.setIfInBounds_toArray, List.set_cons_zero, List.set_cons_succ, i64_w, i32_w]
                                  rfl
                                refine pure_ (i := 7) (N := some 96) (v := ?_) (a' := ?_) #[true, true, true, true, false, true, true, true, false, false] rfl rfl (any_of HT_.out (by kernel_rfl)) (fun _ _ _ h => h) (Or.inl ⟨by rfl, ?_⟩) ?_ ?_
                                rotate_left
                                · intro w'
                                  go_simp
                                  with_reducible rfl
                                rotate_left
                                · simp only [Act.put, List.setIfInBounds_toArray, List.set_cons_zero, List.set_cons_succ, i64_w, i32_w]
                                  rfl
                                refine take_ (i := 4) (N := some 93) (v := ?_) (a' := ?_) #[true, true, true, true, true, true, true, true, false, false] rfl rfl (take_ofW HT_.out HW_.out (by kernel_rfl)) (fun _ _ _ h => h) (Or.inl ⟨by rfl, ?_⟩) hHeld ?_ ?_
                                rotate_left
                                · rintro w' ⟨s0, s1, s2, s3⟩
                                  go_simp
                                  with_reducible rfl
                                rotate_left
                                · simp only [Act.put, List.setIfInBounds_toArray, List.set_cons_zero, List.set_cons_succ, i64_w, i32_w]
                                  rfl
                                refine take_ (i := 8) (N := some 97) (v := ?_) (a' := ?_) #[true, true, true, true, true, true, true, true, true, false] rfl rfl (take_ofW HT_.out HW_.out (by kernel_rfl)) (fun _ _ _ h => h) (Or.inl ⟨by rfl, ?_⟩) hHeld ?_ ?_
                                rotate_left
                                · rintro w' ⟨s0, s1, s2, s3⟩
                                  go_simp
                                  with_reducible rfl
                                rotate_left
                                · simp only [Act.put, List.setIfInBounds_toArray, List.set_cons_zero, List.set_cons_succ, i64_w, i32_w]
                                  rfl
                                refine last_ (i := 9) (N := some 98) #[true, true, true, true, true, true, true, true, true, true] rfl rfl (one_of HT_.out (by kernel_rfl)) (by decide) (fun K hK => ?_)
                                refine goes_ Try.func52 (by kernel_rfl) rfl #[.pointer (some ⟨gd, 0, none⟩), .agg #[.int .i64 (rd_T29 l0 (wrap64 (i - 1))).f0, .int .i64 (rd_T29 l0 (wrap64 (i - 1))).f1], .agg #[.int .i64 (rd_T29 l0 i).f0, .int .i64 (rd_T29 l0 i).f1]] (by rfl) rfl rfl (by (try simp only [List.map_toArray, List.map_cons, List.map_nil]); first | done | rfl) ?_
                                with_reducible refine (da_piece k1 (fun _ => True) gd (some ad) c1 ds _ _ _ _ kk left vO xs vS ys k3 l3 x3 y3 w _ HB.out GE.out (fun _ _ => trivial) HR1.out HD.out A12.out).mono ?_
                                rintro e w41 ⟨vO2, vS2, rfl, hd2, hb2, hkp_⟩
                                refine ⟨_, rfl, ?_⟩
                                clear HD HB hkp_ hHeld
                                have HD := Aside0.mk hd2
                                have HB := Aside0.mk hb2
                                clear hd2 hb2
                                refine hK.out _ _ ?_
                                clear hK K
                                refine done_ (done_of HT_.out (by kernel_rfl)) ?_
                                go_wp2
                                go_roundg k1
                                case measure => have := HQ2.out; omega
                                case rel => exact ⟨wrap64 (i + 1), k3, l3, vO2, x3, vS2, y3, rfl, H3, ⟨by have := HQ2.out; omega⟩, HD, HB⟩
                              · rw [if_neg c4] at H
                                have c4b : decide (i < (l0.length : Int)) = false := decide_eq_false c4
                                clear c4
                                simp only [Option.some.injEq, Prod.mk.injEq] at H
                                obtain ⟨rfl, rfl, rfl, rfl⟩ := H
                                clear HQ2
                                go_wp2_with (first | ((with_reducible refine gate_callee (f := 53) rfl ?_); refine goesL_ (some 99) rfl rfl Try.func53 (by kernel_rfl) rfl #[.pointer (some ⟨gd, 0, none⟩)] rfl (by (try simp only [List.map_toArray, List.map_cons, List.map_nil]); first | done | rfl) ?_; (with_reducible refine (da_end (fun _ => True) gd _ _ _ vO _ vS _ w _ HB.out GE.out (fun _ _ => trivial) HYL.out HD.out).mono ?_); rintro e w50 ⟨vS3, rfl, hd3, hb3, hkp_⟩; refine ⟨_, rfl, ?_⟩; clear HD HB hkp_; have HD := Aside0.mk hd3; have HB := Aside0.mk hb3; have hy4_ : w50.cell? ⟨gd, 4, none⟩ = some vS3 := (blk_cell HD.out.1 4).trans rfl; clear hd3 hb3))
                                go_ret
                                exact ⟨_, rfl, by rw [← HRR.out]; exact Kd.S_mono HD.out.2.2 (fun _ _ => trivial), HB.out⟩

end Go.Proofs.Ytjfienkbcacijaa.MFnExactDashOf
