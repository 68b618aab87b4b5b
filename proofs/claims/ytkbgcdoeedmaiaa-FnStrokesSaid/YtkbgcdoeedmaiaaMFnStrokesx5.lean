/- Functions of the program as Lean functions, and the proof that a call comes to just these: machine text of this session's own program (myprint.py). -/
import Derived.Test.YtkbgcdoeedmaiaaMFnStrokesx0
import Derived.Test.YtkbgcdoeedmaiaaMFnStrokesx1
import Derived.Test.YtkbgcdoeedmaiaaMFnStrokesx2
import Derived.Test.YtkbgcdoeedmaiaaMFnStrokesx3
import Derived.Test.YtkbgcdoeedmaiaaMFnStrokesx4
namespace Go.Proofs.Ytkbgcdoeedmaiaa.MFnStrokes
open Go.RowKit Go.Proofs.YtkbgcdoeedmaiaaW.PrintWords Go.Proofs.YtkbgcdoeedmaiaaW.PrintLast Go.Proofs.YtkbgcdoeedmaiaaW.PrintMore
attribute [local go_sem] max2_int min2_int max_two min_two max_three min_three max_four min_four   -- for this text's walks alone
set_option linter.unusedVariables false
set_option linter.unusedSimpArgs false

attribute [local go_sem high] eqA45
/-! ### laws_FnStrokes: function 13 -/
def laws_FnStrokes.j0 : Nat → Int → List (S45) → Int → Int → Int → Bool → Int → Int → Int → Int → Int → Int → Option (Bool)
  | 0, _, _, _, _, _, _, _, _, _, _, _, _ => none
  | k + 1, x6, x8, x9, x10, x11, x83, x228000, x228001, x230000, x230001, x237000, x237001 => if x83 = true then (some false) else (if x9 = 0 then (if (x8.length : Int) = 0 then (some (x228000 == x230000 && (x228001 == x230001))) else (some false)) else ((laws_abs.f (wrap64 ((wrap64 (x237000 * x10)) + (wrap64 (x237001 * x11))))).bind fun t242 => ((laws_abs.f x10).bind fun t243 => ((laws_abs.f x11).bind fun t244 => (if (wrap64 (2 * t242)) ≤ (wrap64 (t243 + t244)) then ((laws_abs.f x10).bind fun t245 => ((laws_abs.f x11).bind fun t246 => (if (wrap64 ((wrap64 (x10 * x237001)) - (wrap64 (x11 * x237000)))) ≥ (wrap64 ((wrap64 (-t245)) - t246)) then (if (x8.length : Int) = 4 then (if 0 < (x8.length : Int) then (if 3 < (x8.length : Int) then (if (wrap64 (((rd_T45 x8 0).f0) - ((rd_T45 x8 3).f0))) = (wrap64 (2 * x237000)) then (if 1 < (x8.length : Int) then (if 2 < (x8.length : Int) then (if (wrap64 (((rd_T45 x8 1).f1) - ((rd_T45 x8 2).f1))) = (wrap64 (2 * x237001)) then (if (wrap64 (((rd_T45 x8 0).f0) + ((rd_T45 x8 3).f0))) = (wrap64 (2 * x228000)) then (if (wrap64 (((rd_T45 x8 1).f1) + ((rd_T45 x8 2).f1))) = (wrap64 (2 * x230001)) then ((spec_QuadOf.f k x228000 x228001 x230000 x230001 x6).bind fun t255 => ((laws_samePoints.f k x8 t255).bind fun t258 => (some t258))) else (some false)) else (some false)) else (some false)) else (none)) else (none)) else (some false)) else (none)) else (none)) else (some false)) else (some false)))) else (some false))))))
def laws_FnStrokes.f (k : Nat) (l0 : List Int) : Option (Bool) := (laws_big.f l0).bind fun t222 => (if t222 = true then (some true) else ((spec_DrawPoints.f k l0).bind fun t223 => (if 0 < (t223.length : Int) then (if 1 < (t223.length : Int) then ((spec_DrawPlaces.f k l0).bind fun t230 => (if 0 < (t230.length : Int) then ((impl_SideOf.f k ((rd_T45 t223 0).f0) ((rd_T45 t223 0).f1) ((rd_T45 t223 1).f0) ((rd_T45 t223 1).f1) (wrap64 (1 + (Int.tmod (rd t230 0) 2000)))).bind fun bt234 => ((impl_QuadOf.f k ((rd_T45 t223 0).f0) ((rd_T45 t223 0).f1) ((rd_T45 t223 1).f0) ((rd_T45 t223 1).f1) (wrap64 (1 + (Int.tmod (rd t230 0) 2000)))).bind fun t237 => ((impl_LengthOf.f k ((rd_T45 t223 0).f0) ((rd_T45 t223 0).f1) ((rd_T45 t223 1).f0) ((rd_T45 t223 1).f1)).bind fun t240 => (if (wrap64 (t240 * t240)) > (wrap64 ((wrap64 ((wrap64 (((rd_T45 t223 1).f0) - ((rd_T45 t223 0).f0))) * (wrap64 (((rd_T45 t223 1).f0) - ((rd_T45 t223 0).f0))))) + (wrap64 ((wrap64 (((rd_T45 t223 1).f1) - ((rd_T45 t223 0).f1))) * (wrap64 (((rd_T45 t223 1).f1) - ((rd_T45 t223 0).f1))))))) then (laws_FnStrokes.j0 k (wrap64 (1 + (Int.tmod (rd t230 0) 2000))) t237 t240 (wrap64 (((rd_T45 t223 1).f0) - ((rd_T45 t223 0).f0))) (wrap64 (((rd_T45 t223 1).f1) - ((rd_T45 t223 0).f1))) true ((rd_T45 t223 0).f0) ((rd_T45 t223 0).f1) ((rd_T45 t223 1).f0) ((rd_T45 t223 1).f1) bt234.1 bt234.2) else (if (wrap64 ((wrap64 (t240 + 1)) * (wrap64 (t240 + 1)))) ≤ (wrap64 ((wrap64 ((wrap64 (((rd_T45 t223 1).f0) - ((rd_T45 t223 0).f0))) * (wrap64 (((rd_T45 t223 1).f0) - ((rd_T45 t223 0).f0))))) + (wrap64 ((wrap64 (((rd_T45 t223 1).f1) - ((rd_T45 t223 0).f1))) * (wrap64 (((rd_T45 t223 1).f1) - ((rd_T45 t223 0).f1))))))) then (laws_FnStrokes.j0 k (wrap64 (1 + (Int.tmod (rd t230 0) 2000))) t237 t240 (wrap64 (((rd_T45 t223 1).f0) - ((rd_T45 t223 0).f0))) (wrap64 (((rd_T45 t223 1).f1) - ((rd_T45 t223 0).f1))) true ((rd_T45 t223 0).f0) ((rd_T45 t223 0).f1) ((rd_T45 t223 1).f0) ((rd_T45 t223 1).f1) bt234.1 bt234.2) else ((impl_LengthOf.f k ((rd_T45 t223 1).f0) ((rd_T45 t223 1).f1) ((rd_T45 t223 0).f0) ((rd_T45 t223 0).f1)).bind fun t241 => (laws_FnStrokes.j0 k (wrap64 (1 + (Int.tmod (rd t230 0) 2000))) t237 t240 (wrap64 (((rd_T45 t223 1).f0) - ((rd_T45 t223 0).f0))) (wrap64 (((rd_T45 t223 1).f1) - ((rd_T45 t223 0).f1))) (t240 != t241) ((rd_T45 t223 0).f0) ((rd_T45 t223 0).f1) ((rd_T45 t223 1).f0) ((rd_T45 t223 1).f1) bt234.1 bt234.2))))))) else (none))) else (none)) else (none))))
theorem laws_FnStrokes.mono_l : ∀ k, (∀ y0 y1 y2 y3 y4 y5 y6 y7 y8 y9 y10 y11, LeO (laws_FnStrokes.j0 k y0 y1 y2 y3 y4 y5 y6 y7 y8 y9 y10 y11) (laws_FnStrokes.j0 (k + 1) y0 y1 y2 y3 y4 y5 y6 y7 y8 y9 y10 y11))
  | 0 => fun _ _ _ _ _ _ _ _ _ _ _ _ r h => by simp [laws_FnStrokes.j0] at h
  | k + 1 => by
    have ih0 := laws_FnStrokes.mono_l k
    · intro y0 y1 y2 y3 y4 y5 y6 y7 y8 y9 y10 y11
      unfold laws_FnStrokes.j0
      repeat' first
      | (with_reducible exact ih0 _ _ _ _ _ _ _ _ _ _ _ _)
      | (with_reducible exact impl_LengthOf.mono _ _ _ _ _)
      | (with_reducible exact impl_QuadOf.mono _ _ _ _ _ _)
      | (with_reducible exact impl_SideOf.mono _ _ _ _ _ _)
      | (with_reducible exact laws_samePoints.mono _ _ _)
      | (with_reducible exact spec_DrawPlaces.mono _ _)
      | (with_reducible exact spec_DrawPoints.mono _ _)
      | (with_reducible exact spec_QuadOf.mono _ _ _ _ _ _)
      | (with_reducible exact LeO.refl _)
      | (with_reducible exact LeO.none _)
      | (with_reducible refine LeO.ite ?_ ?_)
      | (with_reducible refine LeO.bind ?_ (fun _ => ?_))
      | exact ih0 _ _ _ _ _ _ _ _ _ _ _ _
      | exact impl_LengthOf.mono _ _ _ _ _
      | exact impl_QuadOf.mono _ _ _ _ _ _
      | exact impl_SideOf.mono _ _ _ _ _ _
      | exact laws_samePoints.mono _ _ _
      | exact spec_DrawPlaces.mono _ _
      | exact spec_DrawPoints.mono _ _
      | exact spec_QuadOf.mono _ _ _ _ _ _
      | exact LeO.none _
      | refine LeO.ite ?_ ?_
      | refine LeO.bind ?_ (fun _ => ?_)
theorem laws_FnStrokes.mono : ∀ a0 k, LeO (laws_FnStrokes.f k a0) (laws_FnStrokes.f (k + 1) a0) := by
  intro a0 k
  have ih0 := laws_FnStrokes.mono_l k
  unfold laws_FnStrokes.f
  repeat' first
      | (with_reducible exact ih0 _ _ _ _ _ _ _ _ _ _ _ _)
      | (with_reducible exact impl_LengthOf.mono _ _ _ _ _)
      | (with_reducible exact impl_QuadOf.mono _ _ _ _ _ _)
      | (with_reducible exact impl_SideOf.mono _ _ _ _ _ _)
      | (with_reducible exact laws_samePoints.mono _ _ _)
      | (with_reducible exact spec_DrawPlaces.mono _ _)
      | (with_reducible exact spec_DrawPoints.mono _ _)
      | (with_reducible exact spec_QuadOf.mono _ _ _ _ _ _)
      | (with_reducible exact LeO.refl _)
      | (with_reducible exact LeO.none _)
      | (with_reducible refine LeO.ite ?_ ?_)
      | (with_reducible refine LeO.bind ?_ (fun _ => ?_))
      | exact ih0 _ _ _ _ _ _ _ _ _ _ _ _
      | exact impl_LengthOf.mono _ _ _ _ _
      | exact impl_QuadOf.mono _ _ _ _ _ _
      | exact impl_SideOf.mono _ _ _ _ _ _
      | exact laws_samePoints.mono _ _ _
      | exact spec_DrawPlaces.mono _ _
      | exact spec_DrawPoints.mono _ _
      | exact spec_QuadOf.mono _ _ _ _ _ _
      | exact LeO.none _
      | refine LeO.ite ?_ ?_
      | refine LeO.bind ?_ (fun _ => ?_)
def laws_FnStrokes.T18 : Bool × List (List Nat × List Nat) := (true, [([], []), ([0], [0]), ([1], [1]), ([], []), ([3, 1], [3]), ([], []), ([5, 4], [5]), ([4, 6], [4, 6]), ([2, 7], [2, 7]), ([8, 6], [8]), ([9], [9]), ([9], [9]), ([11, 9, 9], [9, 11]), ([12, 9], [9, 12]), ([9], [9]), ([14, 12, 9], [9, 14]), ([13, 15, 9], [9, 13, 15]), ([10, 16, 9], [9, 10, 16]), ([9, 17], [9, 17]), ([18, 15], [18]), ([19], [19]), ([20, 19], [19, 20]), ([21, 19], [19, 21]), ([19, 22], [19, 22]), ([23, 19], [23]), ([24], [24]), ([25, 24], [24, 25]), ([26, 24], [24, 26]), ([27, 24], [24, 27]), ([24], [24]), ([29, 24], [24, 29]), ([30, 24], [24, 30]), ([31, 24], [24, 31]), ([28, 32, 24], [24, 28, 32]), ([24], [24]), ([34, 24], [24, 34]), ([35, 24], [24, 35]), ([33, 36, 24], [24, 33, 36]), ([24, 37], [24, 37]), ([38, 24], [38]), ([39], [39]), ([40, 39], [39, 40]), ([41, 39], [39, 41]), ([42, 39], [39, 42]), ([39], [39]), ([44, 39], [39, 44]), ([45, 39], [39, 45]), ([46, 39], [39, 46]), ([43, 47, 39], [39, 43, 47]), ([39], [39]), ([49, 39], [39, 49]), ([50, 39], [39, 50]), ([48, 51, 39], [39, 48, 51]), ([39, 52], [39, 52]), ([53, 39], [53]), ([54], [54]), ([55, 54], [54, 55]), ([56, 54], [54, 56]), ([57, 54], [54, 57]), ([54], [54]), ([59, 54], [54, 59]), ([60, 54], [54, 60]), ([61, 54], [54, 61]), ([58, 62, 54], [54, 58, 62]), ([54], [54]), ([64, 54], [54, 64]), ([65, 54], [54, 65]), ([63, 66, 54], [54, 63, 66]), ([54, 67], [54, 67]), ([68, 54], [68]), ([69], [69]), ([70, 69], [69, 70]), ([71, 69], [69, 71]), ([72, 69], [69, 72]), ([69], [69]), ([74, 69], [69, 74]), ([75, 69], [69, 75]), ([76, 69], [69, 76]), ([73, 77, 69], [69, 73, 77]), ([69], [69]), ([79, 69], [69, 79]), ([80, 69], [69, 80]), ([78, 81, 69], [69, 78, 81]), ([69, 82], [69, 82]), ([83, 69], [83]), ([84], [84]), ([84], [84]), ([84], [84]), ([84], [84]), ([86, 87, 88, 84, 84], [84, 86, 87, 88]), ([85, 89, 89, 84], [84, 85, 89]), ([84, 90], [84, 90]), ([91, 90, 0, 1, 2, 3, 4, 5, 6, 7, 8, 9, 10, 11, 12, 13, 14, 15, 16, 17, 18, 19, 20, 21, 22, 23, 24, 25, 26, 27, 28, 29, 30, 31, 32, 33, 34, 35, 36, 37, 38, 39, 40, 41, 42, 43, 44, 45, 46, 47, 48, 49, 50, 51, 52, 53, 54, 55, 56, 57, 58, 59, 60, 61, 62, 63, 64, 65, 66, 67, 68, 69, 70, 71, 72, 73, 74, 75, 76, 77, 78, 79, 80, 81, 82, 83, 84, 85, 86, 87, 88, 89, 90, 91], [91])])
def laws_FnStrokes.B18 : List Nat := [0, 1, 3, 0, 11, 0, 59, 123, 255, 511, 1023, 1023, 3071, 7167, 1023, 23551, 64511, 131071, 262143, 524287, 1048575, 2097151, 4194303, 8388607, 16777215, 33554431, 67108863, 134217727, 268435455, 33554431, 570425343, 1644167167, 3791650815, 8589934591, 33554431, 17213423615, 51573161983, 137438953471, 274877906943, 549755813887, 1099511627775, 2199023255551, 4398046511103, 8796093022207, 1099511627775, 18691697672191, 53876069761023, 124244813938687, 281474976710655, 1099511627775, 564049465049087, 1689949371891711, 4503599627370495, 9007199254740991, 18014398509481983, 36028797018963967, 72057594037927935, 144115188075855871, 288230376151711743, 36028797018963967, 612489549322387455, 1765411053929234431, 4071254063142928383, 9223372036854775807, 36028797018963967, 18482772870728515583, 55376261018147618815, 147573952589676412927, 295147905179352825855, 590295810358705651711, 1180591620717411303423, 2361183241434822606847, 4722366482869645213695, 9444732965739290427391, 1180591620717411303423, 20070057552195992158207, 57848989415153153867775, 133406853141067477286911, 302231454903657293676543, 1180591620717411303423, 605643501428031998656511, 1814569321042661173362687, 4835703278458516698824703, 9671406556917033397649407, 19342813113834066795298815, 38685626227668133590597631, 38685626227668133590597631, 38685626227668133590597631, 38685626227668133590597631, 580284393415022003858964479, 1237940039285380274899124223, 2475880078570760549798248447, 4951760157141521099596496895]
theorem laws_FnStrokes.tab18 : rtab .any (opsOf Try.f13 18) = laws_FnStrokes.T18 := by kernel_rfl
theorem laws_FnStrokes.bits18 : waitsOk laws_FnStrokes.T18.2 laws_FnStrokes.B18 = true := by kernel_rfl
set_option maxHeartbeats 8000000 in
set_option maxRecDepth 100000 in
theorem laws_FnStrokes.calls (k : Nat) (A0 : Option Addr) (c0 : Nat) (l0 : List Int) (r : Bool) (w : World) (hr0 : Kd.C (Kd.int .u8) w A0 l0.length l0) (hc0 : l0.length ≤ c0) (hT : r = true) (h : laws_FnStrokes.f k l0 = some r) :
    Calls Try.prog 13 #[.slice A0 l0.length c0] w fun e w' => e = .returned (.bool r) ∧ Below w.heap.size w w' := by
  have hu45 := Try.underlying45
  have HR0 := Aside0.mk hr0
  have HC0 := Aside0.mk hc0
  clear hr0 hc0
  have HB := Aside0.mk (Below.refl w.heap.size w)
  have H : ((laws_big.f l0).bind fun t222 => (if t222 = true then (some true) else ((spec_DrawPoints.f k l0).bind fun t223 => (if 0 < (t223.length : Int) then (if 1 < (t223.length : Int) then ((spec_DrawPlaces.f k l0).bind fun t230 => (if 0 < (t230.length : Int) then ((impl_SideOf.f k ((rd_T45 t223 0).f0) ((rd_T45 t223 0).f1) ((rd_T45 t223 1).f0) ((rd_T45 t223 1).f1) (wrap64 (1 + (Int.tmod (rd t230 0) 2000)))).bind fun bt234 => ((impl_QuadOf.f k ((rd_T45 t223 0).f0) ((rd_T45 t223 0).f1) ((rd_T45 t223 1).f0) ((rd_T45 t223 1).f1) (wrap64 (1 + (Int.tmod (rd t230 0) 2000)))).bind fun t237 => ((impl_LengthOf.f k ((rd_T45 t223 0).f0) ((rd_T45 t223 0).f1) ((rd_T45 t223 1).f0) ((rd_T45 t223 1).f1)).bind fun t240 => (if (wrap64 (t240 * t240)) > (wrap64 ((wrap64 ((wrap64 (((rd_T45 t223 1).f0) - ((rd_T45 t223 0).f0))) * (wrap64 (((rd_T45 t223 1).f0) - ((rd_T45 t223 0).f0))))) + (wrap64 ((wrap64 (((rd_T45 t223 1).f1) - ((rd_T45 t223 0).f1))) * (wrap64 (((rd_T45 t223 1).f1) - ((rd_T45 t223 0).f1))))))) then (laws_FnStrokes.j0 k (wrap64 (1 + (Int.tmod (rd t230 0) 2000))) t237 t240 (wrap64 (((rd_T45 t223 1).f0) - ((rd_T45 t223 0).f0))) (wrap64 (((rd_T45 t223 1).f1) - ((rd_T45 t223 0).f1))) true ((rd_T45 t223 0).f0) ((rd_T45 t223 0).f1) ((rd_T45 t223 1).f0) ((rd_T45 t223 1).f1) bt234.1 bt234.2) else (if (wrap64 ((wrap64 (t240 + 1)) * (wrap64 (t240 + 1)))) ≤ (wrap64 ((wrap64 ((wrap64 (((rd_T45 t223 1).f0) - ((rd_T45 t223 0).f0))) * (wrap64 (((rd_T45 t223 1).f0) - ((rd_T45 t223 0).f0))))) + (wrap64 ((wrap64 (((rd_T45 t223 1).f1) - ((rd_T45 t223 0).f1))) * (wrap64 (((rd_T45 t223 1).f1) - ((rd_T45 t223 0).f1))))))) then (laws_FnStrokes.j0 k (wrap64 (1 + (Int.tmod (rd t230 0) 2000))) t237 t240 (wrap64 (((rd_T45 t223 1).f0) - ((rd_T45 t223 0).f0))) (wrap64 (((rd_T45 t223 1).f1) - ((rd_T45 t223 0).f1))) true ((rd_T45 t223 0).f0) ((rd_T45 t223 0).f1) ((rd_T45 t223 1).f0) ((rd_T45 t223 1).f1) bt234.1 bt234.2) else ((impl_LengthOf.f k ((rd_T45 t223 1).f0) ((rd_T45 t223 1).f1) ((rd_T45 t223 0).f0) ((rd_T45 t223 0).f1)).bind fun t241 => (laws_FnStrokes.j0 k (wrap64 (1 + (Int.tmod (rd t230 0) 2000))) t237 t240 (wrap64 (((rd_T45 t223 1).f0) - ((rd_T45 t223 0).f0))) (wrap64 (((rd_T45 t223 1).f1) - ((rd_T45 t223 0).f1))) (t240 != t241) ((rd_T45 t223 0).f0) ((rd_T45 t223 0).f1) ((rd_T45 t223 1).f0) ((rd_T45 t223 1).f1) bt234.1 bt234.2))))))) else (none))) else (none)) else (none))))) = some r := h
  clear h
  replace H := Option.bind_eq_some_iff.mp H
  obtain ⟨t222, A20, H⟩ := H
  replace H : (if t222 = true then (some true) else ((spec_DrawPoints.f k l0).bind fun t223 => (if 0 < (t223.length : Int) then (if 1 < (t223.length : Int) then ((spec_DrawPlaces.f k l0).bind fun t230 => (if 0 < (t230.length : Int) then ((impl_SideOf.f k ((rd_T45 t223 0).f0) ((rd_T45 t223 0).f1) ((rd_T45 t223 1).f0) ((rd_T45 t223 1).f1) (wrap64 (1 + (Int.tmod (rd t230 0) 2000)))).bind fun bt234 => ((impl_QuadOf.f k ((rd_T45 t223 0).f0) ((rd_T45 t223 0).f1) ((rd_T45 t223 1).f0) ((rd_T45 t223 1).f1) (wrap64 (1 + (Int.tmod (rd t230 0) 2000)))).bind fun t237 => ((impl_LengthOf.f k ((rd_T45 t223 0).f0) ((rd_T45 t223 0).f1) ((rd_T45 t223 1).f0) ((rd_T45 t223 1).f1)).bind fun t240 => (if (wrap64 (t240 * t240)) > (wrap64 ((wrap64 ((wrap64 (((rd_T45 t223 1).f0) - ((rd_T45 t223 0).f0))) * (wrap64 (((rd_T45 t223 1).f0) - ((rd_T45 t223 0).f0))))) + (wrap64 ((wrap64 (((rd_T45 t223 1).f1) - ((rd_T45 t223 0).f1))) * (wrap64 (((rd_T45 t223 1).f1) - ((rd_T45 t223 0).f1))))))) then (laws_FnStrokes.j0 k (wrap64 (1 + (Int.tmod (rd t230 0) 2000))) t237 t240 (wrap64 (((rd_T45 t223 1).f0) - ((rd_T45 t223 0).f0))) (wrap64 (((rd_T45 t223 1).f1) - ((rd_T45 t223 0).f1))) true ((rd_T45 t223 0).f0) ((rd_T45 t223 0).f1) ((rd_T45 t223 1).f0) ((rd_T45 t223 1).f1) bt234.1 bt234.2) else (if (wrap64 ((wrap64 (t240 + 1)) * (wrap64 (t240 + 1)))) ≤ (wrap64 ((wrap64 ((wrap64 (((rd_T45 t223 1).f0) - ((rd_T45 t223 0).f0))) * (wrap64 (((rd_T45 t223 1).f0) - ((rd_T45 t223 0).f0))))) + (wrap64 ((wrap64 (((rd_T45 t223 1).f1) - ((rd_T45 t223 0).f1))) * (wrap64 (((rd_T45 t223 1).f1) - ((rd_T45 t223 0).f1))))))) then (laws_FnStrokes.j0 k (wrap64 (1 + (Int.tmod (rd t230 0) 2000))) t237 t240 (wrap64 (((rd_T45 t223 1).f0) - ((rd_T45 t223 0).f0))) (wrap64 (((rd_T45 t223 1).f1) - ((rd_T45 t223 0).f1))) true ((rd_T45 t223 0).f0) ((rd_T45 t223 0).f1) ((rd_T45 t223 1).f0) ((rd_T45 t223 1).f1) bt234.1 bt234.2) else ((impl_LengthOf.f k ((rd_T45 t223 1).f0) ((rd_T45 t223 1).f1) ((rd_T45 t223 0).f0) ((rd_T45 t223 0).f1)).bind fun t241 => (laws_FnStrokes.j0 k (wrap64 (1 + (Int.tmod (rd t230 0) 2000))) t237 t240 (wrap64 (((rd_T45 t223 1).f0) - ((rd_T45 t223 0).f0))) (wrap64 (((rd_T45 t223 1).f1) - ((rd_T45 t223 0).f1))) (t240 != t241) ((rd_T45 t223 0).f0) ((rd_T45 t223 0).f1) ((rd_T45 t223 1).f0) ((rd_T45 t223 1).f1) bt234.1 bt234.2))))))) else (none))) else (none)) else (none)))) = some r := H
  have A2 := Aside0.mk A20
  clear A20
  by_cases c3 : t222 = true
  · subst c3
    have H1 : (some true) = some r := by rw [if_pos rfl] at H; exact H
    clear H
    have H := H1
    clear H1
    obtain rfl := Option.some.inj H
    simp only [Option.some.injEq, Prod.mk.injEq] at H
    obtain ⟨rfl⟩ := H
    go_enter Try.func13, Try.ntmps13
    go_wp2_with (first | ((with_reducible refine gate_callee (f := 32) rfl ?_); refine goesL_ (some 15) rfl rfl Try.func32 (by kernel_rfl) rfl #[.slice A0 l0.length c0] rfl (by (try simp only [List.map_toArray, List.map_cons, List.map_nil]); first | done | rfl | (simp only [List.length_drop, List.length_take]; rfl)) ?_; (with_reducible refine (laws_big.calls _ _ l0 true _ ?side1 ?side2 A2.out).mono ?_); (case side1 => repeat (first | exact HR0.out | (with_reducible refine Kd.C_alloc ?_ _) | (with_reducible refine Kd.C_drewN ?_ _) | (with_reducible refine Kd.C_drew ?_))); (case side2 => exact HC0.out); rintro e w' ⟨rfl, ⟨nd, rfl⟩⟩; refine ⟨_, rfl, ?_⟩))
    go_ret
    exact ⟨by first | rfl | (simp [errW_none, errW_some] <;> rfl) | (simp [*, errW_none, errW_some] <;> rfl), by repeat (first | (with_reducible first | exact HB.out | apply below_alloc | apply pw_below_drewN | apply below_drew1) | exact HB.out)⟩
  · replace c3 := Bool.eq_false_iff.mpr c3
    subst c3
    have H1 : ((spec_DrawPoints.f k l0).bind fun t223 => (if 0 < (t223.length : Int) then (if 1 < (t223.length : Int) then ((spec_DrawPlaces.f k l0).bind fun t230 => (if 0 < (t230.length : Int) then ((impl_SideOf.f k ((rd_T45 t223 0).f0) ((rd_T45 t223 0).f1) ((rd_T45 t223 1).f0) ((rd_T45 t223 1).f1) (wrap64 (1 + (Int.tmod (rd t230 0) 2000)))).bind fun bt234 => ((impl_QuadOf.f k ((rd_T45 t223 0).f0) ((rd_T45 t223 0).f1) ((rd_T45 t223 1).f0) ((rd_T45 t223 1).f1) (wrap64 (1 + (Int.tmod (rd t230 0) 2000)))).bind fun t237 => ((impl_LengthOf.f k ((rd_T45 t223 0).f0) ((rd_T45 t223 0).f1) ((rd_T45 t223 1).f0) ((rd_T45 t223 1).f1)).bind fun t240 => (if (wrap64 (t240 * t240)) > (wrap64 ((wrap64 ((wrap64 (((rd_T45 t223 1).f0) - ((rd_T45 t223 0).f0))) * (wrap64 (((rd_T45 t223 1).f0) - ((rd_T45 t223 0).f0))))) + (wrap64 ((wrap64 (((rd_T45 t223 1).f1) - ((rd_T45 t223 0).f1))) * (wrap64 (((rd_T45 t223 1).f1) - ((rd_T45 t223 0).f1))))))) then (laws_FnStrokes.j0 k (wrap64 (1 + (Int.tmod (rd t230 0) 2000))) t237 t240 (wrap64 (((rd_T45 t223 1).f0) - ((rd_T45 t223 0).f0))) (wrap64 (((rd_T45 t223 1).f1) - ((rd_T45 t223 0).f1))) true ((rd_T45 t223 0).f0) ((rd_T45 t223 0).f1) ((rd_T45 t223 1).f0) ((rd_T45 t223 1).f1) bt234.1 bt234.2) else (if (wrap64 ((wrap64 (t240 + 1)) * (wrap64 (t240 + 1)))) ≤ (wrap64 ((wrap64 ((wrap64 (((rd_T45 t223 1).f0) - ((rd_T45 t223 0).f0))) * (wrap64 (((rd_T45 t223 1).f0) - ((rd_T45 t223 0).f0))))) + (wrap64 ((wrap64 (((rd_T45 t223 1).f1) - ((rd_T45 t223 0).f1))) * (wrap64 (((rd_T45 t223 1).f1) - ((rd_T45 t223 0).f1))))))) then (laws_FnStrokes.j0 k (wrap64 (1 + (Int.tmod (rd t230 0) 2000))) t237 t240 (wrap64 (((rd_T45 t223 1).f0) - ((rd_T45 t223 0).f0))) (wrap64 (((rd_T45 t223 1).f1) - ((rd_T45 t223 0).f1))) true ((rd_T45 t223 0).f0) ((rd_T45 t223 0).f1) ((rd_T45 t223 1).f0) ((rd_T45 t223 1).f1) bt234.1 bt234.2) else ((impl_LengthOf.f k ((rd_T45 t223 1).f0) ((rd_T45 t223 1).f1) ((rd_T45 t223 0).f0) ((rd_T45 t223 0).f1)).bind fun t241 => (laws_FnStrokes.j0 k (wrap64 (1 + (Int.tmod (rd t230 0) 2000))) t237 t240 (wrap64 (((rd_T45 t223 1).f0) - ((rd_T45 t223 0).f0))) (wrap64 (((rd_T45 t223 1).f1) - ((rd_T45 t223 0).f1))) (t240 != t241) ((rd_T45 t223 0).f0) ((rd_T45 t223 0).f1) ((rd_T45 t223 1).f0) ((rd_T45 t223 1).f1) bt234.1 bt234.2))))))) else (none))) else (none)) else (none))) = some r := by rw [if_neg (show ¬ (false = true) by decide)] at H; exact H
    clear H
    have H := H1
    clear H1
    replace H := Option.bind_eq_some_iff.mp H
    obtain ⟨t223, A40, H⟩ := H
    replace H : (if 0 < (t223.length : Int) then (if 1 < (t223.length : Int) then ((spec_DrawPlaces.f k l0).bind fun t230 => (if 0 < (t230.length : Int) then ((impl_SideOf.f k ((rd_T45 t223 0).f0) ((rd_T45 t223 0).f1) ((rd_T45 t223 1).f0) ((rd_T45 t223 1).f1) (wrap64 (1 + (Int.tmod (rd t230 0) 2000)))).bind fun bt234 => ((impl_QuadOf.f k ((rd_T45 t223 0).f0) ((rd_T45 t223 0).f1) ((rd_T45 t223 1).f0) ((rd_T45 t223 1).f1) (wrap64 (1 + (Int.tmod (rd t230 0) 2000)))).bind fun t237 => ((impl_LengthOf.f k ((rd_T45 t223 0).f0) ((rd_T45 t223 0).f1) ((rd_T45 t223 1).f0) ((rd_T45 t223 1).f1)).bind fun t240 => (if (wrap64 (t240 * t240)) > (wrap64 ((wrap64 ((wrap64 (((rd_T45 t223 1).f0) - ((rd_T45 t223 0).f0))) * (wrap64 (((rd_T45 t223 1).f0) - ((rd_T45 t223 0).f0))))) + (wrap64 ((wrap64 (((rd_T45 t223 1).f1) - ((rd_T45 t223 0).f1))) * (wrap64 (((rd_T45 t223 1).f1) - ((rd_T45 t223 0).f1))))))) then (laws_FnStrokes.j0 k (wrap64 (1 + (Int.tmod (rd t230 0) 2000))) t237 t240 (wrap64 (((rd_T45 t223 1).f0) - ((rd_T45 t223 0).f0))) (wrap64 (((rd_T45 t223 1).f1) - ((rd_T45 t223 0).f1))) true ((rd_T45 t223 0).f0) ((rd_T45 t223 0).f1) ((rd_T45 t223 1).f0) ((rd_T45 t223 1).f1) bt234.1 bt234.2) else (if (wrap64 ((wrap64 (t240 + 1)) * (wrap64 (t240 + 1)))) ≤ (wrap64 ((wrap64 ((wrap64 (((rd_T45 t223 1).f0) - ((rd_T45 t223 0).f0))) * (wrap64 (((rd_T45 t223 1).f0) - ((rd_T45 t223 0).f0))))) + (wrap64 ((wrap64 (((rd_T45 t223 1).f1) - ((rd_T45 t223 0).f1))) * (wrap64 (((rd_T45 t223 1).f1) - ((rd_T45 t223 0).f1))))))) then (laws_FnStrokes.j0 k (wrap64 (1 + (Int.tmod (rd t230 0) 2000))) t237 t240 (wrap64 (((rd_T45 t223 1).f0) - ((rd_T45 t223 0).f0))) (wrap64 (((rd_T45 t223 1).f1) - ((rd_T45 t223 0).f1))) true ((rd_T45 t223 0).f0) ((rd_T45 t223 0).f1) ((rd_T45 t223 1).f0) ((rd_T45 t223 1).f1) bt234.1 bt234.2) else ((impl_LengthOf.f k ((rd_T45 t223 1).f0) ((rd_T45 t223 1).f1) ((rd_T45 t223 0).f0) ((rd_T45 t223 0).f1)).bind fun t241 => (laws_FnStrokes.j0 k (wrap64 (1 + (Int.tmod (rd t230 0) 2000))) t237 t240 (wrap64 (((rd_T45 t223 1).f0) - ((rd_T45 t223 0).f0))) (wrap64 (((rd_T45 t223 1).f1) - ((rd_T45 t223 0).f1))) (t240 != t241) ((rd_T45 t223 0).f0) ((rd_T45 t223 0).f1) ((rd_T45 t223 1).f0) ((rd_T45 t223 1).f1) bt234.1 bt234.2))))))) else (none))) else (none)) else (none)) = some r := H
    have A4 := Aside0.mk A40
    clear A40
    by_cases c5 : 0 < (t223.length : Int)
    · rw [if_pos c5] at H
      have c5b0 : decide (0 < (t223.length : Int)) = true := decide_eq_true c5
      have c5b1 : decide (0 < t223.length) = true := decide_eq_true (by omega)
      clear c5
      by_cases c6 : 1 < (t223.length : Int)
      · rw [if_pos c6] at H
        have c6b0 : decide (1 < (t223.length : Int)) = true := decide_eq_true c6
        have c6b1 : decide (1 < t223.length) = true := decide_eq_true (by omega)
        clear c6
        replace H := Option.bind_eq_some_iff.mp H
        obtain ⟨t230, A70, H⟩ := H
        replace H : (if 0 < (t230.length : Int) then ((impl_SideOf.f k ((rd_T45 t223 0).f0) ((rd_T45 t223 0).f1) ((rd_T45 t223 1).f0) ((rd_T45 t223 1).f1) (wrap64 (1 + (Int.tmod (rd t230 0) 2000)))).bind fun bt234 => ((impl_QuadOf.f k ((rd_T45 t223 0).f0) ((rd_T45 t223 0).f1) ((rd_T45 t223 1).f0) ((rd_T45 t223 1).f1) (wrap64 (1 + (Int.tmod (rd t230 0) 2000)))).bind fun t237 => ((impl_LengthOf.f k ((rd_T45 t223 0).f0) ((rd_T45 t223 0).f1) ((rd_T45 t223 1).f0) ((rd_T45 t223 1).f1)).bind fun t240 => (if (wrap64 (t240 * t240)) > (wrap64 ((wrap64 ((wrap64 (((rd_T45 t223 1).f0) - ((rd_T45 t223 0).f0))) * (wrap64 (((rd_T45 t223 1).f0) - ((rd_T45 t223 0).f0))))) + (wrap64 ((wrap64 (((rd_T45 t223 1).f1) - ((rd_T45 t223 0).f1))) * (wrap64 (((rd_T45 t223 1).f1) - ((rd_T45 t223 0).f1))))))) then (laws_FnStrokes.j0 k (wrap64 (1 + (Int.tmod (rd t230 0) 2000))) t237 t240 (wrap64 (((rd_T45 t223 1).f0) - ((rd_T45 t223 0).f0))) (wrap64 (((rd_T45 t223 1).f1) - ((rd_T45 t223 0).f1))) true ((rd_T45 t223 0).f0) ((rd_T45 t223 0).f1) ((rd_T45 t223 1).f0) ((rd_T45 t223 1).f1) bt234.1 bt234.2) else (if (wrap64 ((wrap64 (t240 + 1)) * (wrap64 (t240 + 1)))) ≤ (wrap64 ((wrap64 ((wrap64 (((rd_T45 t223 1).f0) - ((rd_T45 t223 0).f0))) * (wrap64 (((rd_T45 t223 1).f0) - ((rd_T45 t223 0).f0))))) + (wrap64 ((wrap64 (((rd_T45 t223 1).f1) - ((rd_T45 t223 0).f1))) * (wrap64 (((rd_T45 t223 1).f1) - ((rd_T45 t223 0).f1))))))) then (laws_FnStrokes.j0 k (wrap64 (1 + (Int.tmod (rd t230 0) 2000))) t237 t240 (wrap64 (((rd_T45 t223 1).f0) - ((rd_T45 t223 0).f0))) (wrap64 (((rd_T45 t223 1).f1) - ((rd_T45 t223 0).f1))) true ((rd_T45 t223 0).f0) ((rd_T45 t223 0).f1) ((rd_T45 t223 1).f0) ((rd_T45 t223 1).f1) bt234.1 bt234.2) else ((impl_LengthOf.f k ((rd_T45 t223 1).f0) ((rd_T45 t223 1).f1) ((rd_T45 t223 0).f0) ((rd_T45 t223 0).f1)).bind fun t241 => (laws_FnStrokes.j0 k (wrap64 (1 + (Int.tmod (rd t230 0) 2000))) t237 t240 (wrap64 (((rd_T45 t223 1).f0) - ((rd_T45 t223 0).f0))) (wrap64 (((rd_T45 t223 1).f1) - ((rd_T45 t223 0).f1))) (t240 != t241) ((rd_T45 t223 0).f0) ((rd_T45 t223 0).f1) ((rd_T45 t223 1).f0) ((rd_T45 t223 1).f1) bt234.1 bt234.2))))))) else (none)) = some r := H
        have A7 := Aside0.mk A70
        clear A70
        by_cases c8 : 0 < (t230.length : Int)
        · rw [if_pos c8] at H
          have c8b0 : decide (0 < (t230.length : Int)) = true := decide_eq_true c8
          have c8b1 : decide (0 < t230.length) = true := decide_eq_true (by omega)
          clear c8
          replace H := Option.bind_eq_some_iff.mp H
          obtain ⟨⟨t234, t235⟩, A90, H⟩ := H
          replace H : ((impl_QuadOf.f k ((rd_T45 t223 0).f0) ((rd_T45 t223 0).f1) ((rd_T45 t223 1).f0) ((rd_T45 t223 1).f1) (wrap64 (1 + (Int.tmod (rd t230 0) 2000)))).bind fun t237 => ((impl_LengthOf.f k ((rd_T45 t223 0).f0) ((rd_T45 t223 0).f1) ((rd_T45 t223 1).f0) ((rd_T45 t223 1).f1)).bind fun t240 => (if (wrap64 (t240 * t240)) > (wrap64 ((wrap64 ((wrap64 (((rd_T45 t223 1).f0) - ((rd_T45 t223 0).f0))) * (wrap64 (((rd_T45 t223 1).f0) - ((rd_T45 t223 0).f0))))) + (wrap64 ((wrap64 (((rd_T45 t223 1).f1) - ((rd_T45 t223 0).f1))) * (wrap64 (((rd_T45 t223 1).f1) - ((rd_T45 t223 0).f1))))))) then (laws_FnStrokes.j0 k (wrap64 (1 + (Int.tmod (rd t230 0) 2000))) t237 t240 (wrap64 (((rd_T45 t223 1).f0) - ((rd_T45 t223 0).f0))) (wrap64 (((rd_T45 t223 1).f1) - ((rd_T45 t223 0).f1))) true ((rd_T45 t223 0).f0) ((rd_T45 t223 0).f1) ((rd_T45 t223 1).f0) ((rd_T45 t223 1).f1) t234 t235) else (if (wrap64 ((wrap64 (t240 + 1)) * (wrap64 (t240 + 1)))) ≤ (wrap64 ((wrap64 ((wrap64 (((rd_T45 t223 1).f0) - ((rd_T45 t223 0).f0))) * (wrap64 (((rd_T45 t223 1).f0) - ((rd_T45 t223 0).f0))))) + (wrap64 ((wrap64 (((rd_T45 t223 1).f1) - ((rd_T45 t223 0).f1))) * (wrap64 (((rd_T45 t223 1).f1) - ((rd_T45 t223 0).f1))))))) then (laws_FnStrokes.j0 k (wrap64 (1 + (Int.tmod (rd t230 0) 2000))) t237 t240 (wrap64 (((rd_T45 t223 1).f0) - ((rd_T45 t223 0).f0))) (wrap64 (((rd_T45 t223 1).f1) - ((rd_T45 t223 0).f1))) true ((rd_T45 t223 0).f0) ((rd_T45 t223 0).f1) ((rd_T45 t223 1).f0) ((rd_T45 t223 1).f1) t234 t235) else ((impl_LengthOf.f k ((rd_T45 t223 1).f0) ((rd_T45 t223 1).f1) ((rd_T45 t223 0).f0) ((rd_T45 t223 0).f1)).bind fun t241 => (laws_FnStrokes.j0 k (wrap64 (1 + (Int.tmod (rd t230 0) 2000))) t237 t240 (wrap64 (((rd_T45 t223 1).f0) - ((rd_T45 t223 0).f0))) (wrap64 (((rd_T45 t223 1).f1) - ((rd_T45 t223 0).f1))) (t240 != t241) ((rd_T45 t223 0).f0) ((rd_T45 t223 0).f1) ((rd_T45 t223 1).f0) ((rd_T45 t223 1).f1) t234 t235)))))) = some r := H
          have A9 := Aside0.mk A90
          clear A90
          replace H := Option.bind_eq_some_iff.mp H
          obtain ⟨t237, A100, H⟩ := H
          replace H : ((impl_LengthOf.f k ((rd_T45 t223 0).f0) ((rd_T45 t223 0).f1) ((rd_T45 t223 1).f0) ((rd_T45 t223 1).f1)).bind fun t240 => (if (wrap64 (t240 * t240)) > (wrap64 ((wrap64 ((wrap64 (((rd_T45 t223 1).f0) - ((rd_T45 t223 0).f0))) * (wrap64 (((rd_T45 t223 1).f0) - ((rd_T45 t223 0).f0))))) + (wrap64 ((wrap64 (((rd_T45 t223 1).f1) - ((rd_T45 t223 0).f1))) * (wrap64 (((rd_T45 t223 1).f1) - ((rd_T45 t223 0).f1))))))) then (laws_FnStrokes.j0 k (wrap64 (1 + (Int.tmod (rd t230 0) 2000))) t237 t240 (wrap64 (((rd_T45 t223 1).f0) - ((rd_T45 t223 0).f0))) (wrap64 (((rd_T45 t223 1).f1) - ((rd_T45 t223 0).f1))) true ((rd_T45 t223 0).f0) ((rd_T45 t223 0).f1) ((rd_T45 t223 1).f0) ((rd_T45 t223 1).f1) t234 t235) else (if (wrap64 ((wrap64 (t240 + 1)) * (wrap64 (t240 + 1)))) ≤ (wrap64 ((wrap64 ((wrap64 (((rd_T45 t223 1).f0) - ((rd_T45 t223 0).f0))) * (wrap64 (((rd_T45 t223 1).f0) - ((rd_T45 t223 0).f0))))) + (wrap64 ((wrap64 (((rd_T45 t223 1).f1) - ((rd_T45 t223 0).f1))) * (wrap64 (((rd_T45 t223 1).f1) - ((rd_T45 t223 0).f1))))))) then (laws_FnStrokes.j0 k (wrap64 (1 + (Int.tmod (rd t230 0) 2000))) t237 t240 (wrap64 (((rd_T45 t223 1).f0) - ((rd_T45 t223 0).f0))) (wrap64 (((rd_T45 t223 1).f1) - ((rd_T45 t223 0).f1))) true ((rd_T45 t223 0).f0) ((rd_T45 t223 0).f1) ((rd_T45 t223 1).f0) ((rd_T45 t223 1).f1) t234 t235) else ((impl_LengthOf.f k ((rd_T45 t223 1).f0) ((rd_T45 t223 1).f1) ((rd_T45 t223 0).f0) ((rd_T45 t223 0).f1)).bind fun t241 => (laws_FnStrokes.j0 k (wrap64 (1 + (Int.tmod (rd t230 0) 2000))) t237 t240 (wrap64 (((rd_T45 t223 1).f0) - ((rd_T45 t223 0).f0))) (wrap64 (((rd_T45 t223 1).f1) - ((rd_T45 t223 0).f1))) (t240 != t241) ((rd_T45 t223 0).f0) ((rd_T45 t223 0).f1) ((rd_T45 t223 1).f0) ((rd_T45 t223 1).f1) t234 t235))))) = some r := H
          have A10 := Aside0.mk A100
          clear A100
          replace H := Option.bind_eq_some_iff.mp H
          obtain ⟨t240, A110, H⟩ := H
          replace H : (if (wrap64 (t240 * t240)) > (wrap64 ((wrap64 ((wrap64 (((rd_T45 t223 1).f0) - ((rd_T45 t223 0).f0))) * (wrap64 (((rd_T45 t223 1).f0) - ((rd_T45 t223 0).f0))))) + (wrap64 ((wrap64 (((rd_T45 t223 1).f1) - ((rd_T45 t223 0).f1))) * (wrap64 (((rd_T45 t223 1).f1) - ((rd_T45 t223 0).f1))))))) then (laws_FnStrokes.j0 k (wrap64 (1 + (Int.tmod (rd t230 0) 2000))) t237 t240 (wrap64 (((rd_T45 t223 1).f0) - ((rd_T45 t223 0).f0))) (wrap64 (((rd_T45 t223 1).f1) - ((rd_T45 t223 0).f1))) true ((rd_T45 t223 0).f0) ((rd_T45 t223 0).f1) ((rd_T45 t223 1).f0) ((rd_T45 t223 1).f1) t234 t235) else (if (wrap64 ((wrap64 (t240 + 1)) * (wrap64 (t240 + 1)))) ≤ (wrap64 ((wrap64 ((wrap64 (((rd_T45 t223 1).f0) - ((rd_T45 t223 0).f0))) * (wrap64 (((rd_T45 t223 1).f0) - ((rd_T45 t223 0).f0))))) + (wrap64 ((wrap64 (((rd_T45 t223 1).f1) - ((rd_T45 t223 0).f1))) * (wrap64 (((rd_T45 t223 1).f1) - ((rd_T45 t223 0).f1))))))) then (laws_FnStrokes.j0 k (wrap64 (1 + (Int.tmod (rd t230 0) 2000))) t237 t240 (wrap64 (((rd_T45 t223 1).f0) - ((rd_T45 t223 0).f0))) (wrap64 (((rd_T45 t223 1).f1) - ((rd_T45 t223 0).f1))) true ((rd_T45 t223 0).f0) ((rd_T45 t223 0).f1) ((rd_T45 t223 1).f0) ((rd_T45 t223 1).f1) t234 t235) else ((impl_LengthOf.f k ((rd_T45 t223 1).f0) ((rd_T45 t223 1).f1) ((rd_T45 t223 0).f0) ((rd_T45 t223 0).f1)).bind fun t241 => (laws_FnStrokes.j0 k (wrap64 (1 + (Int.tmod (rd t230 0) 2000))) t237 t240 (wrap64 (((rd_T45 t223 1).f0) - ((rd_T45 t223 0).f0))) (wrap64 (((rd_T45 t223 1).f1) - ((rd_T45 t223 0).f1))) (t240 != t241) ((rd_T45 t223 0).f0) ((rd_T45 t223 0).f1) ((rd_T45 t223 1).f0) ((rd_T45 t223 1).f1) t234 t235)))) = some r := H
          have A11 := Aside0.mk A110
          clear A110
          have HC12 := Aside0.mk H
          clear H
          go_enter Try.func13, Try.ntmps13
          go_upto_region 12 with (first | ((with_reducible refine gate_callee (f := 32) rfl ?_); refine goesL_ (some 15) rfl rfl Try.func32 (by kernel_rfl) rfl #[.slice A0 l0.length c0] rfl (by (try simp only [List.map_toArray, List.map_cons, List.map_nil]); first | done | rfl | (simp only [List.length_drop, List.length_take]; rfl)) ?_; (with_reducible refine (laws_big.calls _ _ l0 false _ ?side1 ?side2 A2.out).mono ?_); (case side1 => repeat (first | exact HR0.out | (with_reducible refine Kd.C_alloc ?_ _) | (with_reducible refine Kd.C_drewN ?_ _) | (with_reducible refine Kd.C_drew ?_))); (case side2 => exact HC0.out); rintro e w' ⟨rfl, ⟨nd, rfl⟩⟩; refine ⟨_, rfl, ?_⟩) | ((with_reducible refine gate_callee (f := 45) rfl ?_); refine goesL_ (some 17) rfl rfl Try.func45 (by kernel_rfl) rfl #[.slice A0 l0.length c0] rfl (by (try simp only [List.map_toArray, List.map_cons, List.map_nil]); first | done | rfl | (simp only [List.length_drop, List.length_take]; rfl)) ?_; (with_reducible refine (spec_DrawPoints.calls k _ _ l0 t223 _ ?side1 ?side2 A4.out).mono ?_); (case side1 => repeat (first | exact HR0.out | (with_reducible refine Kd.C_alloc ?_ _) | (with_reducible refine Kd.C_drewN ?_ _) | (with_reducible refine Kd.C_drew ?_))); (case side2 => exact HC0.out); rintro e w13 ⟨v224, rfl, ho0, hb⟩; refine ⟨_, rfl, ?_⟩; have n0_ := Aside0.mk (Kd.R_lower ho0 (below_size (by repeat (first | (with_reducible first | exact HB.out | apply below_alloc | apply pw_below_drewN | apply below_drew1) | exact HB.out)))); have n1_ := Aside0.mk (below_step (by repeat (first | (with_reducible first | exact HB.out | apply below_alloc | apply pw_below_drewN | apply below_drew1) | exact HB.out)) hb); clear HB; have HO225 := n0_; have HB := n1_; clear n0_ n1_; (try clear hb); (try clear hb2); (try clear hk); (try clear hi); (try clear ho0); obtain ⟨Ao14, co14, eo14⟩ := Kd.R_slice HO225.out; subst eo14; have p226 : 0 ≤ (0 : Int) := (by omega); have q226 : 0 < (t223.length : Int) := of_decide_eq_true (by first | (with_reducible assumption) | assumption); obtain ⟨ad226, e226, hx226_0, hx226_1⟩ := at_T45 (Kd.R_reads' HO225.out).2.2 0 p226 q226; cases e226; have qi226 : (0 < t223.length) = True := eq_true (by omega); (try rw [show ((0 : Int)).toNat = 0 from rfl] at hx226_0); (try rw [show 0 * 2 = 0 from rfl] at hx226_0); (try rw [Addr.add_zero'] at hx226_0); (try rw [show ((0 : Int)).toNat = 0 from rfl] at hx226_1); (try rw [show 0 * 2 = 0 from rfl] at hx226_1); (try rw [Addr.add_zero'] at hx226_1); replace p226 := eq_true p226; replace q226 := eq_true q226) | ((with_reducible refine gate_dst (N := 4) rfl ?_); (try (refine gate_guard (by rfl) ?_; dsimp only)); refine box_event ?hg (N := 4) ?hd (cs := #[.int .i64 0, .int .i64 0]) (t := 45) ?hr ?_; (case hd => rfl); (case hg => rfl); (case hr => first | (go_simp; done) | (go_simp; rfl)); intro gb227 hg w15 hbox hb; have n0_ := Aside0.mk (Kd.R_below (Kd.R_elderB (by (with_reducible repeat (first | apply Kd.R_alloc | apply Kd.R_drewN | apply Kd.R_drew)); exact HO225.out) gb227 (Nat.le_of_eq hg.symm)) hb); have n1_ := Aside0.mk (below_step (by repeat (first | (with_reducible first | exact HB.out | apply below_alloc | apply pw_below_drewN | apply below_drew1) | exact HB.out)) hb); have n2_ := Aside0.mk (hbox); have n3_ := Aside0.mk ((by rw [hg]; exact (below_size (by repeat (first | (with_reducible first | exact HB.out | apply below_alloc | apply pw_below_drewN | apply below_drew1) | exact HB.out))) : w.heap.size ≤ gb227)); have n4_ := Aside0.mk ((by rw [hg]; exact (below_size (by repeat (first | (with_reducible first | exact HB.out | apply below_alloc | apply pw_below_drewN | apply below_drew1) | exact HB.out))) : w.heap.size ≤ gb227)); clear HO225; clear HB; have HO225 := n0_; have HB := n1_; have BK227 := n2_; have GW227 := n3_; have GE227 := n4_; clear n0_ n1_ n2_ n3_ n4_; clear hb hbox hg; have hcz16_0 : w15.cell? ⟨gb227, 0, none⟩ = some (.int .i64 0) := (blk_cell BK227.out 0).trans rfl; have hcz16_1 : w15.cell? ⟨gb227, 1, none⟩ = some (.int .i64 0) := (blk_cell BK227.out 1).trans rfl; have hfz16_0 := blk_frozen BK227.out 0; have hfz16_1 := blk_frozen BK227.out 1; have p228 : 0 ≤ (1 : Int) := (by omega); have q228 : 1 < (t223.length : Int) := of_decide_eq_true (by first | (with_reducible assumption) | assumption); obtain ⟨ad228, e228, hx228_0, hx228_1⟩ := at_T45 (Kd.R_reads' HO225.out).2.2 1 p228 q228; obtain rfl : ad226 = ad228 := (by injection e228); (try simp only [show (1 : Int).toNat = 1 from rfl, Nat.reduceMul, Nat.reduceEqDiff, Go.Addr.add, ↓reduceIte] at hx228_0); (try simp only [show (1 : Int).toNat = 1 from rfl, Nat.reduceMul, Nat.reduceEqDiff, Go.Addr.add, ↓reduceIte] at hx228_1); have qi228 : (1 < t223.length) = True := eq_true (by omega); (try rw [show ((1 : Int)).toNat = 1 from rfl] at hx228_0); (try rw [show 1 * 2 = 2 from rfl] at hx228_0); (try rw [show ((1 : Int)).toNat = 1 from rfl] at hx228_1); (try rw [show 1 * 2 = 2 from rfl] at hx228_1); have hn228_0 : ad226.block ≠ gb227 := Kd.own_blk ((by first | exact Kd.R_ne HO225.out BK227.out (by decide) | (intro e_; have h_ := HO225.out.1 _ e_.symm; simp at h_))); have hn228_1 : ad226.block ≠ gb227 := Kd.own_blk ((by first | exact Kd.R_ne HO225.out BK227.out (by decide) | (intro e_; have h_ := HO225.out.1 _ e_.symm; simp at h_))); replace hx228_0 := (cell_far (p := ⟨gb227, 0, none⟩) (by first | (rw [add_block]; exact hn228_0) | (show (Addr.add _ _).block ≠ _; rw [add_block]; exact hn228_0) | exact hn228_0) (.int .i64 ((rd_T45 t223 0).f0))).trans hx228_0; replace hx228_1 := (cell_far (p := ⟨gb227, 0, none⟩) (by first | (rw [add_block]; exact hn228_0) | (show (Addr.add _ _).block ≠ _; rw [add_block]; exact hn228_0) | exact hn228_0) (.int .i64 ((rd_T45 t223 0).f0))).trans hx228_1; replace hx228_0 := (cell_far (p := ⟨gb227, 1, none⟩) (by first | (rw [add_block]; exact hn228_1) | (show (Addr.add _ _).block ≠ _; rw [add_block]; exact hn228_1) | exact hn228_1) (.int .i64 ((rd_T45 t223 0).f1))).trans hx228_0; replace hx228_1 := (cell_far (p := ⟨gb227, 1, none⟩) (by first | (rw [add_block]; exact hn228_1) | (show (Addr.add _ _).block ≠ _; rw [add_block]; exact hn228_1) | exact hn228_1) (.int .i64 ((rd_T45 t223 0).f1))).trans hx228_1; clear hn228_0; clear hn228_1; replace p228 := eq_true p228; replace q228 := eq_true q228) | ((with_reducible refine gate_dst (N := 5) rfl ?_); (try (refine gate_guard (by rfl) ?_; dsimp only)); refine box_event ?hg (N := 5) ?hd (cs := #[.int .i64 0, .int .i64 0]) (t := 45) ?hr ?_; (case hd => rfl); (case hg => rfl); (case hr => first | (go_simp; done) | (go_simp; rfl)); intro gb229 hg w17 hbox hb; have n0_ := Aside0.mk (Kd.R_below (Kd.R_elderB (by (with_reducible repeat (first | apply Kd.R_alloc | apply Kd.R_drewN | apply Kd.R_drew)); exact (Kd.R_mono (Kd.R_far (p := ⟨gb227, 1, none⟩) (Kd.R_far (p := ⟨gb227, 0, none⟩) (Kd.R_mono HO225.out (fun k_ hk => (⟨hk, hk.2⟩ : _ ∧ k_ ≠ gb227))) (fun _ hk => hk.2) (.int .i64 ((rd_T45 t223 0).f0))) (fun _ hk => hk.2) (.int .i64 ((rd_T45 t223 0).f1))) (fun _ h_ => h_.1))) gb229 (Nat.le_of_eq hg.symm)) hb); have n1_ := Aside0.mk (blk_below (g := gb227) (o := .cells #[.int .i64 ((rd_T45 t223 0).f0), .int .i64 ((rd_T45 t223 0).f1)] 45 (0, 0)) (by (with_reducible repeat (first | refine blk_drewN ?_ _ | refine blk_drew ?_ | refine blk_alloc ?_ _)); refine blk_put (cs := #[.int .i64 ((rd_T45 t223 0).f0), .int .i64 0]) ?_ 1 _ rfl; (with_reducible repeat (first | refine blk_drewN ?_ _ | refine blk_drew ?_ | refine blk_alloc ?_ _)); refine blk_put (cs := #[.int .i64 0, .int .i64 0]) ?_ 0 _ rfl; (with_reducible repeat (first | refine blk_drewN ?_ _ | refine blk_drew ?_ | refine blk_alloc ?_ _)); exact BK227.out) hb); have n2_ := Aside0.mk (below_step (by repeat (first | (with_reducible first | exact HB.out | apply below_alloc | apply pw_below_drewN | apply below_drew1 | refine below_set ?_ GE227.out) | exact HB.out)) hb); have n3_ := Aside0.mk (hbox); have n4_ := Aside0.mk ((by rw [hg]; exact (below_size (by repeat (first | (with_reducible first | exact HB.out | apply below_alloc | apply pw_below_drewN | apply below_drew1 | refine below_set ?_ GE227.out) | exact HB.out))) : w.heap.size ≤ gb229)); have n5_ := Aside0.mk ((by rw [hg]; exact (below_size (by repeat (first | (with_reducible first | exact HB.out | apply below_alloc | apply pw_below_drewN | apply below_drew1 | refine below_set ?_ GE227.out) | exact HB.out))) : w.heap.size ≤ gb229)); have n6_ := Aside0.mk ((by rw [hg]; exact Nat.ne_of_lt (blk_lt (g := gb227) (o := .cells #[.int .i64 ((rd_T45 t223 0).f0), .int .i64 ((rd_T45 t223 0).f1)] 45 (0, 0)) (by (with_reducible repeat (first | refine blk_drewN ?_ _ | refine blk_drew ?_ | refine blk_alloc ?_ _)); refine blk_put (cs := #[.int .i64 ((rd_T45 t223 0).f0), .int .i64 0]) ?_ 1 _ rfl; (with_reducible repeat (first | refine blk_drewN ?_ _ | refine blk_drew ?_ | refine blk_alloc ?_ _)); refine blk_put (cs := #[.int .i64 0, .int .i64 0]) ?_ 0 _ rfl; (with_reducible repeat (first | refine blk_drewN ?_ _ | refine blk_drew ?_ | refine blk_alloc ?_ _)); exact BK227.out)) : gb227 ≠ gb229)); have n7_ := Aside0.mk ((by rw [hg]; exact Nat.ne_of_gt (blk_lt (g := gb227) (o := .cells #[.int .i64 ((rd_T45 t223 0).f0), .int .i64 ((rd_T45 t223 0).f1)] 45 (0, 0)) (by (with_reducible repeat (first | refine blk_drewN ?_ _ | refine blk_drew ?_ | refine blk_alloc ?_ _)); refine blk_put (cs := #[.int .i64 ((rd_T45 t223 0).f0), .int .i64 0]) ?_ 1 _ rfl; (with_reducible repeat (first | refine blk_drewN ?_ _ | refine blk_drew ?_ | refine blk_alloc ?_ _)); refine blk_put (cs := #[.int .i64 0, .int .i64 0]) ?_ 0 _ rfl; (with_reducible repeat (first | refine blk_drewN ?_ _ | refine blk_drew ?_ | refine blk_alloc ?_ _)); exact BK227.out)) : gb229 ≠ gb227)); clear HO225; clear BK227; clear HB; have HO225 := n0_; have BK227 := n1_; have HB := n2_; have BK229 := n3_; have GW229 := n4_; have GE229 := n5_; have NB227_229 := n6_; have NB229_227 := n7_; clear n0_ n1_ n2_ n3_ n4_ n5_ n6_ n7_; clear hb hbox hg; have hnb18 := NB229_227.out; have hnc18 := NB227_229.out; have hcz19_0 : w17.cell? ⟨gb229, 0, none⟩ = some (.int .i64 0) := (blk_cell BK229.out 0).trans rfl; have hcz19_1 : w17.cell? ⟨gb229, 1, none⟩ = some (.int .i64 0) := (blk_cell BK229.out 1).trans rfl; have hfz19_0 := blk_frozen BK229.out 0; have hfz19_1 := blk_frozen BK229.out 1) | ((with_reducible refine gate_callee (f := 33) rfl ?_); refine goesL_ (some 25) rfl rfl Try.func33 (by kernel_rfl) rfl #[.slice A0 l0.length c0] rfl (by (try simp only [List.map_toArray, List.map_cons, List.map_nil]); first | done | rfl | (simp only [List.length_drop, List.length_take]; rfl)) ?_; (with_reducible refine (spec_DrawPlaces.calls k _ _ l0 t230 _ ?side1 ?side2 A7.out).mono ?_); (case side1 => exact Kd.C_below HR0.out (by repeat (first | (with_reducible first | exact HB.out | apply below_alloc | apply pw_below_drewN | apply below_drew1 | refine below_set ?_ GE227.out | refine below_set ?_ GE229.out) | exact HB.out))); (case side2 => exact HC0.out); rintro e w20 ⟨v231, rfl, ho0, hb⟩; refine ⟨_, rfl, ?_⟩; have n0_ := Aside0.mk (Kd.R_below (by (with_reducible repeat (first | apply Kd.R_alloc | apply Kd.R_drewN | apply Kd.R_drew)); exact (Kd.R_mono (Kd.R_far (p := ⟨gb229, 1, none⟩) (Kd.R_far (p := ⟨gb229, 0, none⟩) (Kd.R_mono HO225.out (fun k_ hk => (⟨hk, hk.2⟩ : _ ∧ k_ ≠ gb229))) (fun _ hk => hk.2) (.int .i64 ((rd_T45 t223 1).f0))) (fun _ hk => hk.2) (.int .i64 ((rd_T45 t223 1).f1))) (fun _ h_ => h_.1))) hb); have n1_ := Aside0.mk (Kd.R_lower ho0 (below_size (by repeat (first | (with_reducible first | exact HB.out | apply below_alloc | apply pw_below_drewN | apply below_drew1 | refine below_set ?_ GE227.out | refine below_set ?_ GE229.out) | exact HB.out)))); have n2_ := Aside0.mk (blk_below (g := gb227) (o := .cells #[.int .i64 ((rd_T45 t223 0).f0), .int .i64 ((rd_T45 t223 0).f1)] 45 (0, 0)) (by (with_reducible repeat (first | refine blk_drewN ?_ _ | refine blk_drew ?_ | refine blk_alloc ?_ _)); refine blk_far ?_ NB227_229.out _; (with_reducible repeat (first | refine blk_drewN ?_ _ | refine blk_drew ?_ | refine blk_alloc ?_ _)); refine blk_far ?_ NB227_229.out _; (with_reducible repeat (first | refine blk_drewN ?_ _ | refine blk_drew ?_ | refine blk_alloc ?_ _)); exact BK227.out) hb); have n3_ := Aside0.mk (blk_below (g := gb229) (o := .cells #[.int .i64 ((rd_T45 t223 1).f0), .int .i64 ((rd_T45 t223 1).f1)] 45 (0, 0)) (by (with_reducible repeat (first | refine blk_drewN ?_ _ | refine blk_drew ?_ | refine blk_alloc ?_ _)); refine blk_put (cs := #[.int .i64 ((rd_T45 t223 1).f0), .int .i64 0]) ?_ 1 _ rfl; (with_reducible repeat (first | refine blk_drewN ?_ _ | refine blk_drew ?_ | refine blk_alloc ?_ _)); refine blk_put (cs := #[.int .i64 0, .int .i64 0]) ?_ 0 _ rfl; (with_reducible repeat (first | refine blk_drewN ?_ _ | refine blk_drew ?_ | refine blk_alloc ?_ _)); exact BK229.out) hb); have n4_ := Aside0.mk (below_step (by repeat (first | (with_reducible first | exact HB.out | apply below_alloc | apply pw_below_drewN | apply below_drew1 | refine below_set ?_ GE227.out | refine below_set ?_ GE229.out) | exact HB.out)) hb); clear HO225; clear BK227; clear BK229; clear HB; have HO225 := n0_; have HO232 := n1_; have BK227 := n2_; have BK229 := n3_; have HB := n4_; clear n0_ n1_ n2_ n3_ n4_; (try clear hb); (try clear hb2); (try clear hk); (try clear hi); (try clear ho0); obtain ⟨Ao21, co21, eo21⟩ := Kd.R_slice HO232.out; subst eo21; have p233 : 0 ≤ (0 : Int) := (by omega); have q233 : 0 < (t230.length : Int) := of_decide_eq_true (by first | (with_reducible assumption) | assumption); obtain ⟨ad233, e233, hx233_0⟩ := Kd.at_int (Kd.R_reads' HO232.out).2.2 0 p233 q233; cases e233; have qi233 : (0 < t230.length) = True := eq_true (by omega); (try rw [show ((0 : Int)).toNat = 0 from rfl] at hx233_0); (try rw [Addr.add_zero'] at hx233_0); replace p233 := eq_true p233; replace q233 := eq_true q233; have hcz22_0 : w20.cell? ⟨gb227, 0, none⟩ = some (.int .i64 ((rd_T45 t223 0).f0)) := (blk_cell BK227.out 0).trans rfl; have hcz22_1 : w20.cell? ⟨gb227, 1, none⟩ = some (.int .i64 ((rd_T45 t223 0).f1)) := (blk_cell BK227.out 1).trans rfl; have hfz22_0 := blk_frozen BK227.out 0; have hfz22_1 := blk_frozen BK227.out 1; have hcz23_0 : w20.cell? ⟨gb229, 0, none⟩ = some (.int .i64 ((rd_T45 t223 1).f0)) := (blk_cell BK229.out 0).trans rfl; have hcz23_1 : w20.cell? ⟨gb229, 1, none⟩ = some (.int .i64 ((rd_T45 t223 1).f1)) := (blk_cell BK229.out 1).trans rfl; have hfz23_0 := blk_frozen BK229.out 0; have hfz23_1 := blk_frozen BK229.out 1) | ((with_reducible refine gate_callee (f := 52) rfl ?_); refine goesL_ (some 33) rfl rfl Try.func52 (by kernel_rfl) rfl #[.agg #[.int .i64 ((rd_T45 t223 0).f0), .int .i64 ((rd_T45 t223 0).f1)], .agg #[.int .i64 ((rd_T45 t223 1).f0), .int .i64 ((rd_T45 t223 1).f1)], .int .i64 (wrap64 (1 + (Int.tmod (rd t230 0) 2000)))] rfl (by (try simp only [List.map_toArray, List.map_cons, List.map_nil]); first | done | rfl | (simp only [List.length_drop, List.length_take]; rfl)) ?_; (with_reducible refine (impl_SideOf.calls k ((rd_T45 t223 0).f0) ((rd_T45 t223 0).f1) ((rd_T45 t223 1).f0) ((rd_T45 t223 1).f1) (wrap64 (1 + (Int.tmod (rd t230 0) 2000))) t234 t235 _ A9.out).mono ?_); rintro e w24 ⟨rfl, hb⟩; refine ⟨_, rfl, ?_⟩; have n0_ := Aside0.mk (Kd.R_below (by (with_reducible repeat (first | apply Kd.R_alloc | apply Kd.R_drewN | apply Kd.R_drew)); exact HO225.out) hb); have n1_ := Aside0.mk (Kd.R_below (by (with_reducible repeat (first | apply Kd.R_alloc | apply Kd.R_drewN | apply Kd.R_drew)); exact HO232.out) hb); have n2_ := Aside0.mk (blk_below (g := gb227) (o := .cells #[.int .i64 ((rd_T45 t223 0).f0), .int .i64 ((rd_T45 t223 0).f1)] 45 (0, 0)) (by (with_reducible repeat (first | refine blk_drewN ?_ _ | refine blk_drew ?_ | refine blk_alloc ?_ _)); exact BK227.out) hb); have n3_ := Aside0.mk (blk_below (g := gb229) (o := .cells #[.int .i64 ((rd_T45 t223 1).f0), .int .i64 ((rd_T45 t223 1).f1)] 45 (0, 0)) (by (with_reducible repeat (first | refine blk_drewN ?_ _ | refine blk_drew ?_ | refine blk_alloc ?_ _)); exact BK229.out) hb); have n4_ := Aside0.mk (below_step (by repeat (first | (with_reducible first | exact HB.out | apply below_alloc | apply pw_below_drewN | apply below_drew1 | refine below_set ?_ GE227.out | refine below_set ?_ GE229.out) | exact HB.out)) hb); clear HO225; clear HO232; clear BK227; clear BK229; clear HB; have HO225 := n0_; have HO232 := n1_; have BK227 := n2_; have BK229 := n3_; have HB := n4_; clear n0_ n1_ n2_ n3_ n4_; (try clear hb); (try clear hb2); (try clear hk); (try clear hi)) | ((with_reducible refine gate_dst (N := 7) rfl ?_); (try (refine gate_guard (by rfl) ?_; dsimp only)); refine box_event ?hg (N := 7) ?hd (cs := #[.int .i64 0, .int .i64 0]) (t := 45) ?hr ?_; (case hd => rfl); (case hg => rfl); (case hr => first | (go_simp; done) | (go_simp; rfl)); intro gb236 hg w25 hbox hb; have n0_ := Aside0.mk (Kd.R_below (Kd.R_elderB (by (with_reducible repeat (first | apply Kd.R_alloc | apply Kd.R_drewN | apply Kd.R_drew)); exact HO225.out) gb236 (Nat.le_of_eq hg.symm)) hb); have n1_ := Aside0.mk (Kd.R_below (by (with_reducible repeat (first | apply Kd.R_alloc | apply Kd.R_drewN | apply Kd.R_drew)); exact HO232.out) hb); have n2_ := Aside0.mk (blk_below (g := gb227) (o := .cells #[.int .i64 ((rd_T45 t223 0).f0), .int .i64 ((rd_T45 t223 0).f1)] 45 (0, 0)) (by (with_reducible repeat (first | refine blk_drewN ?_ _ | refine blk_drew ?_ | refine blk_alloc ?_ _)); exact BK227.out) hb); have n3_ := Aside0.mk (blk_below (g := gb229) (o := .cells #[.int .i64 ((rd_T45 t223 1).f0), .int .i64 ((rd_T45 t223 1).f1)] 45 (0, 0)) (by (with_reducible repeat (first | refine blk_drewN ?_ _ | refine blk_drew ?_ | refine blk_alloc ?_ _)); exact BK229.out) hb); have n4_ := Aside0.mk (below_step (by repeat (first | (with_reducible first | exact HB.out | apply below_alloc | apply pw_below_drewN | apply below_drew1 | refine below_set ?_ GE227.out | refine below_set ?_ GE229.out) | exact HB.out)) hb); have n5_ := Aside0.mk (hbox); have n6_ := Aside0.mk ((by rw [hg]; exact (below_size (by repeat (first | (with_reducible first | exact HB.out | apply below_alloc | apply pw_below_drewN | apply below_drew1 | refine below_set ?_ GE227.out | refine below_set ?_ GE229.out) | exact HB.out))) : w.heap.size ≤ gb236)); have n7_ := Aside0.mk ((by rw [hg]; exact (below_size (by repeat (first | (with_reducible first | exact HB.out | apply below_alloc | apply pw_below_drewN | apply below_drew1 | refine below_set ?_ GE227.out | refine below_set ?_ GE229.out) | exact HB.out))) : w.heap.size ≤ gb236)); have n8_ := Aside0.mk ((by rw [hg]; exact Nat.ne_of_lt (blk_lt (g := gb227) (o := .cells #[.int .i64 ((rd_T45 t223 0).f0), .int .i64 ((rd_T45 t223 0).f1)] 45 (0, 0)) (by (with_reducible repeat (first | refine blk_drewN ?_ _ | refine blk_drew ?_ | refine blk_alloc ?_ _)); exact BK227.out)) : gb227 ≠ gb236)); have n9_ := Aside0.mk ((by rw [hg]; exact Nat.ne_of_gt (blk_lt (g := gb227) (o := .cells #[.int .i64 ((rd_T45 t223 0).f0), .int .i64 ((rd_T45 t223 0).f1)] 45 (0, 0)) (by (with_reducible repeat (first | refine blk_drewN ?_ _ | refine blk_drew ?_ | refine blk_alloc ?_ _)); exact BK227.out)) : gb236 ≠ gb227)); have n10_ := Aside0.mk ((by rw [hg]; exact Nat.ne_of_lt (blk_lt (g := gb229) (o := .cells #[.int .i64 ((rd_T45 t223 1).f0), .int .i64 ((rd_T45 t223 1).f1)] 45 (0, 0)) (by (with_reducible repeat (first | refine blk_drewN ?_ _ | refine blk_drew ?_ | refine blk_alloc ?_ _)); exact BK229.out)) : gb229 ≠ gb236)); have n11_ := Aside0.mk ((by rw [hg]; exact Nat.ne_of_gt (blk_lt (g := gb229) (o := .cells #[.int .i64 ((rd_T45 t223 1).f0), .int .i64 ((rd_T45 t223 1).f1)] 45 (0, 0)) (by (with_reducible repeat (first | refine blk_drewN ?_ _ | refine blk_drew ?_ | refine blk_alloc ?_ _)); exact BK229.out)) : gb236 ≠ gb229)); clear HO225; clear HO232; clear BK227; clear BK229; clear HB; have HO225 := n0_; have HO232 := n1_; have BK227 := n2_; have BK229 := n3_; have HB := n4_; have BK236 := n5_; have GW236 := n6_; have GE236 := n7_; have NB227_236 := n8_; have NB236_227 := n9_; have NB229_236 := n10_; have NB236_229 := n11_; clear n0_ n1_ n2_ n3_ n4_ n5_ n6_ n7_ n8_ n9_ n10_ n11_; clear hb hbox hg; have hnb26 := NB236_227.out; have hnc26 := NB227_236.out; have hnb27 := NB236_229.out; have hnc27 := NB229_236.out; have hcz28_0 : w25.cell? ⟨gb236, 0, none⟩ = some (.int .i64 0) := (blk_cell BK236.out 0).trans rfl; have hcz28_1 : w25.cell? ⟨gb236, 1, none⟩ = some (.int .i64 0) := (blk_cell BK236.out 1).trans rfl; have hfz28_0 := blk_frozen BK236.out 0; have hfz28_1 := blk_frozen BK236.out 1; have hcz29_0 : w25.cell? ⟨gb227, 0, none⟩ = some (.int .i64 ((rd_T45 t223 0).f0)) := (blk_cell BK227.out 0).trans rfl; have hcz29_1 : w25.cell? ⟨gb227, 1, none⟩ = some (.int .i64 ((rd_T45 t223 0).f1)) := (blk_cell BK227.out 1).trans rfl; have hfz29_0 := blk_frozen BK227.out 0; have hfz29_1 := blk_frozen BK227.out 1; have hcz30_0 : w25.cell? ⟨gb229, 0, none⟩ = some (.int .i64 ((rd_T45 t223 1).f0)) := (blk_cell BK229.out 0).trans rfl; have hcz30_1 : w25.cell? ⟨gb229, 1, none⟩ = some (.int .i64 ((rd_T45 t223 1).f1)) := (blk_cell BK229.out 1).trans rfl; have hfz30_0 := blk_frozen BK229.out 0; have hfz30_1 := blk_frozen BK229.out 1) | ((with_reducible refine gate_callee (f := 53) rfl ?_); refine goesL_ (some 37) rfl rfl Try.func53 (by kernel_rfl) rfl #[.agg #[.int .i64 ((rd_T45 t223 0).f0), .int .i64 ((rd_T45 t223 0).f1)], .agg #[.int .i64 ((rd_T45 t223 1).f0), .int .i64 ((rd_T45 t223 1).f1)], .int .i64 (wrap64 (1 + (Int.tmod (rd t230 0) 2000)))] rfl (by (try simp only [List.map_toArray, List.map_cons, List.map_nil]); first | done | rfl | (simp only [List.length_drop, List.length_take]; rfl)) ?_; (with_reducible refine (impl_QuadOf.calls k ((rd_T45 t223 0).f0) ((rd_T45 t223 0).f1) ((rd_T45 t223 1).f0) ((rd_T45 t223 1).f1) (wrap64 (1 + (Int.tmod (rd t230 0) 2000))) t237 _ A10.out).mono ?_); rintro e w31 ⟨v238, rfl, ho0, hb⟩; refine ⟨_, rfl, ?_⟩; have n0_ := Aside0.mk (Kd.R_elder' (by (with_reducible repeat (first | apply Kd.R_alloc | apply Kd.R_drewN | apply Kd.R_drew)); exact (Kd.R_mono (Kd.R_far (p := ⟨gb236, 1, none⟩) (Kd.R_far (p := ⟨gb236, 0, none⟩) (Kd.R_mono HO225.out (fun k_ hk => (⟨hk, hk.2⟩ : _ ∧ k_ ≠ gb236))) (fun _ hk => hk.2) (.int .i64 t234)) (fun _ hk => hk.2) (.int .i64 t235)) (fun _ h_ => h_.1))) (Kd.R_base ho0) hb); have n1_ := Aside0.mk (Kd.R_below (by (with_reducible repeat (first | apply Kd.R_alloc | apply Kd.R_drewN | apply Kd.R_drew)); exact (Kd.R_mono (Kd.R_far (p := ⟨gb236, 1, none⟩) (Kd.R_far (p := ⟨gb236, 0, none⟩) (Kd.R_types HO232.out BK236.out (by decide)) (fun _ hk => hk.2) (.int .i64 t234)) (fun _ hk => hk.2) (.int .i64 t235)) (fun _ h_ => h_.1))) hb); have n2_ := Aside0.mk (Kd.R_lower (Kd.R_newB (Kd.R_newB (Kd.R_newB (Kd.R_new' ho0 (Kd.R_lt (by (with_reducible repeat (first | apply Kd.R_alloc | apply Kd.R_drewN | apply Kd.R_drew)); exact (Kd.R_mono (Kd.R_far (p := ⟨gb236, 1, none⟩) (Kd.R_far (p := ⟨gb236, 0, none⟩) (Kd.R_mono HO225.out (fun k_ hk => (⟨hk, hk.2⟩ : _ ∧ k_ ≠ gb236))) (fun _ hk => hk.2) (.int .i64 t234)) (fun _ hk => hk.2) (.int .i64 t235)) (fun _ h_ => h_.1))))) (g := gb227) (o := .cells #[.int .i64 ((rd_T45 t223 0).f0), .int .i64 ((rd_T45 t223 0).f1)] 45 (0, 0)) (by (with_reducible repeat (first | refine blk_drewN ?_ _ | refine blk_drew ?_ | refine blk_alloc ?_ _)); refine blk_far ?_ NB227_236.out _; (with_reducible repeat (first | refine blk_drewN ?_ _ | refine blk_drew ?_ | refine blk_alloc ?_ _)); refine blk_far ?_ NB227_236.out _; (with_reducible repeat (first | refine blk_drewN ?_ _ | refine blk_drew ?_ | refine blk_alloc ?_ _)); exact BK227.out)) (g := gb229) (o := .cells #[.int .i64 ((rd_T45 t223 1).f0), .int .i64 ((rd_T45 t223 1).f1)] 45 (0, 0)) (by (with_reducible repeat (first | refine blk_drewN ?_ _ | refine blk_drew ?_ | refine blk_alloc ?_ _)); refine blk_far ?_ NB229_236.out _; (with_reducible repeat (first | refine blk_drewN ?_ _ | refine blk_drew ?_ | refine blk_alloc ?_ _)); refine blk_far ?_ NB229_236.out _; (with_reducible repeat (first | refine blk_drewN ?_ _ | refine blk_drew ?_ | refine blk_alloc ?_ _)); exact BK229.out)) (g := gb236) (o := .cells #[.int .i64 t234, .int .i64 t235] 45 (0, 0)) (by (with_reducible repeat (first | refine blk_drewN ?_ _ | refine blk_drew ?_ | refine blk_alloc ?_ _)); refine blk_put (cs := #[.int .i64 t234, .int .i64 0]) ?_ 1 _ rfl; (with_reducible repeat (first | refine blk_drewN ?_ _ | refine blk_drew ?_ | refine blk_alloc ?_ _)); refine blk_put (cs := #[.int .i64 0, .int .i64 0]) ?_ 0 _ rfl; (with_reducible repeat (first | refine blk_drewN ?_ _ | refine blk_drew ?_ | refine blk_alloc ?_ _)); exact BK236.out)) (below_size (by repeat (first | (with_reducible first | exact HB.out | apply below_alloc | apply pw_below_drewN | apply below_drew1 | refine below_set ?_ GE227.out | refine below_set ?_ GE229.out | refine below_set ?_ GE236.out) | exact HB.out)))); have n3_ := Aside0.mk (blk_below (g := gb227) (o := .cells #[.int .i64 ((rd_T45 t223 0).f0), .int .i64 ((rd_T45 t223 0).f1)] 45 (0, 0)) (by (with_reducible repeat (first | refine blk_drewN ?_ _ | refine blk_drew ?_ | refine blk_alloc ?_ _)); refine blk_far ?_ NB227_236.out _; (with_reducible repeat (first | refine blk_drewN ?_ _ | refine blk_drew ?_ | refine blk_alloc ?_ _)); refine blk_far ?_ NB227_236.out _; (with_reducible repeat (first | refine blk_drewN ?_ _ | refine blk_drew ?_ | refine blk_alloc ?_ _)); exact BK227.out) hb); have n4_ := Aside0.mk (blk_below (g := gb229) (o := .cells #[.int .i64 ((rd_T45 t223 1).f0), .int .i64 ((rd_T45 t223 1).f1)] 45 (0, 0)) (by (with_reducible repeat (first | refine blk_drewN ?_ _ | refine blk_drew ?_ | refine blk_alloc ?_ _)); refine blk_far ?_ NB229_236.out _; (with_reducible repeat (first | refine blk_drewN ?_ _ | refine blk_drew ?_ | refine blk_alloc ?_ _)); refine blk_far ?_ NB229_236.out _; (with_reducible repeat (first | refine blk_drewN ?_ _ | refine blk_drew ?_ | refine blk_alloc ?_ _)); exact BK229.out) hb); have n5_ := Aside0.mk (blk_below (g := gb236) (o := .cells #[.int .i64 t234, .int .i64 t235] 45 (0, 0)) (by (with_reducible repeat (first | refine blk_drewN ?_ _ | refine blk_drew ?_ | refine blk_alloc ?_ _)); refine blk_put (cs := #[.int .i64 t234, .int .i64 0]) ?_ 1 _ rfl; (with_reducible repeat (first | refine blk_drewN ?_ _ | refine blk_drew ?_ | refine blk_alloc ?_ _)); refine blk_put (cs := #[.int .i64 0, .int .i64 0]) ?_ 0 _ rfl; (with_reducible repeat (first | refine blk_drewN ?_ _ | refine blk_drew ?_ | refine blk_alloc ?_ _)); exact BK236.out) hb); have n6_ := Aside0.mk (below_step (by repeat (first | (with_reducible first | exact HB.out | apply below_alloc | apply pw_below_drewN | apply below_drew1 | refine below_set ?_ GE227.out | refine below_set ?_ GE229.out | refine below_set ?_ GE236.out) | exact HB.out)) hb); clear HO225; clear HO232; clear BK227; clear BK229; clear BK236; clear HB; have HO225 := n0_; have HO232 := n1_; have HO239 := n2_; have BK227 := n3_; have BK229 := n4_; have BK236 := n5_; have HB := n6_; clear n0_ n1_ n2_ n3_ n4_ n5_ n6_; (try clear hb); (try clear hb2); (try clear hk); (try clear hi); (try clear ho0); have hcz32_0 : w31.cell? ⟨gb227, 0, none⟩ = some (.int .i64 ((rd_T45 t223 0).f0)) := (blk_cell BK227.out 0).trans rfl; have hcz32_1 : w31.cell? ⟨gb227, 1, none⟩ = some (.int .i64 ((rd_T45 t223 0).f1)) := (blk_cell BK227.out 1).trans rfl; have hfz32_0 := blk_frozen BK227.out 0; have hfz32_1 := blk_frozen BK227.out 1; have hcz33_0 : w31.cell? ⟨gb229, 0, none⟩ = some (.int .i64 ((rd_T45 t223 1).f0)) := (blk_cell BK229.out 0).trans rfl; have hcz33_1 : w31.cell? ⟨gb229, 1, none⟩ = some (.int .i64 ((rd_T45 t223 1).f1)) := (blk_cell BK229.out 1).trans rfl; have hfz33_0 := blk_frozen BK229.out 0; have hfz33_1 := blk_frozen BK229.out 1) | ((with_reducible refine gate_callee (f := 54) rfl ?_); refine goesL_ (some 40) rfl rfl Try.func54 (by kernel_rfl) rfl #[.agg #[.int .i64 ((rd_T45 t223 0).f0), .int .i64 ((rd_T45 t223 0).f1)], .agg #[.int .i64 ((rd_T45 t223 1).f0), .int .i64 ((rd_T45 t223 1).f1)]] rfl (by (try simp only [List.map_toArray, List.map_cons, List.map_nil]); first | done | rfl | (simp only [List.length_drop, List.length_take]; rfl)) ?_; (with_reducible refine (impl_LengthOf.calls k ((rd_T45 t223 0).f0) ((rd_T45 t223 0).f1) ((rd_T45 t223 1).f0) ((rd_T45 t223 1).f1) t240 _ A11.out).mono ?_); rintro e w34 ⟨rfl, hb⟩; refine ⟨_, rfl, ?_⟩; have n0_ := Aside0.mk (Kd.R_below (by (with_reducible repeat (first | apply Kd.R_alloc | apply Kd.R_drewN | apply Kd.R_drew)); exact HO225.out) hb); have n1_ := Aside0.mk (Kd.R_below (by (with_reducible repeat (first | apply Kd.R_alloc | apply Kd.R_drewN | apply Kd.R_drew)); exact HO232.out) hb); have n2_ := Aside0.mk (Kd.R_below (by (with_reducible repeat (first | apply Kd.R_alloc | apply Kd.R_drewN | apply Kd.R_drew)); exact HO239.out) hb); have n3_ := Aside0.mk (blk_below (g := gb227) (o := .cells #[.int .i64 ((rd_T45 t223 0).f0), .int .i64 ((rd_T45 t223 0).f1)] 45 (0, 0)) (by (with_reducible repeat (first | refine blk_drewN ?_ _ | refine blk_drew ?_ | refine blk_alloc ?_ _)); exact BK227.out) hb); have n4_ := Aside0.mk (blk_below (g := gb229) (o := .cells #[.int .i64 ((rd_T45 t223 1).f0), .int .i64 ((rd_T45 t223 1).f1)] 45 (0, 0)) (by (with_reducible repeat (first | refine blk_drewN ?_ _ | refine blk_drew ?_ | refine blk_alloc ?_ _)); exact BK229.out) hb); have n5_ := Aside0.mk (blk_below (g := gb236) (o := .cells #[.int .i64 t234, .int .i64 t235] 45 (0, 0)) (by (with_reducible repeat (first | refine blk_drewN ?_ _ | refine blk_drew ?_ | refine blk_alloc ?_ _)); exact BK236.out) hb); have n6_ := Aside0.mk (below_step (by repeat (first | (with_reducible first | exact HB.out | apply below_alloc | apply pw_below_drewN | apply below_drew1 | refine below_set ?_ GE227.out | refine below_set ?_ GE229.out | refine below_set ?_ GE236.out) | exact HB.out)) hb); clear HO225; clear HO232; clear HO239; clear BK227; clear BK229; clear BK236; clear HB; have HO225 := n0_; have HO232 := n1_; have HO239 := n2_; have BK227 := n3_; have BK229 := n4_; have BK236 := n5_; have HB := n6_; clear n0_ n1_ n2_ n3_ n4_ n5_ n6_; (try clear hb); (try clear hb2); (try clear hk); (try clear hi); have hcz35_0 : w34.cell? ⟨gb229, 0, none⟩ = some (.int .i64 ((rd_T45 t223 1).f0)) := (blk_cell BK229.out 0).trans rfl; have hcz35_1 : w34.cell? ⟨gb229, 1, none⟩ = some (.int .i64 ((rd_T45 t223 1).f1)) := (blk_cell BK229.out 1).trans rfl; have hfz35_0 := blk_frozen BK229.out 0; have hfz35_1 := blk_frozen BK229.out 1; have hcz36_0 : w34.cell? ⟨gb227, 0, none⟩ = some (.int .i64 ((rd_T45 t223 0).f0)) := (blk_cell BK227.out 0).trans rfl; have hcz36_1 : w34.cell? ⟨gb227, 1, none⟩ = some (.int .i64 ((rd_T45 t223 0).f1)) := (blk_cell BK227.out 1).trans rfl; have hfz36_0 := blk_frozen BK227.out 0; have hfz36_1 := blk_frozen BK227.out 1))
          (try simp only [Act.put, List.setIfInBounds_toArray, List.set_cons_zero, List.set_cons_succ])
          go_cut [83] (fun v83 wc => ∃ (kq : Nat) (x83_11 : Bool), v83 = .bool x83_11 ∧ Aside0 (laws_FnStrokes.j0 kq (wrap64 (1 + (Int.tmod (rd t230 0) 2000))) t237 t240 (wrap64 (((rd_T45 t223 1).f0) - ((rd_T45 t223 0).f0))) (wrap64 (((rd_T45 t223 1).f1) - ((rd_T45 t223 0).f1))) x83_11 ((rd_T45 t223 0).f0) ((rd_T45 t223 0).f1) ((rd_T45 t223 1).f0) ((rd_T45 t223 1).f1) t234 t235 = some r) ∧ Aside0 (kq ≤ k) ∧ Aside0 (Kd.R k45 45 wc w.heap.size (fun k_ => k_ ≠ gb227 ∧ k_ ≠ gb229 ∧ k_ ≠ gb236) v238 t237) ∧ Aside0 (wc.heap[gb227]? = some (.cells #[.int .i64 ((rd_T45 t223 0).f0), .int .i64 ((rd_T45 t223 0).f1)] 45 (0, 0))) ∧ Aside0 (wc.heap[gb229]? = some (.cells #[.int .i64 ((rd_T45 t223 1).f0), .int .i64 ((rd_T45 t223 1).f1)] 45 (0, 0))) ∧ Aside0 (wc.heap[gb236]? = some (.cells #[.int .i64 t234, .int .i64 t235] 45 (0, 0))) ∧ Aside0 (Below w.heap.size w wc))
          case first =>
            have H := HC12.out
            clear HC12
            by_cases c37 : (wrap64 (t240 * t240)) > (wrap64 ((wrap64 ((wrap64 (((rd_T45 t223 1).f0) - ((rd_T45 t223 0).f0))) * (wrap64 (((rd_T45 t223 1).f0) - ((rd_T45 t223 0).f0))))) + (wrap64 ((wrap64 (((rd_T45 t223 1).f1) - ((rd_T45 t223 0).f1))) * (wrap64 (((rd_T45 t223 1).f1) - ((rd_T45 t223 0).f1)))))))
            · rw [if_pos c37] at H
              have c37b0 : decide ((wrap64 ((wrap64 ((wrap64 (((rd_T45 t223 1).f0) - ((rd_T45 t223 0).f0))) * (wrap64 (((rd_T45 t223 1).f0) - ((rd_T45 t223 0).f0))))) + (wrap64 ((wrap64 (((rd_T45 t223 1).f1) - ((rd_T45 t223 0).f1))) * (wrap64 (((rd_T45 t223 1).f1) - ((rd_T45 t223 0).f1))))))) < (wrap64 (t240 * t240))) = true := decide_eq_true c37
              clear c37
              (first | rw [c37b0] | (simp only [i64_w, i32_w]; rw [c37b0]) | skip)
              have H' := Aside0.mk H
              clear H
              go_wp2
              go_meet
              case rel => exact ⟨_, (true), (by first | rfl | (simp; done) | (simp [*]; done)), H', ⟨by first | omega | exact Nat.le_refl _⟩, ⟨by (with_reducible repeat (first | apply Kd.R_alloc | apply Kd.R_drewN | apply Kd.R_drew)); exact Kd.R_mono HO239.out (fun _ hk => ⟨hk.1.1.2, ⟨hk.1.2, hk.2⟩⟩)⟩, ⟨by (with_reducible repeat (first | refine blk_drewN ?_ _ | refine blk_drew ?_ | refine blk_alloc ?_ _)); exact BK227.out⟩, ⟨by (with_reducible repeat (first | refine blk_drewN ?_ _ | refine blk_drew ?_ | refine blk_alloc ?_ _)); exact BK229.out⟩, ⟨by (with_reducible repeat (first | refine blk_drewN ?_ _ | refine blk_drew ?_ | refine blk_alloc ?_ _)); exact BK236.out⟩, ⟨by repeat (first | (with_reducible first | exact HB.out | apply below_alloc | apply pw_below_drewN | apply below_drew1 | refine below_set ?_ GE227.out | refine below_set ?_ GE229.out | refine below_set ?_ GE236.out) | exact HB.out)⟩⟩
            · rw [if_neg c37] at H
              have c37b0 : decide ((wrap64 ((wrap64 ((wrap64 (((rd_T45 t223 1).f0) - ((rd_T45 t223 0).f0))) * (wrap64 (((rd_T45 t223 1).f0) - ((rd_T45 t223 0).f0))))) + (wrap64 ((wrap64 (((rd_T45 t223 1).f1) - ((rd_T45 t223 0).f1))) * (wrap64 (((rd_T45 t223 1).f1) - ((rd_T45 t223 0).f1))))))) < (wrap64 (t240 * t240))) = false := decide_eq_false c37
              clear c37
              (first | rw [c37b0] | (simp only [i64_w, i32_w]; rw [c37b0]) | skip)
              by_cases c38 : (wrap64 ((wrap64 (t240 + 1)) * (wrap64 (t240 + 1)))) ≤ (wrap64 ((wrap64 ((wrap64 (((rd_T45 t223 1).f0) - ((rd_T45 t223 0).f0))) * (wrap64 (((rd_T45 t223 1).f0) - ((rd_T45 t223 0).f0))))) + (wrap64 ((wrap64 (((rd_T45 t223 1).f1) - ((rd_T45 t223 0).f1))) * (wrap64 (((rd_T45 t223 1).f1) - ((rd_T45 t223 0).f1)))))))
              · rw [if_pos c38] at H
                have c38b0 : decide ((wrap64 ((wrap64 (t240 + 1)) * (wrap64 (t240 + 1)))) ≤ (wrap64 ((wrap64 ((wrap64 (((rd_T45 t223 1).f0) - ((rd_T45 t223 0).f0))) * (wrap64 (((rd_T45 t223 1).f0) - ((rd_T45 t223 0).f0))))) + (wrap64 ((wrap64 (((rd_T45 t223 1).f1) - ((rd_T45 t223 0).f1))) * (wrap64 (((rd_T45 t223 1).f1) - ((rd_T45 t223 0).f1)))))))) = true := decide_eq_true c38
                clear c38
                have H' := Aside0.mk H
                clear H
                go_wp2
                go_meet
                case rel => exact ⟨_, (true), (by first | rfl | (simp; done) | (simp [*]; done)), H', ⟨by first | omega | exact Nat.le_refl _⟩, ⟨by (with_reducible repeat (first | apply Kd.R_alloc | apply Kd.R_drewN | apply Kd.R_drew)); exact Kd.R_mono HO239.out (fun _ hk => ⟨hk.1.1.2, ⟨hk.1.2, hk.2⟩⟩)⟩, ⟨by (with_reducible repeat (first | refine blk_drewN ?_ _ | refine blk_drew ?_ | refine blk_alloc ?_ _)); exact BK227.out⟩, ⟨by (with_reducible repeat (first | refine blk_drewN ?_ _ | refine blk_drew ?_ | refine blk_alloc ?_ _)); exact BK229.out⟩, ⟨by (with_reducible repeat (first | refine blk_drewN ?_ _ | refine blk_drew ?_ | refine blk_alloc ?_ _)); exact BK236.out⟩, ⟨by repeat (first | (with_reducible first | exact HB.out | apply below_alloc | apply pw_below_drewN | apply below_drew1 | refine below_set ?_ GE227.out | refine below_set ?_ GE229.out | refine below_set ?_ GE236.out) | exact HB.out)⟩⟩
              · rw [if_neg c38] at H
                have c38b0 : decide ((wrap64 ((wrap64 (t240 + 1)) * (wrap64 (t240 + 1)))) ≤ (wrap64 ((wrap64 ((wrap64 (((rd_T45 t223 1).f0) - ((rd_T45 t223 0).f0))) * (wrap64 (((rd_T45 t223 1).f0) - ((rd_T45 t223 0).f0))))) + (wrap64 ((wrap64 (((rd_T45 t223 1).f1) - ((rd_T45 t223 0).f1))) * (wrap64 (((rd_T45 t223 1).f1) - ((rd_T45 t223 0).f1)))))))) = false := decide_eq_false c38
                clear c38
                replace H := Option.bind_eq_some_iff.mp H
                obtain ⟨t241, A390, H⟩ := H
                replace H : (laws_FnStrokes.j0 k (wrap64 (1 + (Int.tmod (rd t230 0) 2000))) t237 t240 (wrap64 (((rd_T45 t223 1).f0) - ((rd_T45 t223 0).f0))) (wrap64 (((rd_T45 t223 1).f1) - ((rd_T45 t223 0).f1))) (t240 != t241) ((rd_T45 t223 0).f0) ((rd_T45 t223 0).f1) ((rd_T45 t223 1).f0) ((rd_T45 t223 1).f1) t234 t235) = some r := H
                have A39 := Aside0.mk A390
                clear A390
                have H' := Aside0.mk H
                clear H
                have hnb40 := NB229_227.out
                have hnc40 := NB227_229.out
                have hnb41 := NB229_236.out
                have hnc41 := NB236_229.out
                have hcz42_0 : w34.cell? ⟨gb229, 0, none⟩ = some (.int .i64 ((rd_T45 t223 1).f0)) := (blk_cell BK229.out 0).trans rfl
                have hcz42_1 : w34.cell? ⟨gb229, 1, none⟩ = some (.int .i64 ((rd_T45 t223 1).f1)) := (blk_cell BK229.out 1).trans rfl
                have hfz42_0 := blk_frozen BK229.out 0
                have hfz42_1 := blk_frozen BK229.out 1
                have hnb43 := NB227_236.out
                have hnc43 := NB236_227.out
                have hcz44_0 : w34.cell? ⟨gb227, 0, none⟩ = some (.int .i64 ((rd_T45 t223 0).f0)) := (blk_cell BK227.out 0).trans rfl
                have hcz44_1 : w34.cell? ⟨gb227, 1, none⟩ = some (.int .i64 ((rd_T45 t223 0).f1)) := (blk_cell BK227.out 1).trans rfl
                have hfz44_0 := blk_frozen BK227.out 0
                have hfz44_1 := blk_frozen BK227.out 1
                go_wp2_with (first | (go_at_call 54; (with_reducible refine (impl_LengthOf.calls k ((rd_T45 t223 1).f0) ((rd_T45 t223 1).f1) ((rd_T45 t223 0).f0) ((rd_T45 t223 0).f1) t241 _ A39.out).mono ?_); rintro e w45 ⟨rfl, hb⟩; have n0_ := Aside0.mk (Kd.R_below (by (with_reducible repeat (first | apply Kd.R_alloc | apply Kd.R_drewN | apply Kd.R_drew)); exact HO225.out) hb); have n1_ := Aside0.mk (Kd.R_below (by (with_reducible repeat (first | apply Kd.R_alloc | apply Kd.R_drewN | apply Kd.R_drew)); exact HO232.out) hb); have n2_ := Aside0.mk (Kd.R_below (by (with_reducible repeat (first | apply Kd.R_alloc | apply Kd.R_drewN | apply Kd.R_drew)); exact HO239.out) hb); have n3_ := Aside0.mk (blk_below (g := gb227) (o := .cells #[.int .i64 ((rd_T45 t223 0).f0), .int .i64 ((rd_T45 t223 0).f1)] 45 (0, 0)) (by (with_reducible repeat (first | refine blk_drewN ?_ _ | refine blk_drew ?_ | refine blk_alloc ?_ _)); exact BK227.out) hb); have n4_ := Aside0.mk (blk_below (g := gb229) (o := .cells #[.int .i64 ((rd_T45 t223 1).f0), .int .i64 ((rd_T45 t223 1).f1)] 45 (0, 0)) (by (with_reducible repeat (first | refine blk_drewN ?_ _ | refine blk_drew ?_ | refine blk_alloc ?_ _)); exact BK229.out) hb); have n5_ := Aside0.mk (blk_below (g := gb236) (o := .cells #[.int .i64 t234, .int .i64 t235] 45 (0, 0)) (by (with_reducible repeat (first | refine blk_drewN ?_ _ | refine blk_drew ?_ | refine blk_alloc ?_ _)); exact BK236.out) hb); have n6_ := Aside0.mk (below_step (by repeat (first | (with_reducible first | exact HB.out | apply below_alloc | apply pw_below_drewN | apply below_drew1 | refine below_set ?_ GE227.out | refine below_set ?_ GE229.out | refine below_set ?_ GE236.out) | exact HB.out)) hb); clear HO225; clear HO232; clear HO239; clear BK227; clear BK229; clear BK236; clear HB; have HO225 := n0_; have HO232 := n1_; have HO239 := n2_; have BK227 := n3_; have BK229 := n4_; have BK236 := n5_; have HB := n6_; clear n0_ n1_ n2_ n3_ n4_ n5_ n6_; (try clear hb); (try clear hb2); (try clear hk); (try clear hi)))
                go_meet
                case rel => exact ⟨_, ((t240 != t241)), (by first | rfl | (simp; done) | (simp [*]; done)), H', ⟨by first | omega | exact Nat.le_refl _⟩, ⟨by (with_reducible repeat (first | apply Kd.R_alloc | apply Kd.R_drewN | apply Kd.R_drew)); exact Kd.R_mono HO239.out (fun _ hk => ⟨hk.1.1.2, ⟨hk.1.2, hk.2⟩⟩)⟩, ⟨by (with_reducible repeat (first | refine blk_drewN ?_ _ | refine blk_drew ?_ | refine blk_alloc ?_ _)); exact BK227.out⟩, ⟨by (with_reducible repeat (first | refine blk_drewN ?_ _ | refine blk_drew ?_ | refine blk_alloc ?_ _)); exact BK229.out⟩, ⟨by (with_reducible repeat (first | refine blk_drewN ?_ _ | refine blk_drew ?_ | refine blk_alloc ?_ _)); exact BK236.out⟩, ⟨by repeat (first | (with_reducible first | exact HB.out | apply below_alloc | apply pw_below_drewN | apply below_drew1 | refine below_set ?_ GE227.out | refine below_set ?_ GE229.out | refine below_set ?_ GE236.out) | exact HB.out)⟩⟩
          case rest =>
            clear HC12
            try clear c1
            try clear c2
            try clear p2
            try clear q2
            try clear hx2
            try clear qi2
            try clear c3
            try clear c4
            try clear c5
            try clear c5b0
            try clear c5b1
            try clear c6
            try clear c6b0
            try clear c6b1
            try clear p6
            try clear c8
            try clear c8b0
            try clear c8b1
            try clear c13
            try clear c18
            try clear p22
            try clear q22
            try clear hx22
            try clear qi22
            try clear p23
            try clear q23
            try clear hx23
            try clear qi23
            try clear c26
            try clear c27
            try clear c32
            try clear c33
            try clear c37
            try clear c37b0
            try clear c38
            try clear c38b0
            try clear c40
            try clear c41
            try clear c43
            try clear c45
            try clear hcz16_0
            try clear hcz16_1
            try clear hcz19_0
            try clear hcz19_1
            try clear hcz22_0
            try clear hcz22_1
            try clear hcz23_0
            try clear hcz23_1
            try clear hcz28_0
            try clear hcz28_1
            try clear hcz29_0
            try clear hcz29_1
            try clear hcz30_0
            try clear hcz30_1
            try clear hcz32_0
            try clear hcz32_1
            try clear hcz33_0
            try clear hcz33_1
            try clear hcz35_0
            try clear hcz35_1
            try clear hcz36_0
            try clear hcz36_1
            try clear hcz42_0
            try clear hcz42_1
            try clear hcz44_0
            try clear hcz44_1
            try clear hfz16_0
            try clear hfz16_1
            try clear hfz19_0
            try clear hfz19_1
            try clear hfz22_0
            try clear hfz22_1
            try clear hfz23_0
            try clear hfz23_1
            try clear hfz28_0
            try clear hfz28_1
            try clear hfz29_0
            try clear hfz29_1
            try clear hfz30_0
            try clear hfz30_1
            try clear hfz32_0
            try clear hfz32_1
            try clear hfz33_0
            try clear hfz33_1
            try clear hfz35_0
            try clear hfz35_1
            try clear hfz36_0
            try clear hfz36_1
            try clear hfz42_0
            try clear hfz42_1
            try clear hfz44_0
            try clear hfz44_1
            try clear hx226_0
            try clear hx226_1
            try clear hx228_0
            try clear hx228_1
            try clear hx233_0
            try clear p226
            try clear p228
            try clear p233
            try clear q226
            try clear q228
            try clear q233
            obtain ⟨kq, x83_11, rfl, HA, HJ11, HO_8, BK227, BK229, BK236, HB⟩ := hcut
            cases kq with
            | zero => exact absurd HA.out (by simp [laws_FnStrokes.j0])
            | succ kj11 =>
              have H := HA.out
              clear HA
              simp only [laws_FnStrokes.j0] at H
              by_cases c46 : x83_11 = true
              · subst c46
                have H1 : (some false) = some r := by rw [if_pos rfl] at H; exact H
                clear H
                have H := H1
                clear H1
                obtain rfl := Option.some.inj H
                exact absurd hT Bool.false_ne_true
              · replace c46 := Bool.eq_false_iff.mpr c46
                subst c46
                have H1 : (if t240 = 0 then (if (t237.length : Int) = 0 then (some (((rd_T45 t223 0).f0) == ((rd_T45 t223 1).f0) && (((rd_T45 t223 0).f1) == ((rd_T45 t223 1).f1)))) else (some false)) else ((laws_abs.f (wrap64 ((wrap64 (t234 * (wrap64 (((rd_T45 t223 1).f0) - ((rd_T45 t223 0).f0))))) + (wrap64 (t235 * (wrap64 (((rd_T45 t223 1).f1) - ((rd_T45 t223 0).f1)))))))).bind fun t242 => ((laws_abs.f (wrap64 (((rd_T45 t223 1).f0) - ((rd_T45 t223 0).f0)))).bind fun t243 => ((laws_abs.f (wrap64 (((rd_T45 t223 1).f1) - ((rd_T45 t223 0).f1)))).bind fun t244 => (if (wrap64 (2 * t242)) ≤ (wrap64 (t243 + t244)) then ((laws_abs.f (wrap64 (((rd_T45 t223 1).f0) - ((rd_T45 t223 0).f0)))).bind fun t245 => ((laws_abs.f (wrap64 (((rd_T45 t223 1).f1) - ((rd_T45 t223 0).f1)))).bind fun t246 => (if (wrap64 ((wrap64 ((wrap64 (((rd_T45 t223 1).f0) - ((rd_T45 t223 0).f0))) * t235)) - (wrap64 ((wrap64 (((rd_T45 t223 1).f1) - ((rd_T45 t223 0).f1))) * t234)))) ≥ (wrap64 ((wrap64 (-t245)) - t246)) then (if (t237.length : Int) = 4 then (if 0 < (t237.length : Int) then (if 3 < (t237.length : Int) then (if (wrap64 (((rd_T45 t237 0).f0) - ((rd_T45 t237 3).f0))) = (wrap64 (2 * t234)) then (if 1 < (t237.length : Int) then (if 2 < (t237.length : Int) then (if (wrap64 (((rd_T45 t237 1).f1) - ((rd_T45 t237 2).f1))) = (wrap64 (2 * t235)) then (if (wrap64 (((rd_T45 t237 0).f0) + ((rd_T45 t237 3).f0))) = (wrap64 (2 * ((rd_T45 t223 0).f0))) then (if (wrap64 (((rd_T45 t237 1).f1) + ((rd_T45 t237 2).f1))) = (wrap64 (2 * ((rd_T45 t223 1).f1))) then ((spec_QuadOf.f kj11 ((rd_T45 t223 0).f0) ((rd_T45 t223 0).f1) ((rd_T45 t223 1).f0) ((rd_T45 t223 1).f1) (wrap64 (1 + (Int.tmod (rd t230 0) 2000)))).bind fun t255 => ((laws_samePoints.f kj11 t237 t255).bind fun t258 => (some t258))) else (some false)) else (some false)) else (some false)) else (none)) else (none)) else (some false)) else (none)) else (none)) else (some false)) else (some false)))) else (some false)))))) = some r := by rw [if_neg (show ¬ (false = true) by decide)] at H; exact H
                clear H
                have H := H1
                clear H1
                by_cases c47 : t240 = 0
                · rw [if_pos c47] at H
                  have c47b0 : (t240 == 0) = true := beq_iff_eq.mpr c47
                  have c47b1 : (t240 != 0) = false := bne_eq_false_iff_eq.mpr c47
                  clear c47
                  by_cases c48 : (t237.length : Int) = 0
                  · rw [if_pos c48] at H
                    have c48b0 : ((t237.length : Int) == 0) = true := beq_iff_eq.mpr c48
                    have c48b1 : ((t237.length : Int) != 0) = false := bne_eq_false_iff_eq.mpr c48
                    clear c48
                    obtain rfl := Option.some.inj H
                    simp only [Option.some.injEq, Prod.mk.injEq] at H
                    obtain ⟨rfl⟩ := H
                    obtain ⟨Ao49, co49, eo49⟩ := Kd.R_slice HO_8.out
                    subst eo49
                    have hnb50 := NB227_229.out
                    have hnc50 := NB229_227.out
                    have hnb51 := NB227_236.out
                    have hnc51 := NB236_227.out
                    have hcz52_0 : wc.cell? ⟨gb227, 0, none⟩ = some (.int .i64 ((rd_T45 t223 0).f0)) := (blk_cell BK227.out 0).trans rfl
                    have hcz52_1 : wc.cell? ⟨gb227, 1, none⟩ = some (.int .i64 ((rd_T45 t223 0).f1)) := (blk_cell BK227.out 1).trans rfl
                    have hfz52_0 := blk_frozen BK227.out 0
                    have hfz52_1 := blk_frozen BK227.out 1
                    have hnb53 := NB229_236.out
                    have hnc53 := NB236_229.out
                    have hcz54_0 : wc.cell? ⟨gb229, 0, none⟩ = some (.int .i64 ((rd_T45 t223 1).f0)) := (blk_cell BK229.out 0).trans rfl
                    have hcz54_1 : wc.cell? ⟨gb229, 1, none⟩ = some (.int .i64 ((rd_T45 t223 1).f1)) := (blk_cell BK229.out 1).trans rfl
                    have hfz54_0 := blk_frozen BK229.out 0
                    have hfz54_1 := blk_frozen BK229.out 1
                    go_wp2
                    go_ret
                    exact ⟨by first | rfl | (simp [errW_none, errW_some] <;> rfl) | (simp [*, errW_none, errW_some] <;> rfl), by repeat (first | (with_reducible first | exact HB.out | apply below_alloc | apply pw_below_drewN | apply below_drew1 | refine below_set ?_ GE227.out | refine below_set ?_ GE229.out | refine below_set ?_ GE236.out) | exact HB.out)⟩
                  · rw [if_neg c48] at H
                    have c48b0 : ((t237.length : Int) == 0) = false := beq_eq_false_iff_ne.mpr c48
                    have c48b1 : ((t237.length : Int) != 0) = true := bne_iff_ne.mpr c48
                    have c48b2 : ¬ (t237 = []) := fun h_ => c48 (by rw [h_]; rfl)
                    obtain rfl := Option.some.inj H
                    exact absurd hT Bool.false_ne_true
                · rw [if_neg c47] at H
                  have c47b0 : (t240 == 0) = false := beq_eq_false_iff_ne.mpr c47
                  have c47b1 : (t240 != 0) = true := bne_iff_ne.mpr c47
                  replace H := Option.bind_eq_some_iff.mp H
                  obtain ⟨t242, A550, H⟩ := H
                  replace H : ((laws_abs.f (wrap64 (((rd_T45 t223 1).f0) - ((rd_T45 t223 0).f0)))).bind fun t243 => ((laws_abs.f (wrap64 (((rd_T45 t223 1).f1) - ((rd_T45 t223 0).f1)))).bind fun t244 => (if (wrap64 (2 * t242)) ≤ (wrap64 (t243 + t244)) then ((laws_abs.f (wrap64 (((rd_T45 t223 1).f0) - ((rd_T45 t223 0).f0)))).bind fun t245 => ((laws_abs.f (wrap64 (((rd_T45 t223 1).f1) - ((rd_T45 t223 0).f1)))).bind fun t246 => (if (wrap64 ((wrap64 ((wrap64 (((rd_T45 t223 1).f0) - ((rd_T45 t223 0).f0))) * t235)) - (wrap64 ((wrap64 (((rd_T45 t223 1).f1) - ((rd_T45 t223 0).f1))) * t234)))) ≥ (wrap64 ((wrap64 (-t245)) - t246)) then (if (t237.length : Int) = 4 then (if 0 < (t237.length : Int) then (if 3 < (t237.length : Int) then (if (wrap64 (((rd_T45 t237 0).f0) - ((rd_T45 t237 3).f0))) = (wrap64 (2 * t234)) then (if 1 < (t237.length : Int) then (if 2 < (t237.length : Int) then (if (wrap64 (((rd_T45 t237 1).f1) - ((rd_T45 t237 2).f1))) = (wrap64 (2 * t235)) then (if (wrap64 (((rd_T45 t237 0).f0) + ((rd_T45 t237 3).f0))) = (wrap64 (2 * ((rd_T45 t223 0).f0))) then (if (wrap64 (((rd_T45 t237 1).f1) + ((rd_T45 t237 2).f1))) = (wrap64 (2 * ((rd_T45 t223 1).f1))) then ((spec_QuadOf.f kj11 ((rd_T45 t223 0).f0) ((rd_T45 t223 0).f1) ((rd_T45 t223 1).f0) ((rd_T45 t223 1).f1) (wrap64 (1 + (Int.tmod (rd t230 0) 2000)))).bind fun t255 => ((laws_samePoints.f kj11 t237 t255).bind fun t258 => (some t258))) else (some false)) else (some false)) else (some false)) else (none)) else (none)) else (some false)) else (none)) else (none)) else (some false)) else (some false)))) else (some false)))) = some r := H
                  have A55 := Aside0.mk A550
                  clear A550
                  replace H := Option.bind_eq_some_iff.mp H
                  obtain ⟨t243, A560, H⟩ := H
                  replace H : ((laws_abs.f (wrap64 (((rd_T45 t223 1).f1) - ((rd_T45 t223 0).f1)))).bind fun t244 => (if (wrap64 (2 * t242)) ≤ (wrap64 (t243 + t244)) then ((laws_abs.f (wrap64 (((rd_T45 t223 1).f0) - ((rd_T45 t223 0).f0)))).bind fun t245 => ((laws_abs.f (wrap64 (((rd_T45 t223 1).f1) - ((rd_T45 t223 0).f1)))).bind fun t246 => (if (wrap64 ((wrap64 ((wrap64 (((rd_T45 t223 1).f0) - ((rd_T45 t223 0).f0))) * t235)) - (wrap64 ((wrap64 (((rd_T45 t223 1).f1) - ((rd_T45 t223 0).f1))) * t234)))) ≥ (wrap64 ((wrap64 (-t245)) - t246)) then (if (t237.length : Int) = 4 then (if 0 < (t237.length : Int) then (if 3 < (t237.length : Int) then (if (wrap64 (((rd_T45 t237 0).f0) - ((rd_T45 t237 3).f0))) = (wrap64 (2 * t234)) then (if 1 < (t237.length : Int) then (if 2 < (t237.length : Int) then (if (wrap64 (((rd_T45 t237 1).f1) - ((rd_T45 t237 2).f1))) = (wrap64 (2 * t235)) then (if (wrap64 (((rd_T45 t237 0).f0) + ((rd_T45 t237 3).f0))) = (wrap64 (2 * ((rd_T45 t223 0).f0))) then (if (wrap64 (((rd_T45 t237 1).f1) + ((rd_T45 t237 2).f1))) = (wrap64 (2 * ((rd_T45 t223 1).f1))) then ((spec_QuadOf.f kj11 ((rd_T45 t223 0).f0) ((rd_T45 t223 0).f1) ((rd_T45 t223 1).f0) ((rd_T45 t223 1).f1) (wrap64 (1 + (Int.tmod (rd t230 0) 2000)))).bind fun t255 => ((laws_samePoints.f kj11 t237 t255).bind fun t258 => (some t258))) else (some false)) else (some false)) else (some false)) else (none)) else (none)) else (some false)) else (none)) else (none)) else (some false)) else (some false)))) else (some false))) = some r := H
                  have A56 := Aside0.mk A560
                  clear A560
                  replace H := Option.bind_eq_some_iff.mp H
                  obtain ⟨t244, A570, H⟩ := H
                  replace H : (if (wrap64 (2 * t242)) ≤ (wrap64 (t243 + t244)) then ((laws_abs.f (wrap64 (((rd_T45 t223 1).f0) - ((rd_T45 t223 0).f0)))).bind fun t245 => ((laws_abs.f (wrap64 (((rd_T45 t223 1).f1) - ((rd_T45 t223 0).f1)))).bind fun t246 => (if (wrap64 ((wrap64 ((wrap64 (((rd_T45 t223 1).f0) - ((rd_T45 t223 0).f0))) * t235)) - (wrap64 ((wrap64 (((rd_T45 t223 1).f1) - ((rd_T45 t223 0).f1))) * t234)))) ≥ (wrap64 ((wrap64 (-t245)) - t246)) then (if (t237.length : Int) = 4 then (if 0 < (t237.length : Int) then (if 3 < (t237.length : Int) then (if (wrap64 (((rd_T45 t237 0).f0) - ((rd_T45 t237 3).f0))) = (wrap64 (2 * t234)) then (if 1 < (t237.length : Int) then (if 2 < (t237.length : Int) then (if (wrap64 (((rd_T45 t237 1).f1) - ((rd_T45 t237 2).f1))) = (wrap64 (2 * t235)) then (if (wrap64 (((rd_T45 t237 0).f0) + ((rd_T45 t237 3).f0))) = (wrap64 (2 * ((rd_T45 t223 0).f0))) then (if (wrap64 (((rd_T45 t237 1).f1) + ((rd_T45 t237 2).f1))) = (wrap64 (2 * ((rd_T45 t223 1).f1))) then ((spec_QuadOf.f kj11 ((rd_T45 t223 0).f0) ((rd_T45 t223 0).f1) ((rd_T45 t223 1).f0) ((rd_T45 t223 1).f1) (wrap64 (1 + (Int.tmod (rd t230 0) 2000)))).bind fun t255 => ((laws_samePoints.f kj11 t237 t255).bind fun t258 => (some t258))) else (some false)) else (some false)) else (some false)) else (none)) else (none)) else (some false)) else (none)) else (none)) else (some false)) else (some false)))) else (some false)) = some r := H
                  have A57 := Aside0.mk A570
                  clear A570
                  by_cases c58 : (wrap64 (2 * t242)) ≤ (wrap64 (t243 + t244))
                  · rw [if_pos c58] at H
                    have c58b0 : decide ((wrap64 (2 * t242)) ≤ (wrap64 (t243 + t244))) = true := decide_eq_true c58
                    clear c58
                    replace H := Option.bind_eq_some_iff.mp H
                    obtain ⟨t245, A590, H⟩ := H
                    replace H : ((laws_abs.f (wrap64 (((rd_T45 t223 1).f1) - ((rd_T45 t223 0).f1)))).bind fun t246 => (if (wrap64 ((wrap64 ((wrap64 (((rd_T45 t223 1).f0) - ((rd_T45 t223 0).f0))) * t235)) - (wrap64 ((wrap64 (((rd_T45 t223 1).f1) - ((rd_T45 t223 0).f1))) * t234)))) ≥ (wrap64 ((wrap64 (-t245)) - t246)) then (if (t237.length : Int) = 4 then (if 0 < (t237.length : Int) then (if 3 < (t237.length : Int) then (if (wrap64 (((rd_T45 t237 0).f0) - ((rd_T45 t237 3).f0))) = (wrap64 (2 * t234)) then (if 1 < (t237.length : Int) then (if 2 < (t237.length : Int) then (if (wrap64 (((rd_T45 t237 1).f1) - ((rd_T45 t237 2).f1))) = (wrap64 (2 * t235)) then (if (wrap64 (((rd_T45 t237 0).f0) + ((rd_T45 t237 3).f0))) = (wrap64 (2 * ((rd_T45 t223 0).f0))) then (if (wrap64 (((rd_T45 t237 1).f1) + ((rd_T45 t237 2).f1))) = (wrap64 (2 * ((rd_T45 t223 1).f1))) then ((spec_QuadOf.f kj11 ((rd_T45 t223 0).f0) ((rd_T45 t223 0).f1) ((rd_T45 t223 1).f0) ((rd_T45 t223 1).f1) (wrap64 (1 + (Int.tmod (rd t230 0) 2000)))).bind fun t255 => ((laws_samePoints.f kj11 t237 t255).bind fun t258 => (some t258))) else (some false)) else (some false)) else (some false)) else (none)) else (none)) else (some false)) else (none)) else (none)) else (some false)) else (some false))) = some r := H
                    have A59 := Aside0.mk A590
                    clear A590
                    replace H := Option.bind_eq_some_iff.mp H
                    obtain ⟨t246, A600, H⟩ := H
                    replace H : (if (wrap64 ((wrap64 ((wrap64 (((rd_T45 t223 1).f0) - ((rd_T45 t223 0).f0))) * t235)) - (wrap64 ((wrap64 (((rd_T45 t223 1).f1) - ((rd_T45 t223 0).f1))) * t234)))) ≥ (wrap64 ((wrap64 (-t245)) - t246)) then (if (t237.length : Int) = 4 then (if 0 < (t237.length : Int) then (if 3 < (t237.length : Int) then (if (wrap64 (((rd_T45 t237 0).f0) - ((rd_T45 t237 3).f0))) = (wrap64 (2 * t234)) then (if 1 < (t237.length : Int) then (if 2 < (t237.length : Int) then (if (wrap64 (((rd_T45 t237 1).f1) - ((rd_T45 t237 2).f1))) = (wrap64 (2 * t235)) then (if (wrap64 (((rd_T45 t237 0).f0) + ((rd_T45 t237 3).f0))) = (wrap64 (2 * ((rd_T45 t223 0).f0))) then (if (wrap64 (((rd_T45 t237 1).f1) + ((rd_T45 t237 2).f1))) = (wrap64 (2 * ((rd_T45 t223 1).f1))) then ((spec_QuadOf.f kj11 ((rd_T45 t223 0).f0) ((rd_T45 t223 0).f1) ((rd_T45 t223 1).f0) ((rd_T45 t223 1).f1) (wrap64 (1 + (Int.tmod (rd t230 0) 2000)))).bind fun t255 => ((laws_samePoints.f kj11 t237 t255).bind fun t258 => (some t258))) else (some false)) else (some false)) else (some false)) else (none)) else (none)) else (some false)) else (none)) else (none)) else (some false)) else (some false)) = some r := H
                    have A60 := Aside0.mk A600
                    clear A600
                    by_cases c61 : (wrap64 ((wrap64 ((wrap64 (((rd_T45 t223 1).f0) - ((rd_T45 t223 0).f0))) * t235)) - (wrap64 ((wrap64 (((rd_T45 t223 1).f1) - ((rd_T45 t223 0).f1))) * t234)))) ≥ (wrap64 ((wrap64 (-t245)) - t246))
                    · rw [if_pos c61] at H
                      have c61b0 : decide ((wrap64 ((wrap64 (-t245)) - t246)) ≤ (wrap64 ((wrap64 ((wrap64 (((rd_T45 t223 1).f0) - ((rd_T45 t223 0).f0))) * t235)) - (wrap64 ((wrap64 (((rd_T45 t223 1).f1) - ((rd_T45 t223 0).f1))) * t234))))) = true := decide_eq_true c61
                      clear c61
                      by_cases c62 : (t237.length : Int) = 4
                      · rw [if_pos c62] at H
                        have c62b0 : ((t237.length : Int) == 4) = true := beq_iff_eq.mpr c62
                        have c62b1 : ((t237.length : Int) != 4) = false := bne_eq_false_iff_eq.mpr c62
                        clear c62
                        by_cases c63 : 0 < (t237.length : Int)
                        · rw [if_pos c63] at H
                          have c63b0 : decide (0 < (t237.length : Int)) = true := decide_eq_true c63
                          have c63b1 : decide (0 < t237.length) = true := decide_eq_true (by omega)
                          clear c63
                          by_cases c64 : 3 < (t237.length : Int)
                          · rw [if_pos c64] at H
                            have c64b0 : decide (3 < (t237.length : Int)) = true := decide_eq_true c64
                            have c64b1 : decide (3 < t237.length) = true := decide_eq_true (by omega)
                            clear c64
                            by_cases c65 : (wrap64 (((rd_T45 t237 0).f0) - ((rd_T45 t237 3).f0))) = (wrap64 (2 * t234))
                            · rw [if_pos c65] at H
                              have c65b0 : ((wrap64 (((rd_T45 t237 0).f0) - ((rd_T45 t237 3).f0))) == (wrap64 (2 * t234))) = true := beq_iff_eq.mpr c65
                              have c65b1 : ((wrap64 (((rd_T45 t237 0).f0) - ((rd_T45 t237 3).f0))) != (wrap64 (2 * t234))) = false := bne_eq_false_iff_eq.mpr c65
                              clear c65
                              by_cases c66 : 1 < (t237.length : Int)
                              · rw [if_pos c66] at H
                                have c66b0 : decide (1 < (t237.length : Int)) = true := decide_eq_true c66
                                have c66b1 : decide (1 < t237.length) = true := decide_eq_true (by omega)
                                clear c66
                                by_cases c67 : 2 < (t237.length : Int)
                                · rw [if_pos c67] at H
                                  have c67b0 : decide (2 < (t237.length : Int)) = true := decide_eq_true c67
                                  have c67b1 : decide (2 < t237.length) = true := decide_eq_true (by omega)
                                  clear c67
                                  by_cases c68 : (wrap64 (((rd_T45 t237 1).f1) - ((rd_T45 t237 2).f1))) = (wrap64 (2 * t235))
                                  · rw [if_pos c68] at H
                                    have c68b0 : ((wrap64 (((rd_T45 t237 1).f1) - ((rd_T45 t237 2).f1))) == (wrap64 (2 * t235))) = true := beq_iff_eq.mpr c68
                                    have c68b1 : ((wrap64 (((rd_T45 t237 1).f1) - ((rd_T45 t237 2).f1))) != (wrap64 (2 * t235))) = false := bne_eq_false_iff_eq.mpr c68
                                    clear c68
                                    by_cases c69 : (wrap64 (((rd_T45 t237 0).f0) + ((rd_T45 t237 3).f0))) = (wrap64 (2 * ((rd_T45 t223 0).f0)))
                                    · rw [if_pos c69] at H
                                      have c69b0 : ((wrap64 (((rd_T45 t237 0).f0) + ((rd_T45 t237 3).f0))) == (wrap64 (2 * ((rd_T45 t223 0).f0)))) = true := beq_iff_eq.mpr c69
                                      have c69b1 : ((wrap64 (((rd_T45 t237 0).f0) + ((rd_T45 t237 3).f0))) != (wrap64 (2 * ((rd_T45 t223 0).f0)))) = false := bne_eq_false_iff_eq.mpr c69
                                      clear c69
                                      by_cases c70 : (wrap64 (((rd_T45 t237 1).f1) + ((rd_T45 t237 2).f1))) = (wrap64 (2 * ((rd_T45 t223 1).f1)))
                                      · rw [if_pos c70] at H
                                        have c70b0 : ((wrap64 (((rd_T45 t237 1).f1) + ((rd_T45 t237 2).f1))) == (wrap64 (2 * ((rd_T45 t223 1).f1)))) = true := beq_iff_eq.mpr c70
                                        have c70b1 : ((wrap64 (((rd_T45 t237 1).f1) + ((rd_T45 t237 2).f1))) != (wrap64 (2 * ((rd_T45 t223 1).f1)))) = false := bne_eq_false_iff_eq.mpr c70
                                        clear c70
                                        replace H := Option.bind_eq_some_iff.mp H
                                        obtain ⟨t255, A710, H⟩ := H
                                        replace H : ((laws_samePoints.f kj11 t237 t255).bind fun t258 => (some t258)) = some r := H
                                        have A71 := Aside0.mk A710
                                        clear A710
                                        replace H := Option.bind_eq_some_iff.mp H
                                        obtain ⟨t258, A720, H⟩ := H
                                        replace H : (some t258) = some r := H
                                        have A72 := Aside0.mk A720
                                        clear A720
                                        obtain rfl := Option.some.inj H
                                        simp only [Option.some.injEq, Prod.mk.injEq] at H
                                        obtain ⟨rfl⟩ := H
                                        have hnb73 := NB236_227.out
                                        have hnc73 := NB227_236.out
                                        have hnb74 := NB236_229.out
                                        have hnc74 := NB229_236.out
                                        have hcz75_0 : wc.cell? ⟨gb236, 0, none⟩ = some (.int .i64 t234) := (blk_cell BK236.out 0).trans rfl
                                        have hcz75_1 : wc.cell? ⟨gb236, 1, none⟩ = some (.int .i64 t235) := (blk_cell BK236.out 1).trans rfl
                                        have hfz75_0 := blk_frozen BK236.out 0
                                        have hfz75_1 := blk_frozen BK236.out 1
                                        try go_wp2
                                        have n0_ := Aside0.mk (Kd.R_drew HO_8.out)
                                        have n1_ := Aside0.mk (blk_drew BK227.out)
                                        have n2_ := Aside0.mk (blk_drew BK229.out)
                                        have n3_ := Aside0.mk (blk_drew BK236.out)
                                        have n4_ := Aside0.mk (below_drew1 HB.out)
                                        clear HO_8
                                        clear BK227
                                        clear BK229
                                        clear BK236
                                        clear HB
                                        have HO_8 := n0_
                                        have BK227 := n1_
                                        have BK229 := n2_
                                        have BK236 := n3_
                                        have HB := n4_
                                        clear n0_ n1_ n2_ n3_ n4_
                                        have p247 : 0 ≤ (0 : Int) := (by omega)
                                        have q247 : 0 < (t237.length : Int) := of_decide_eq_true (by first | (with_reducible assumption) | assumption)
                                        (try (obtain ⟨Aq247, cq247, eq247⟩ := Kd.R_slice HO_8.out; subst eq247))
                                        obtain ⟨ad247, e247, hx247_0, hx247_1⟩ := at_T45 (Kd.R_reads' HO_8.out).2.2 0 p247 q247
                                        cases e247
                                        have qi247 : (0 < t237.length) = True := eq_true (by omega)
                                        (try rw [show ((0 : Int)).toNat = 0 from rfl] at hx247_0)
                                        (try rw [show 0 * 2 = 0 from rfl] at hx247_0)
                                        (try rw [Addr.add_zero'] at hx247_0)
                                        (try rw [show ((0 : Int)).toNat = 0 from rfl] at hx247_1)
                                        (try rw [show 0 * 2 = 0 from rfl] at hx247_1)
                                        (try rw [Addr.add_zero'] at hx247_1)
                                        replace p247 := eq_true p247
                                        replace q247 := eq_true q247
                                        have p248 : 0 ≤ (3 : Int) := (by omega)
                                        have q248 : 3 < (t237.length : Int) := of_decide_eq_true (by first | (with_reducible assumption) | assumption)
                                        obtain ⟨ad248, e248, hx248_0, hx248_1⟩ := at_T45 (Kd.R_reads' HO_8.out).2.2 3 p248 q248
                                        obtain rfl : ad247 = ad248 := (by injection e248)
                                        (try simp only [show (3 : Int).toNat = 3 from rfl, Nat.reduceMul, Nat.reduceEqDiff, Go.Addr.add, ↓reduceIte] at hx248_0)
                                        (try simp only [show (3 : Int).toNat = 3 from rfl, Nat.reduceMul, Nat.reduceEqDiff, Go.Addr.add, ↓reduceIte] at hx248_1)
                                        have qi248 : (3 < t237.length) = True := eq_true (by omega)
                                        (try rw [show ((3 : Int)).toNat = 3 from rfl] at hx248_0)
                                        (try rw [show 3 * 2 = 6 from rfl] at hx248_0)
                                        (try rw [show ((3 : Int)).toNat = 3 from rfl] at hx248_1)
                                        (try rw [show 3 * 2 = 6 from rfl] at hx248_1)
                                        replace p248 := eq_true p248
                                        replace q248 := eq_true q248
                                        have p249 : 0 ≤ (1 : Int) := (by omega)
                                        have q249 : 1 < (t237.length : Int) := of_decide_eq_true (by first | (with_reducible assumption) | assumption)
                                        obtain ⟨ad249, e249, hx249_0, hx249_1⟩ := at_T45 (Kd.R_reads' HO_8.out).2.2 1 p249 q249
                                        obtain rfl : ad247 = ad249 := (by injection e249)
                                        (try simp only [show (1 : Int).toNat = 1 from rfl, Nat.reduceMul, Nat.reduceEqDiff, Go.Addr.add, ↓reduceIte] at hx249_0)
                                        (try simp only [show (1 : Int).toNat = 1 from rfl, Nat.reduceMul, Nat.reduceEqDiff, Go.Addr.add, ↓reduceIte] at hx249_1)
                                        have qi249 : (1 < t237.length) = True := eq_true (by omega)
                                        (try rw [show ((1 : Int)).toNat = 1 from rfl] at hx249_0)
                                        (try rw [show 1 * 2 = 2 from rfl] at hx249_0)
                                        (try rw [show ((1 : Int)).toNat = 1 from rfl] at hx249_1)
                                        (try rw [show 1 * 2 = 2 from rfl] at hx249_1)
                                        replace p249 := eq_true p249
                                        replace q249 := eq_true q249
                                        have p250 : 0 ≤ (2 : Int) := (by omega)
                                        have q250 : 2 < (t237.length : Int) := of_decide_eq_true (by first | (with_reducible assumption) | assumption)
                                        obtain ⟨ad250, e250, hx250_0, hx250_1⟩ := at_T45 (Kd.R_reads' HO_8.out).2.2 2 p250 q250
                                        obtain rfl : ad247 = ad250 := (by injection e250)
                                        (try simp only [show (2 : Int).toNat = 2 from rfl, Nat.reduceMul, Nat.reduceEqDiff, Go.Addr.add, ↓reduceIte] at hx250_0)
                                        (try simp only [show (2 : Int).toNat = 2 from rfl, Nat.reduceMul, Nat.reduceEqDiff, Go.Addr.add, ↓reduceIte] at hx250_1)
                                        have qi250 : (2 < t237.length) = True := eq_true (by omega)
                                        (try rw [show ((2 : Int)).toNat = 2 from rfl] at hx250_0)
                                        (try rw [show 2 * 2 = 4 from rfl] at hx250_0)
                                        (try rw [show ((2 : Int)).toNat = 2 from rfl] at hx250_1)
                                        (try rw [show 2 * 2 = 4 from rfl] at hx250_1)
                                        replace p250 := eq_true p250
                                        replace q250 := eq_true q250
                                        have p251 : 0 ≤ (0 : Int) := (by omega)
                                        have q251 : 0 < (t237.length : Int) := of_decide_eq_true (by first | (with_reducible assumption) | assumption)
                                        obtain ⟨ad251, e251, hx251_0, hx251_1⟩ := at_T45 (Kd.R_reads' HO_8.out).2.2 0 p251 q251
                                        obtain rfl : ad247 = ad251 := (by injection e251)
                                        have qi251 : (0 < t237.length) = True := eq_true (by omega)
                                        (try rw [show ((0 : Int)).toNat = 0 from rfl] at hx251_0)
                                        (try rw [show 0 * 2 = 0 from rfl] at hx251_0)
                                        (try rw [Addr.add_zero'] at hx251_0)
                                        (try rw [show ((0 : Int)).toNat = 0 from rfl] at hx251_1)
                                        (try rw [show 0 * 2 = 0 from rfl] at hx251_1)
                                        (try rw [Addr.add_zero'] at hx251_1)
                                        replace p251 := eq_true p251
                                        replace q251 := eq_true q251
                                        have p252 : 0 ≤ (3 : Int) := (by omega)
                                        have q252 : 3 < (t237.length : Int) := of_decide_eq_true (by first | (with_reducible assumption) | assumption)
                                        obtain ⟨ad252, e252, hx252_0, hx252_1⟩ := at_T45 (Kd.R_reads' HO_8.out).2.2 3 p252 q252
                                        obtain rfl : ad247 = ad252 := (by injection e252)
                                        (try simp only [show (3 : Int).toNat = 3 from rfl, Nat.reduceMul, Nat.reduceEqDiff, Go.Addr.add, ↓reduceIte] at hx252_0)
                                        (try simp only [show (3 : Int).toNat = 3 from rfl, Nat.reduceMul, Nat.reduceEqDiff, Go.Addr.add, ↓reduceIte] at hx252_1)
                                        have qi252 : (3 < t237.length) = True := eq_true (by omega)
                                        (try rw [show ((3 : Int)).toNat = 3 from rfl] at hx252_0)
                                        (try rw [show 3 * 2 = 6 from rfl] at hx252_0)
                                        (try rw [show ((3 : Int)).toNat = 3 from rfl] at hx252_1)
                                        (try rw [show 3 * 2 = 6 from rfl] at hx252_1)
                                        replace p252 := eq_true p252
                                        replace q252 := eq_true q252
                                        have p253 : 0 ≤ (1 : Int) := (by omega)
                                        have q253 : 1 < (t237.length : Int) := of_decide_eq_true (by first | (with_reducible assumption) | assumption)
                                        obtain ⟨ad253, e253, hx253_0, hx253_1⟩ := at_T45 (Kd.R_reads' HO_8.out).2.2 1 p253 q253
                                        obtain rfl : ad247 = ad253 := (by injection e253)
                                        (try simp only [show (1 : Int).toNat = 1 from rfl, Nat.reduceMul, Nat.reduceEqDiff, Go.Addr.add, ↓reduceIte] at hx253_0)
                                        (try simp only [show (1 : Int).toNat = 1 from rfl, Nat.reduceMul, Nat.reduceEqDiff, Go.Addr.add, ↓reduceIte] at hx253_1)
                                        have qi253 : (1 < t237.length) = True := eq_true (by omega)
                                        (try rw [show ((1 : Int)).toNat = 1 from rfl] at hx253_0)
                                        (try rw [show 1 * 2 = 2 from rfl] at hx253_0)
                                        (try rw [show ((1 : Int)).toNat = 1 from rfl] at hx253_1)
                                        (try rw [show 1 * 2 = 2 from rfl] at hx253_1)
                                        replace p253 := eq_true p253
                                        replace q253 := eq_true q253
                                        have p254 : 0 ≤ (2 : Int) := (by omega)
                                        have q254 : 2 < (t237.length : Int) := of_decide_eq_true (by first | (with_reducible assumption) | assumption)
                                        obtain ⟨ad254, e254, hx254_0, hx254_1⟩ := at_T45 (Kd.R_reads' HO_8.out).2.2 2 p254 q254
                                        obtain rfl : ad247 = ad254 := (by injection e254)
                                        (try simp only [show (2 : Int).toNat = 2 from rfl, Nat.reduceMul, Nat.reduceEqDiff, Go.Addr.add, ↓reduceIte] at hx254_0)
                                        (try simp only [show (2 : Int).toNat = 2 from rfl, Nat.reduceMul, Nat.reduceEqDiff, Go.Addr.add, ↓reduceIte] at hx254_1)
                                        have qi254 : (2 < t237.length) = True := eq_true (by omega)
                                        (try rw [show ((2 : Int)).toNat = 2 from rfl] at hx254_0)
                                        (try rw [show 2 * 2 = 4 from rfl] at hx254_0)
                                        (try rw [show ((2 : Int)).toNat = 2 from rfl] at hx254_1)
                                        (try rw [show 2 * 2 = 4 from rfl] at hx254_1)
                                        replace p254 := eq_true p254
                                        replace q254 := eq_true q254
                                        refine start_ (n := 93) (S := fun w' => w'.cell? ⟨gb236, 0, none⟩ = some (.int .i64 t234) ∧ w'.cell? ⟨gb236, 1, none⟩ = some (.int .i64 t235) ∧ w'.cell? ⟨gb227, 0, none⟩ = some (.int .i64 ((rd_T45 t223 0).f0)) ∧ w'.cell? ⟨gb227, 1, none⟩ = some (.int .i64 ((rd_T45 t223 0).f1)) ∧ w'.cell? ⟨gb229, 0, none⟩ = some (.int .i64 ((rd_T45 t223 1).f0)) ∧ w'.cell? ⟨gb229, 1, none⟩ = some (.int .i64 ((rd_T45 t223 1).f1)) ∧ w'.cell? ad247 = some (.int .i64 ((rd_T45 t237 0).f0)) ∧ w'.cell? ⟨ad247.block, ad247.off + 1, none⟩ = some (.int .i64 ((rd_T45 t237 0).f1)) ∧ w'.cell? ⟨ad247.block, ad247.off + 6, none⟩ = some (.int .i64 ((rd_T45 t237 3).f0)) ∧ w'.cell? ⟨ad247.block, ad247.off + 6 + 1, none⟩ = some (.int .i64 ((rd_T45 t237 3).f1)) ∧ w'.cell? ⟨ad247.block, ad247.off + 2, none⟩ = some (.int .i64 ((rd_T45 t237 1).f0)) ∧ w'.cell? ⟨ad247.block, ad247.off + 2 + 1, none⟩ = some (.int .i64 ((rd_T45 t237 1).f1)) ∧ w'.cell? ⟨ad247.block, ad247.off + 4, none⟩ = some (.int .i64 ((rd_T45 t237 2).f0)) ∧ w'.cell? ⟨ad247.block, ad247.off + 4 + 1, none⟩ = some (.int .i64 ((rd_T45 t237 2).f1)) ∧ w'.cell? ad247 = some (.int .i64 ((rd_T45 t237 0).f0)) ∧ w'.cell? ⟨ad247.block, ad247.off + 1, none⟩ = some (.int .i64 ((rd_T45 t237 0).f1)) ∧ w'.cell? ⟨ad247.block, ad247.off + 6, none⟩ = some (.int .i64 ((rd_T45 t237 3).f0)) ∧ w'.cell? ⟨ad247.block, ad247.off + 6 + 1, none⟩ = some (.int .i64 ((rd_T45 t237 3).f1)) ∧ w'.cell? ⟨ad247.block, ad247.off + 2, none⟩ = some (.int .i64 ((rd_T45 t237 1).f0)) ∧ w'.cell? ⟨ad247.block, ad247.off + 2 + 1, none⟩ = some (.int .i64 ((rd_T45 t237 1).f1)) ∧ w'.cell? ⟨ad247.block, ad247.off + 4, none⟩ = some (.int .i64 ((rd_T45 t237 2).f0)) ∧ w'.cell? ⟨ad247.block, ad247.off + 4 + 1, none⟩ = some (.int .i64 ((rd_T45 t237 2).f1))) (ds := []) #[false, false, false, false, false, false, false, false, false, false, false, false, false, false, false, false, false, false, false, false, false, false, false, false, false, false, false, false, false, false, false, false, false, false, false, false, false, false, false, false, false, false, false, false, false, false, false, false, false, false, false, false, false, false, false, false, false, false, false, false, false, false, false, false, false, false, false, false, false, false, false, false, false, false, false, false, false, false, false, false, false, false, false, false, false, false, false, false, false, false, false, false, false] (by kernel_rfl) rfl rfl ⟨(blk_cell BK236.out 0).trans rfl, (blk_cell BK236.out 1).trans rfl, (blk_cell BK227.out 0).trans rfl, (blk_cell BK227.out 1).trans rfl, (blk_cell BK229.out 0).trans rfl, (blk_cell BK229.out 1).trans rfl, hx247_0, hx247_1, hx248_0, hx248_1, hx249_0, hx249_1, hx250_0, hx250_1, hx251_0, hx251_1, hx252_0, hx252_1, hx253_0, hx253_1, hx254_0, hx254_1⟩ (fun hHeld => ?_); refine with_tabW laws_FnStrokes.tab18 laws_FnStrokes.bits18 (fun HT_ HW_ => ?_)
                                        generalize wc.drew = w76 at HO_8 BK227 BK229 BK236 HB hx247_0 hx247_1 hx248_0 hx248_1 hx249_0 hx249_1 hx250_0 hx250_1 hx251_0 hx251_1 hx252_0 hx252_1 hx253_0 hx253_1 hx254_0 hx254_1 hHeld ⊢
                                        refine pure_ (i := 0) (N := some 112) (v := ?_) (a' := ?_) #[true, false, false, false, false, false, false, false, false, false, false, false, false, false, false, false, false, false, false, false, false, false, false, false, false, false, false, false, false, false, false, false, false, false, false, false, false, false, false, false, false, false, false, false, false, false, false, false, false, false, false, false, false, false, false, false, false, false, false, false, false, false, false, false, false, false, false, false, false, false, false, false, false, false, false, false, false, false, false, false, false, false, false, false, false, false, false, false, false, false, false, false, false] rfl rfl (any_of HT_.out (by kernel_rfl)) (fun _ _ _ h => h) (Or.inl ⟨by rfl, ?_⟩) ?_ ?_
                                        rotate_left
                                        · intro w'
                                          go_simp
                                          with_reducible rfl
                                        rotate_left
                                        · simp only [Act.put, List.setIfInBounds_toArray, List.set_cons_zero, List.set_cons_succ, i64_w, i32_w]
                                          rfl
                                        refine pure_ (i := 3) (N := some 115) (v := ?_) (a' := ?_) #[true, false, false, true, false, false, false, false, false, false, false, false, false, false, false, false, false, false, false, false, false, false, false, false, false, false, false, false, false, false, false, false, false, false, false, false, false, false, false, false, false, false, false, false, false, false, false, false, false, false, false, false, false, false, false, false, false, false, false, false, false, false, false, false, false, false, false, false, false, false, false, false, false, false, false, false, false, false, false, false, false, false, false, false, false, false, false, false, false, false, false, false, false] rfl rfl (any_of HT_.out (by kernel_rfl)) (fun _ _ _ h => h) (Or.inl ⟨by rfl, ?_⟩) ?_ ?_
                                        rotate_left
                                        · intro w'
                                          go_simp
                                          with_reducible rfl
                                        rotate_left
                                        · simp only [Act.put, List.setIfInBounds_toArray, List.set_cons_zero, List.set_cons_succ, i64_w, i32_w]
                                          rfl
                                        refine pure_ (i := 5) (N := some 117) (v := ?_) (a' := ?_) #[true, false, false, true, false, true, false, false, false, false, false, false, false, false, false, false, false, false, false, false, false, false, false, false, false, false, false, false, false, false, false, false, false, false, false, false, false, false, false, false, false, false, false, false, false, false, false, false, false, false, false, false, false, false, false, false, false, false, false, false, false, false, false, false, false, false, false, false, false, false, false, false, false, false, false, false, false, false, false, false, false, false, false, false, false, false, false, false, false, false, false, false, false] rfl rfl (any_of HT_.out (by kernel_rfl)) (fun _ _ _ h => h) (Or.inl ⟨by rfl, ?_⟩) ?_ ?_
                                        rotate_left
                                        · intro w'
                                          go_simp
                                          with_reducible rfl
                                        rotate_left
                                        · simp only [Act.put, List.setIfInBounds_toArray, List.set_cons_zero, List.set_cons_succ, i64_w, i32_w]
                                          rfl
                                        refine one_ (i := 1) (N := some 113) #[true, true, false, true, false, true, false, false, false, false, false, false, false, false, false, false, false, false, false, false, false, false, false, false, false, false, false, false, false, false, false, false, false, false, false, false, false, false, false, false, false, false, false, false, false, false, false, false, false, false, false, false, false, false, false, false, false, false, false, false, false, false, false, false, false, false, false, false, false, false, false, false, false, false, false, false, false, false, false, false, false, false, false, false, false, false, false, false, false, false, false, false, false] rfl rfl (one_of HT_.out (by kernel_rfl)) (by decide) (fun K hK => ?_)
                                        refine goes_ Try.func55 (by kernel_rfl) rfl #[.int .i64 (wrap64 ((wrap64 (t234 * (wrap64 (((rd_T45 t223 1).f0) - ((rd_T45 t223 0).f0))))) + (wrap64 (t235 * (wrap64 (((rd_T45 t223 1).f1) - ((rd_T45 t223 0).f1)))))))] (by rfl) rfl rfl (by (try simp only [List.map_toArray, List.map_cons, List.map_nil]); first | done | rfl | (simp only [List.length_drop, List.length_take]; rfl)) ?_
                                        with_reducible refine (laws_abs.calls (wrap64 ((wrap64 (t234 * (wrap64 (((rd_T45 t223 1).f0) - ((rd_T45 t223 0).f0))))) + (wrap64 (t235 * (wrap64 (((rd_T45 t223 1).f1) - ((rd_T45 t223 0).f1))))))) t242 _ A55.out).mono ?_
                                        rintro e w' ⟨rfl, ⟨nd, rfl⟩⟩
                                        refine ⟨_, rfl, ?_⟩
                                        refine hK.out _ _ ⟨(blk_cell BK236.out 0).trans rfl, (blk_cell BK236.out 1).trans rfl, (blk_cell BK227.out 0).trans rfl, (blk_cell BK227.out 1).trans rfl, (blk_cell BK229.out 0).trans rfl, (blk_cell BK229.out 1).trans rfl, hHeld.2.2.2.2.2.2.1, hHeld.2.2.2.2.2.2.2.1, hHeld.2.2.2.2.2.2.2.2.1, hHeld.2.2.2.2.2.2.2.2.2.1, hHeld.2.2.2.2.2.2.2.2.2.2.1, hHeld.2.2.2.2.2.2.2.2.2.2.2.1, hHeld.2.2.2.2.2.2.2.2.2.2.2.2.1, hHeld.2.2.2.2.2.2.2.2.2.2.2.2.2.1, hHeld.2.2.2.2.2.2.2.2.2.2.2.2.2.2.1, hHeld.2.2.2.2.2.2.2.2.2.2.2.2.2.2.2.1, hHeld.2.2.2.2.2.2.2.2.2.2.2.2.2.2.2.2.1, hHeld.2.2.2.2.2.2.2.2.2.2.2.2.2.2.2.2.2.1, hHeld.2.2.2.2.2.2.2.2.2.2.2.2.2.2.2.2.2.2.1, hHeld.2.2.2.2.2.2.2.2.2.2.2.2.2.2.2.2.2.2.2.1, hHeld.2.2.2.2.2.2.2.2.2.2.2.2.2.2.2.2.2.2.2.2.1, hHeld.2.2.2.2.2.2.2.2.2.2.2.2.2.2.2.2.2.2.2.2.2⟩ (fun hHeld => ?_)
                                        clear hK K
                                        refine norm_ (a' := ?_) ?_ ?_
                                        rotate_left
                                        · show Act.put _ (some 113) _ = _
                                          simp only [Act.put, List.setIfInBounds_toArray, List.set_cons_zero, List.set_cons_succ, i64_w, i32_w]
                                          rfl
                                        refine pure_ (i := 2) (N := some 114) (v := ?_) (a' := ?_) #[true, true, true, true, false, true, false, false, false, false, false, false, false, false, false, false, false, false, false, false, false, false, false, false, false, false, false, false, false, false, false, false, false, false, false, false, false, false, false, false, false, false, false, false, false, false, false, false, false, false, false, false, false, false, false, false, false, false, false, false, false, false, false, false, false, false, false, false, false, false, false, false, false, false, false, false, false, false, false, false, false, false, false, false, false, false, false, false, false, false, false, false, false] rfl rfl (any_of HT_.out (by kernel_rfl)) (fun _ _ _ h => h) (Or.inl ⟨by rfl, ?_⟩) ?_ ?_
                                        rotate_left
                                        · intro w'
                                          go_simp
                                          with_reducible rfl
                                        rotate_left
                                        · simp only [Act.put, List.setIfInBounds_toArray, List.set_cons_zero, List.set_cons_succ, i64_w, i32_w]
                                          rfl
                                        refine one_ (i := 4) (N := some 116) #[true, true, true, true, true, true, false, false, false, false, false, false, false, false, false, false, false, false, false, false, false, false, false, false, false, false, false, false, false, false, false, false, false, false, false, false, false, false, false, false, false, false, false, false, false, false, false, false, false, false, false, false, false, false, false, false, false, false, false, false, false, false, false, false, false, false, false, false, false, false, false, false, false, false, false, false, false, false, false, false, false, false, false, false, false, false, false, false, false, false, false, false, false] rfl rfl (one_of HT_.out (by kernel_rfl)) (by decide) (fun K hK => ?_)
                                        refine goes_ Try.func55 (by kernel_rfl) rfl #[.int .i64 (wrap64 (((rd_T45 t223 1).f0) - ((rd_T45 t223 0).f0)))] (by rfl) rfl rfl (by (try simp only [List.map_toArray, List.map_cons, List.map_nil]); first | done | rfl | (simp only [List.length_drop, List.length_take]; rfl)) ?_
                                        with_reducible refine (laws_abs.calls (wrap64 (((rd_T45 t223 1).f0) - ((rd_T45 t223 0).f0))) t243 _ A56.out).mono ?_
                                        rintro e w' ⟨rfl, ⟨nd, rfl⟩⟩
                                        refine ⟨_, rfl, ?_⟩
                                        refine hK.out _ _ ⟨(blk_cell BK236.out 0).trans rfl, (blk_cell BK236.out 1).trans rfl, (blk_cell BK227.out 0).trans rfl, (blk_cell BK227.out 1).trans rfl, (blk_cell BK229.out 0).trans rfl, (blk_cell BK229.out 1).trans rfl, hHeld.2.2.2.2.2.2.1, hHeld.2.2.2.2.2.2.2.1, hHeld.2.2.2.2.2.2.2.2.1, hHeld.2.2.2.2.2.2.2.2.2.1, hHeld.2.2.2.2.2.2.2.2.2.2.1, hHeld.2.2.2.2.2.2.2.2.2.2.2.1, hHeld.2.2.2.2.2.2.2.2.2.2.2.2.1, hHeld.2.2.2.2.2.2.2.2.2.2.2.2.2.1, hHeld.2.2.2.2.2.2.2.2.2.2.2.2.2.2.1, hHeld.2.2.2.2.2.2.2.2.2.2.2.2.2.2.2.1, hHeld.2.2.2.2.2.2.2.2.2.2.2.2.2.2.2.2.1, hHeld.2.2.2.2.2.2.2.2.2.2.2.2.2.2.2.2.2.1, hHeld.2.2.2.2.2.2.2.2.2.2.2.2.2.2.2.2.2.2.1, hHeld.2.2.2.2.2.2.2.2.2.2.2.2.2.2.2.2.2.2.2.1, hHeld.2.2.2.2.2.2.2.2.2.2.2.2.2.2.2.2.2.2.2.2.1, hHeld.2.2.2.2.2.2.2.2.2.2.2.2.2.2.2.2.2.2.2.2.2⟩ (fun hHeld => ?_)
                                        clear hK K
                                        refine norm_ (a' := ?_) ?_ ?_
                                        rotate_left
                                        · show Act.put _ (some 116) _ = _
                                          simp only [Act.put, List.setIfInBounds_toArray, List.set_cons_zero, List.set_cons_succ, i64_w, i32_w]
                                          rfl
                                        refine one_ (i := 6) (N := some 118) #[true, true, true, true, true, true, true, false, false, false, false, false, false, false, false, false, false, false, false, false, false, false, false, false, false, false, false, false, false, false, false, false, false, false, false, false, false, false, false, false, false, false, false, false, false, false, false, false, false, false, false, false, false, false, false, false, false, false, false, false, false, false, false, false, false, false, false, false, false, false, false, false, false, false, false, false, false, false, false, false, false, false, false, false, false, false, false, false, false, false, false, false, false] rfl rfl (one_of HT_.out (by kernel_rfl)) (by decide) (fun K hK => ?_)
                                        refine goes_ Try.func55 (by kernel_rfl) rfl #[.int .i64 (wrap64 (((rd_T45 t223 1).f1) - ((rd_T45 t223 0).f1)))] (by rfl) rfl rfl (by (try simp only [List.map_toArray, List.map_cons, List.map_nil]); first | done | rfl | (simp only [List.length_drop, List.length_take]; rfl)) ?_
                                        with_reducible refine (laws_abs.calls (wrap64 (((rd_T45 t223 1).f1) - ((rd_T45 t223 0).f1))) t244 _ A57.out).mono ?_
                                        rintro e w' ⟨rfl, ⟨nd, rfl⟩⟩
                                        refine ⟨_, rfl, ?_⟩
                                        refine hK.out _ _ ⟨(blk_cell BK236.out 0).trans rfl, (blk_cell BK236.out 1).trans rfl, (blk_cell BK227.out 0).trans rfl, (blk_cell BK227.out 1).trans rfl, (blk_cell BK229.out 0).trans rfl, (blk_cell BK229.out 1).trans rfl, hHeld.2.2.2.2.2.2.1, hHeld.2.2.2.2.2.2.2.1, hHeld.2.2.2.2.2.2.2.2.1, hHeld.2.2.2.2.2.2.2.2.2.1, hHeld.2.2.2.2.2.2.2.2.2.2.1, hHeld.2.2.2.2.2.2.2.2.2.2.2.1, hHeld.2.2.2.2.2.2.2.2.2.2.2.2.1, hHeld.2.2.2.2.2.2.2.2.2.2.2.2.2.1, hHeld.2.2.2.2.2.2.2.2.2.2.2.2.2.2.1, hHeld.2.2.2.2.2.2.2.2.2.2.2.2.2.2.2.1, hHeld.2.2.2.2.2.2.2.2.2.2.2.2.2.2.2.2.1, hHeld.2.2.2.2.2.2.2.2.2.2.2.2.2.2.2.2.2.1, hHeld.2.2.2.2.2.2.2.2.2.2.2.2.2.2.2.2.2.2.1, hHeld.2.2.2.2.2.2.2.2.2.2.2.2.2.2.2.2.2.2.2.1, hHeld.2.2.2.2.2.2.2.2.2.2.2.2.2.2.2.2.2.2.2.2.1, hHeld.2.2.2.2.2.2.2.2.2.2.2.2.2.2.2.2.2.2.2.2.2⟩ (fun hHeld => ?_)
                                        clear hK K
                                        refine norm_ (a' := ?_) ?_ ?_
                                        rotate_left
                                        · show Act.put _ (some 118) _ = _
                                          simp only [Act.put, List.setIfInBounds_toArray, List.set_cons_zero, List.set_cons_succ, i64_w, i32_w]
                                          rfl
                                        refine pure_ (i := 7) (N := some 119) (v := ?_) (a' := ?_) #[true, true, true, true, true, true, true, true, false, false, false, false, false, false, false, false, false, false, false, false, false, false, false, false, false, false, false, false, false, false, false, false, false, false, false, false, false, false, false, false, false, false, false, false, false, false, false, false, false, false, false, false, false, false, false, false, false, false, false, false, false, false, false, false, false, false, false, false, false, false, false, false, false, false, false, false, false, false, false, false, false, false, false, false, false, false, false, false, false, false, false, false, false] rfl rfl (any_of HT_.out (by kernel_rfl)) (fun _ _ _ h => h) (Or.inl ⟨by rfl, ?_⟩) ?_ ?_
                                        rotate_left
                                        · intro w'
                                          go_simp
                                          with_reducible rfl
                                        rotate_left
                                        · simp only [Act.put, List.setIfInBounds_toArray, List.set_cons_zero, List.set_cons_succ, i64_w, i32_w]
                                          rfl
                                        refine pure_ (i := 8) (N := some 120) (v := ?_) (a' := ?_) #[true, true, true, true, true, true, true, true, true, false, false, false, false, false, false, false, false, false, false, false, false, false, false, false, false, false, false, false, false, false, false, false, false, false, false, false, false, false, false, false, false, false, false, false, false, false, false, false, false, false, false, false, false, false, false, false, false, false, false, false, false, false, false, false, false, false, false, false, false, false, false, false, false, false, false, false, false, false, false, false, false, false, false, false, false, false, false, false, false, false, false, false, false] rfl rfl (any_of HT_.out (by kernel_rfl)) (fun _ _ _ h => h) (Or.inl ⟨by rfl, ?_⟩) ?_ ?_
                                        rotate_left
                                        · intro w'
                                          go_simp
                                          with_reducible rfl
                                        rotate_left
                                        · simp only [Act.put, List.setIfInBounds_toArray, List.set_cons_zero, List.set_cons_succ, i64_w, i32_w]
                                          rfl
                                        refine pure_ (i := 9) (N := some 121) (v := ?_) (a' := ?_) #[true, true, true, true, true, true, true, true, true, true, false, false, false, false, false, false, false, false, false, false, false, false, false, false, false, false, false, false, false, false, false, false, false, false, false, false, false, false, false, false, false, false, false, false, false, false, false, false, false, false, false, false, false, false, false, false, false, false, false, false, false, false, false, false, false, false, false, false, false, false, false, false, false, false, false, false, false, false, false, false, false, false, false, false, false, false, false, false, false, false, false, false, false] rfl rfl (any_of HT_.out (by kernel_rfl)) (fun _ _ _ h => h) (Or.inl ⟨by rfl, ?_⟩) ?_ ?_
                                        rotate_left
                                        · intro w'
                                          go_simp
                                          with_reducible rfl
                                        rotate_left
                                        · simp only [Act.put, List.setIfInBounds_toArray, List.set_cons_zero, List.set_cons_succ, i64_w, i32_w]
                                          rfl
                                        refine pure_ (i := 10) (N := some 122) (v := ?_) (a' := ?_) #[true, true, true, true, true, true, true, true, true, true, true, false, false, false, false, false, false, false, false, false, false, false, false, false, false, false, false, false, false, false, false, false, false, false, false, false, false, false, false, false, false, false, false, false, false, false, false, false, false, false, false, false, false, false, false, false, false, false, false, false, false, false, false, false, false, false, false, false, false, false, false, false, false, false, false, false, false, false, false, false, false, false, false, false, false, false, false, false, false, false, false, false, false] rfl rfl (any_of HT_.out (by kernel_rfl)) (fun _ _ _ h => h) (Or.inl ⟨by rfl, ?_⟩) ?_ ?_
                                        rotate_left
                                        · intro w'
                                          go_simp
                                          with_reducible rfl
                                        rotate_left
                                        · simp only [Act.put, List.setIfInBounds_toArray, List.set_cons_zero, List.set_cons_succ, i64_w, i32_w]
                                          rfl
                                        refine pure_ (i := 11) (N := some 123) (v := ?_) (a' := ?_) #[true, true, true, true, true, true, true, true, true, true, true, true, false, false, false, false, false, false, false, false, false, false, false, false, false, false, false, false, false, false, false, false, false, false, false, false, false, false, false, false, false, false, false, false, false, false, false, false, false, false, false, false, false, false, false, false, false, false, false, false, false, false, false, false, false, false, false, false, false, false, false, false, false, false, false, false, false, false, false, false, false, false, false, false, false, false, false, false, false, false, false, false, false] rfl rfl (any_of HT_.out (by kernel_rfl)) (fun _ _ _ h => h) (Or.inl ⟨by rfl, ?_⟩) ?_ ?_
                                        rotate_left
                                        · intro w'
                                          go_simp
                                          with_reducible rfl
                                        rotate_left
                                        · simp only [Act.put, List.setIfInBounds_toArray, List.set_cons_zero, List.set_cons_succ, i64_w, i32_w]
                                          rfl
                                        refine pure_ (i := 14) (N := some 126) (v := ?_) (a' := ?_) #[true, true, true, true, true, true, true, true, true, true, true, true, false, false, true, false, false, false, false, false, false, false, false, false, false, false, false, false, false, false, false, false, false, false, false, false, false, false, false, false, false, false, false, false, false, false, false, false, false, false, false, false, false, false, false, false, false, false, false, false, false, false, false, false, false, false, false, false, false, false, false, false, false, false, false, false, false, false, false, false, false, false, false, false, false, false, false, false, false, false, false, false, false] rfl rfl (any_of HT_.out (by kernel_rfl)) (fun _ _ _ h => h) (Or.inl ⟨by rfl, ?_⟩) ?_ ?_
                                        rotate_left
                                        · intro w'
                                          go_simp
                                          with_reducible rfl
                                        rotate_left
                                        · simp only [Act.put, List.setIfInBounds_toArray, List.set_cons_zero, List.set_cons_succ, i64_w, i32_w]
                                          rfl
                                        refine one_ (i := 12) (N := some 124) #[true, true, true, true, true, true, true, true, true, true, true, true, true, false, true, false, false, false, false, false, false, false, false, false, false, false, false, false, false, false, false, false, false, false, false, false, false, false, false, false, false, false, false, false, false, false, false, false, false, false, false, false, false, false, false, false, false, false, false, false, false, false, false, false, false, false, false, false, false, false, false, false, false, false, false, false, false, false, false, false, false, false, false, false, false, false, false, false, false, false, false, false, false] rfl rfl (one_of HT_.out (by kernel_rfl)) (by decide) (fun K hK => ?_)
                                        refine goes_ Try.func55 (by kernel_rfl) rfl #[.int .i64 (wrap64 (((rd_T45 t223 1).f0) - ((rd_T45 t223 0).f0)))] (by rfl) rfl rfl (by (try simp only [List.map_toArray, List.map_cons, List.map_nil]); first | done | rfl | (simp only [List.length_drop, List.length_take]; rfl)) ?_
                                        with_reducible refine (laws_abs.calls (wrap64 (((rd_T45 t223 1).f0) - ((rd_T45 t223 0).f0))) t245 _ A59.out).mono ?_
                                        rintro e w' ⟨rfl, ⟨nd, rfl⟩⟩
                                        refine ⟨_, rfl, ?_⟩
                                        refine hK.out _ _ ⟨(blk_cell BK236.out 0).trans rfl, (blk_cell BK236.out 1).trans rfl, (blk_cell BK227.out 0).trans rfl, (blk_cell BK227.out 1).trans rfl, (blk_cell BK229.out 0).trans rfl, (blk_cell BK229.out 1).trans rfl, hHeld.2.2.2.2.2.2.1, hHeld.2.2.2.2.2.2.2.1, hHeld.2.2.2.2.2.2.2.2.1, hHeld.2.2.2.2.2.2.2.2.2.1, hHeld.2.2.2.2.2.2.2.2.2.2.1, hHeld.2.2.2.2.2.2.2.2.2.2.2.1, hHeld.2.2.2.2.2.2.2.2.2.2.2.2.1, hHeld.2.2.2.2.2.2.2.2.2.2.2.2.2.1, hHeld.2.2.2.2.2.2.2.2.2.2.2.2.2.2.1, hHeld.2.2.2.2.2.2.2.2.2.2.2.2.2.2.2.1, hHeld.2.2.2.2.2.2.2.2.2.2.2.2.2.2.2.2.1, hHeld.2.2.2.2.2.2.2.2.2.2.2.2.2.2.2.2.2.1, hHeld.2.2.2.2.2.2.2.2.2.2.2.2.2.2.2.2.2.2.1, hHeld.2.2.2.2.2.2.2.2.2.2.2.2.2.2.2.2.2.2.2.1, hHeld.2.2.2.2.2.2.2.2.2.2.2.2.2.2.2.2.2.2.2.2.1, hHeld.2.2.2.2.2.2.2.2.2.2.2.2.2.2.2.2.2.2.2.2.2⟩ (fun hHeld => ?_)
                                        clear hK K
                                        refine norm_ (a' := ?_) ?_ ?_
                                        rotate_left
                                        · show Act.put _ (some 124) _ = _
                                          simp only [Act.put, List.setIfInBounds_toArray, List.set_cons_zero, List.set_cons_succ, i64_w, i32_w]
                                          rfl
                                        refine pure_ (i := 13) (N := some 125) (v := ?_) (a' := ?_) #[true, true, true, true, true, true, true, true, true, true, true, true, true, true, true, false, false, false, false, false, false, false, false, false, false, false, false, false, false, false, false, false, false, false, false, false, false, false, false, false, false, false, false, false, false, false, false, false, false, false, false, false, false, false, false, false, false, false, false, false, false, false, false, false, false, false, false, false, false, false, false, false, false, false, false, false, false, false, false, false, false, false, false, false, false, false, false, false, false, false, false, false, false] rfl rfl (any_of HT_.out (by kernel_rfl)) (fun _ _ _ h => h) (Or.inl ⟨by rfl, ?_⟩) ?_ ?_
                                        rotate_left
                                        · intro w'
                                          go_simp
                                          with_reducible rfl
                                        rotate_left
                                        · simp only [Act.put, List.setIfInBounds_toArray, List.set_cons_zero, List.set_cons_succ, i64_w, i32_w]
                                          rfl
                                        refine one_ (i := 15) (N := some 127) #[true, true, true, true, true, true, true, true, true, true, true, true, true, true, true, true, false, false, false, false, false, false, false, false, false, false, false, false, false, false, false, false, false, false, false, false, false, false, false, false, false, false, false, false, false, false, false, false, false, false, false, false, false, false, false, false, false, false, false, false, false, false, false, false, false, false, false, false, false, false, false, false, false, false, false, false, false, false, false, false, false, false, false, false, false, false, false, false, false, false, false, false, false] rfl rfl (one_of HT_.out (by kernel_rfl)) (by decide) (fun K hK => ?_)
                                        refine goes_ Try.func55 (by kernel_rfl) rfl #[.int .i64 (wrap64 (((rd_T45 t223 1).f1) - ((rd_T45 t223 0).f1)))] (by rfl) rfl rfl (by (try simp only [List.map_toArray, List.map_cons, List.map_nil]); first | done | rfl | (simp only [List.length_drop, List.length_take]; rfl)) ?_
                                        with_reducible refine (laws_abs.calls (wrap64 (((rd_T45 t223 1).f1) - ((rd_T45 t223 0).f1))) t246 _ A60.out).mono ?_
                                        rintro e w' ⟨rfl, ⟨nd, rfl⟩⟩
                                        refine ⟨_, rfl, ?_⟩
                                        obtain ⟨Ao77, co77, eo77⟩ := Kd.R_slice HO_8.out
                                        (first | subst eo77 | (injection eo77 with f1_ f2_ f3_; have f4_ := f1_.symm; have f5_ := f3_.symm; clear f1_ f2_ f3_; subst f4_; subst f5_))
                                        refine hK.out _ _ ⟨(blk_cell BK236.out 0).trans rfl, (blk_cell BK236.out 1).trans rfl, (blk_cell BK227.out 0).trans rfl, (blk_cell BK227.out 1).trans rfl, (blk_cell BK229.out 0).trans rfl, (blk_cell BK229.out 1).trans rfl, hHeld.2.2.2.2.2.2.1, hHeld.2.2.2.2.2.2.2.1, hHeld.2.2.2.2.2.2.2.2.1, hHeld.2.2.2.2.2.2.2.2.2.1, hHeld.2.2.2.2.2.2.2.2.2.2.1, hHeld.2.2.2.2.2.2.2.2.2.2.2.1, hHeld.2.2.2.2.2.2.2.2.2.2.2.2.1, hHeld.2.2.2.2.2.2.2.2.2.2.2.2.2.1, hHeld.2.2.2.2.2.2.2.2.2.2.2.2.2.2.1, hHeld.2.2.2.2.2.2.2.2.2.2.2.2.2.2.2.1, hHeld.2.2.2.2.2.2.2.2.2.2.2.2.2.2.2.2.1, hHeld.2.2.2.2.2.2.2.2.2.2.2.2.2.2.2.2.2.1, hHeld.2.2.2.2.2.2.2.2.2.2.2.2.2.2.2.2.2.2.1, hHeld.2.2.2.2.2.2.2.2.2.2.2.2.2.2.2.2.2.2.2.1, hHeld.2.2.2.2.2.2.2.2.2.2.2.2.2.2.2.2.2.2.2.2.1, hHeld.2.2.2.2.2.2.2.2.2.2.2.2.2.2.2.2.2.2.2.2.2⟩ (fun hHeld => ?_)
                                        clear hK K
                                        refine norm_ (a' := ?_) ?_ ?_
                                        rotate_left
                                        · show Act.put _ (some 127) _ = _
                                          simp only [Act.put, List.setIfInBounds_toArray, List.set_cons_zero, List.set_cons_succ, i64_w, i32_w]
                                          rfl
                                        refine pure_ (i := 16) (N := some 128) (v := ?_) (a' := ?_) #[true, true, true, true, true, true, true, true, true, true, true, true, true, true, true, true, true, false, false, false, false, false, false, false, false, false, false, false, false, false, false, false, false, false, false, false, false, false, false, false, false, false, false, false, false, false, false, false, false, false, false, false, false, false, false, false, false, false, false, false, false, false, false, false, false, false, false, false, false, false, false, false, false, false, false, false, false, false, false, false, false, false, false, false, false, false, false, false, false, false, false, false, false] rfl rfl (any_of HT_.out (by kernel_rfl)) (fun _ _ _ h => h) (Or.inl ⟨by rfl, ?_⟩) ?_ ?_
                                        rotate_left
                                        · intro w'
                                          go_simp
                                          with_reducible rfl
                                        rotate_left
                                        · simp only [Act.put, List.setIfInBounds_toArray, List.set_cons_zero, List.set_cons_succ, i64_w, i32_w]
                                          rfl
                                        refine pure_ (i := 17) (N := some 129) (v := ?_) (a' := ?_) #[true, true, true, true, true, true, true, true, true, true, true, true, true, true, true, true, true, true, false, false, false, false, false, false, false, false, false, false, false, false, false, false, false, false, false, false, false, false, false, false, false, false, false, false, false, false, false, false, false, false, false, false, false, false, false, false, false, false, false, false, false, false, false, false, false, false, false, false, false, false, false, false, false, false, false, false, false, false, false, false, false, false, false, false, false, false, false, false, false, false, false, false, false] rfl rfl (any_of HT_.out (by kernel_rfl)) (fun _ _ _ h => h) (Or.inl ⟨by rfl, ?_⟩) ?_ ?_
                                        rotate_left
                                        · intro w'
                                          go_simp
                                          with_reducible rfl
                                        rotate_left
                                        · simp only [Act.put, List.setIfInBounds_toArray, List.set_cons_zero, List.set_cons_succ, i64_w, i32_w]
                                          rfl
                                        refine pure_ (i := 18) (N := some 130) (v := ?_) (a' := ?_) #[true, true, true, true, true, true, true, true, true, true, true, true, true, true, true, true, true, true, true, false, false, false, false, false, false, false, false, false, false, false, false, false, false, false, false, false, false, false, false, false, false, false, false, false, false, false, false, false, false, false, false, false, false, false, false, false, false, false, false, false, false, false, false, false, false, false, false, false, false, false, false, false, false, false, false, false, false, false, false, false, false, false, false, false, false, false, false, false, false, false, false, false, false] rfl rfl (any_of HT_.out (by kernel_rfl)) (fun _ _ _ h => h) (Or.inl ⟨by rfl, ?_⟩) ?_ ?_
                                        rotate_left
                                        · intro w'
                                          go_simp
                                          with_reducible rfl
                                        rotate_left
                                        · simp only [Act.put, List.setIfInBounds_toArray, List.set_cons_zero, List.set_cons_succ, i64_w, i32_w]
                                          rfl
                                        refine pure_ (i := 19) (N := some 131) (v := ?_) (a' := ?_) #[true, true, true, true, true, true, true, true, true, true, true, true, true, true, true, true, true, true, true, true, false, false, false, false, false, false, false, false, false, false, false, false, false, false, false, false, false, false, false, false, false, false, false, false, false, false, false, false, false, false, false, false, false, false, false, false, false, false, false, false, false, false, false, false, false, false, false, false, false, false, false, false, false, false, false, false, false, false, false, false, false, false, false, false, false, false, false, false, false, false, false, false, false] rfl rfl (any_of HT_.out (by kernel_rfl)) (fun _ _ _ h => h) (Or.inl ⟨by rfl, ?_⟩) ?_ ?_
                                        rotate_left
                                        · intro w'
                                          go_simp
                                          with_reducible rfl
                                        rotate_left
                                        · simp only [Act.put, List.setIfInBounds_toArray, List.set_cons_zero, List.set_cons_succ, i64_w, i32_w]
                                          rfl
                                        refine pure_ (i := 20) (N := some 132) (v := ?_) (a' := ?_) #[true, true, true, true, true, true, true, true, true, true, true, true, true, true, true, true, true, true, true, true, true, false, false, false, false, false, false, false, false, false, false, false, false, false, false, false, false, false, false, false, false, false, false, false, false, false, false, false, false, false, false, false, false, false, false, false, false, false, false, false, false, false, false, false, false, false, false, false, false, false, false, false, false, false, false, false, false, false, false, false, false, false, false, false, false, false, false, false, false, false, false, false, false] rfl rfl (any_of HT_.out (by kernel_rfl)) (fun _ _ _ h => h) (Or.inl ⟨by rfl, ?_⟩) ?_ ?_
                                        rotate_left
                                        · intro w'
                                          go_simp
                                          with_reducible rfl
                                        rotate_left
                                        · simp only [Act.put, List.setIfInBounds_toArray, List.set_cons_zero, List.set_cons_succ, i64_w, i32_w]
                                          rfl
                                        refine pure_ (i := 21) (N := some 133) (v := ?_) (a' := ?_) #[true, true, true, true, true, true, true, true, true, true, true, true, true, true, true, true, true, true, true, true, true, true, false, false, false, false, false, false, false, false, false, false, false, false, false, false, false, false, false, false, false, false, false, false, false, false, false, false, false, false, false, false, false, false, false, false, false, false, false, false, false, false, false, false, false, false, false, false, false, false, false, false, false, false, false, false, false, false, false, false, false, false, false, false, false, false, false, false, false, false, false, false, false] rfl rfl (any_of HT_.out (by kernel_rfl)) (fun _ _ _ h => h) (Or.inl ⟨by rfl, ?_⟩) ?_ ?_
                                        rotate_left
                                        · intro w'
                                          go_simp
                                          with_reducible rfl
                                        rotate_left
                                        · simp only [Act.put, List.setIfInBounds_toArray, List.set_cons_zero, List.set_cons_succ, i64_w, i32_w]
                                          rfl
                                        refine pure_ (i := 22) (N := some 134) (v := ?_) (a' := ?_) #[true, true, true, true, true, true, true, true, true, true, true, true, true, true, true, true, true, true, true, true, true, true, true, false, false, false, false, false, false, false, false, false, false, false, false, false, false, false, false, false, false, false, false, false, false, false, false, false, false, false, false, false, false, false, false, false, false, false, false, false, false, false, false, false, false, false, false, false, false, false, false, false, false, false, false, false, false, false, false, false, false, false, false, false, false, false, false, false, false, false, false, false, false] rfl rfl (any_of HT_.out (by kernel_rfl)) (fun _ _ _ h => h) (Or.inl ⟨by rfl, ?_⟩) ?_ ?_
                                        rotate_left
                                        · intro w'
                                          go_simp
                                          with_reducible rfl
                                        rotate_left
                                        · simp only [Act.put, List.setIfInBounds_toArray, List.set_cons_zero, List.set_cons_succ, i64_w, i32_w]
                                          rfl
                                        refine pure_ (i := 23) (N := some 135) (v := ?_) (a' := ?_) #[true, true, true, true, true, true, true, true, true, true, true, true, true, true, true, true, true, true, true, true, true, true, true, true, false, false, false, false, false, false, false, false, false, false, false, false, false, false, false, false, false, false, false, false, false, false, false, false, false, false, false, false, false, false, false, false, false, false, false, false, false, false, false, false, false, false, false, false, false, false, false, false, false, false, false, false, false, false, false, false, false, false, false, false, false, false, false, false, false, false, false, false, false] rfl rfl (any_of HT_.out (by kernel_rfl)) (fun _ _ _ h => h) (Or.inl ⟨by rfl, ?_⟩) ?_ ?_
                                        rotate_left
                                        · intro w'
                                          go_simp
                                          with_reducible rfl
                                        rotate_left
                                        · simp only [Act.put, List.setIfInBounds_toArray, List.set_cons_zero, List.set_cons_succ, i64_w, i32_w]
                                          rfl
                                        refine pure_ (i := 24) (N := some 136) (v := ?_) (a' := ?_) #[true, true, true, true, true, true, true, true, true, true, true, true, true, true, true, true, true, true, true, true, true, true, true, true, true, false, false, false, false, false, false, false, false, false, false, false, false, false, false, false, false, false, false, false, false, false, false, false, false, false, false, false, false, false, false, false, false, false, false, false, false, false, false, false, false, false, false, false, false, false, false, false, false, false, false, false, false, false, false, false, false, false, false, false, false, false, false, false, false, false, false, false, false] rfl rfl (any_of HT_.out (by kernel_rfl)) (fun _ _ _ h => h) (Or.inl ⟨by rfl, ?_⟩) ?_ ?_
                                        rotate_left
                                        · intro w'
                                          go_simp
                                          with_reducible rfl
                                        rotate_left
                                        · simp only [Act.put, List.setIfInBounds_toArray, List.set_cons_zero, List.set_cons_succ, i64_w, i32_w]
                                          rfl
                                        refine pure_ (i := 25) (N := some 137) (v := ?_) (a' := ?_) #[true, true, true, true, true, true, true, true, true, true, true, true, true, true, true, true, true, true, true, true, true, true, true, true, true, true, false, false, false, false, false, false, false, false, false, false, false, false, false, false, false, false, false, false, false, false, false, false, false, false, false, false, false, false, false, false, false, false, false, false, false, false, false, false, false, false, false, false, false, false, false, false, false, false, false, false, false, false, false, false, false, false, false, false, false, false, false, false, false, false, false, false, false] rfl rfl (any_of HT_.out (by kernel_rfl)) (fun _ _ _ h => h) (Or.inl ⟨by rfl, ?_⟩) ?_ ?_
                                        rotate_left
                                        · intro w'
                                          go_simp
                                          with_reducible rfl
                                        rotate_left
                                        · simp only [Act.put, List.setIfInBounds_toArray, List.set_cons_zero, List.set_cons_succ, i64_w, i32_w]
                                          rfl
                                        refine pure_ (i := 26) (N := some 138) (v := ?_) (a' := ?_) #[true, true, true, true, true, true, true, true, true, true, true, true, true, true, true, true, true, true, true, true, true, true, true, true, true, true, true, false, false, false, false, false, false, false, false, false, false, false, false, false, false, false, false, false, false, false, false, false, false, false, false, false, false, false, false, false, false, false, false, false, false, false, false, false, false, false, false, false, false, false, false, false, false, false, false, false, false, false, false, false, false, false, false, false, false, false, false, false, false, false, false, false, false] rfl rfl (any_of HT_.out (by kernel_rfl)) (fun _ _ _ h => h) (Or.inl ⟨by rfl, ?_⟩) ?_ ?_
                                        rotate_left
                                        · intro w'
                                          go_simp
                                          with_reducible rfl
                                        rotate_left
                                        · simp only [Act.put, List.setIfInBounds_toArray, List.set_cons_zero, List.set_cons_succ, i64_w, i32_w]
                                          rfl
                                        refine pure_ (i := 27) (N := some 139) (v := ?_) (a' := ?_) #[true, true, true, true, true, true, true, true, true, true, true, true, true, true, true, true, true, true, true, true, true, true, true, true, true, true, true, true, false, false, false, false, false, false, false, false, false, false, false, false, false, false, false, false, false, false, false, false, false, false, false, false, false, false, false, false, false, false, false, false, false, false, false, false, false, false, false, false, false, false, false, false, false, false, false, false, false, false, false, false, false, false, false, false, false, false, false, false, false, false, false, false, false] rfl rfl (any_of HT_.out (by kernel_rfl)) (fun _ _ _ h => h) (Or.inl ⟨by rfl, ?_⟩) ?_ ?_
                                        rotate_left
                                        · intro w'
                                          go_simp
                                          with_reducible rfl
                                        rotate_left
                                        · simp only [Act.put, List.setIfInBounds_toArray, List.set_cons_zero, List.set_cons_succ, i64_w, i32_w]
                                          rfl
                                        refine pure_ (i := 29) (N := some 141) (v := ?_) (a' := ?_) #[true, true, true, true, true, true, true, true, true, true, true, true, true, true, true, true, true, true, true, true, true, true, true, true, true, true, true, true, false, true, false, false, false, false, false, false, false, false, false, false, false, false, false, false, false, false, false, false, false, false, false, false, false, false, false, false, false, false, false, false, false, false, false, false, false, false, false, false, false, false, false, false, false, false, false, false, false, false, false, false, false, false, false, false, false, false, false, false, false, false, false, false, false] rfl rfl (any_of HT_.out (by kernel_rfl)) (fun _ _ _ h => h) (Or.inl ⟨by rfl, ?_⟩) ?_ ?_
                                        rotate_left
                                        · intro w'
                                          go_simp
                                          with_reducible rfl
                                        rotate_left
                                        · simp only [Act.put, List.setIfInBounds_toArray, List.set_cons_zero, List.set_cons_succ, i64_w, i32_w]
                                          rfl
                                        refine pure_ (i := 30) (N := some 142) (v := ?_) (a' := ?_) #[true, true, true, true, true, true, true, true, true, true, true, true, true, true, true, true, true, true, true, true, true, true, true, true, true, true, true, true, false, true, true, false, false, false, false, false, false, false, false, false, false, false, false, false, false, false, false, false, false, false, false, false, false, false, false, false, false, false, false, false, false, false, false, false, false, false, false, false, false, false, false, false, false, false, false, false, false, false, false, false, false, false, false, false, false, false, false, false, false, false, false, false, false] rfl rfl (any_of HT_.out (by kernel_rfl)) (fun _ _ _ h => h) (Or.inl ⟨by rfl, ?_⟩) ?_ ?_
                                        rotate_left
                                        · intro w'
                                          go_simp
                                          with_reducible rfl
                                        rotate_left
                                        · simp only [Act.put, List.setIfInBounds_toArray, List.set_cons_zero, List.set_cons_succ, i64_w, i32_w]
                                          rfl
                                        refine pure_ (i := 31) (N := some 143) (v := ?_) (a' := ?_) #[true, true, true, true, true, true, true, true, true, true, true, true, true, true, true, true, true, true, true, true, true, true, true, true, true, true, true, true, false, true, true, true, false, false, false, false, false, false, false, false, false, false, false, false, false, false, false, false, false, false, false, false, false, false, false, false, false, false, false, false, false, false, false, false, false, false, false, false, false, false, false, false, false, false, false, false, false, false, false, false, false, false, false, false, false, false, false, false, false, false, false, false, false] rfl rfl (any_of HT_.out (by kernel_rfl)) (fun _ _ _ h => h) (Or.inl ⟨by rfl, ?_⟩) ?_ ?_
                                        rotate_left
                                        · intro w'
                                          go_simp
                                          with_reducible rfl
                                        rotate_left
                                        · simp only [Act.put, List.setIfInBounds_toArray, List.set_cons_zero, List.set_cons_succ, i64_w, i32_w]
                                          rfl
                                        refine pure_ (i := 34) (N := some 146) (v := ?_) (a' := ?_) #[true, true, true, true, true, true, true, true, true, true, true, true, true, true, true, true, true, true, true, true, true, true, true, true, true, true, true, true, false, true, true, true, false, false, true, false, false, false, false, false, false, false, false, false, false, false, false, false, false, false, false, false, false, false, false, false, false, false, false, false, false, false, false, false, false, false, false, false, false, false, false, false, false, false, false, false, false, false, false, false, false, false, false, false, false, false, false, false, false, false, false, false, false] rfl rfl (any_of HT_.out (by kernel_rfl)) (fun _ _ _ h => h) (Or.inl ⟨by rfl, ?_⟩) ?_ ?_
                                        rotate_left
                                        · intro w'
                                          go_simp
                                          with_reducible rfl
                                        rotate_left
                                        · simp only [Act.put, List.setIfInBounds_toArray, List.set_cons_zero, List.set_cons_succ, i64_w, i32_w]
                                          rfl
                                        refine take_ (i := 28) (N := some 140) (v := ?_) (a' := ?_) #[true, true, true, true, true, true, true, true, true, true, true, true, true, true, true, true, true, true, true, true, true, true, true, true, true, true, true, true, true, true, true, true, false, false, true, false, false, false, false, false, false, false, false, false, false, false, false, false, false, false, false, false, false, false, false, false, false, false, false, false, false, false, false, false, false, false, false, false, false, false, false, false, false, false, false, false, false, false, false, false, false, false, false, false, false, false, false, false, false, false, false, false, false] rfl rfl (take_ofW HT_.out HW_.out (by kernel_rfl)) (fun _ _ _ h => h) (Or.inl ⟨by rfl, ?_⟩) hHeld ?_ ?_
                                        rotate_left
                                        · rintro w' ⟨s0, s1, s2, s3, s4, s5, s6, s7, s8, s9, s10, s11, s12, s13, s14, s15, s16, s17, s18, s19, s20, s21⟩
                                          go_simp
                                          with_reducible rfl
                                        rotate_left
                                        · simp only [Act.put, List.setIfInBounds_toArray, List.set_cons_zero, List.set_cons_succ, i64_w, i32_w]
                                          rfl
                                        refine take_ (i := 32) (N := some 144) (v := ?_) (a' := ?_) #[true, true, true, true, true, true, true, true, true, true, true, true, true, true, true, true, true, true, true, true, true, true, true, true, true, true, true, true, true, true, true, true, true, false, true, false, false, false, false, false, false, false, false, false, false, false, false, false, false, false, false, false, false, false, false, false, false, false, false, false, false, false, false, false, false, false, false, false, false, false, false, false, false, false, false, false, false, false, false, false, false, false, false, false, false, false, false, false, false, false, false, false, false] rfl rfl (take_ofW HT_.out HW_.out (by kernel_rfl)) (fun _ _ _ h => h) (Or.inl ⟨by rfl, ?_⟩) hHeld ?_ ?_
                                        rotate_left
                                        · rintro w' ⟨s0, s1, s2, s3, s4, s5, s6, s7, s8, s9, s10, s11, s12, s13, s14, s15, s16, s17, s18, s19, s20, s21⟩
                                          go_simp
                                          with_reducible rfl
                                        rotate_left
                                        · simp only [Act.put, List.setIfInBounds_toArray, List.set_cons_zero, List.set_cons_succ, i64_w, i32_w]
                                          rfl
                                        refine pure_ (i := 33) (N := some 145) (v := ?_) (a' := ?_) #[true, true, true, true, true, true, true, true, true, true, true, true, true, true, true, true, true, true, true, true, true, true, true, true, true, true, true, true, true, true, true, true, true, true, true, false, false, false, false, false, false, false, false, false, false, false, false, false, false, false, false, false, false, false, false, false, false, false, false, false, false, false, false, false, false, false, false, false, false, false, false, false, false, false, false, false, false, false, false, false, false, false, false, false, false, false, false, false, false, false, false, false, false] rfl rfl (any_of HT_.out (by kernel_rfl)) (fun _ _ _ h => h) (Or.inl ⟨by rfl, ?_⟩) ?_ ?_
                                        rotate_left
                                        · intro w'
                                          go_simp
                                          with_reducible rfl
                                        rotate_left
                                        · simp only [Act.put, List.setIfInBounds_toArray, List.set_cons_zero, List.set_cons_succ, i64_w, i32_w]
                                          rfl
                                        refine take_ (i := 35) (N := some 147) (v := ?_) (a' := ?_) #[true, true, true, true, true, true, true, true, true, true, true, true, true, true, true, true, true, true, true, true, true, true, true, true, true, true, true, true, true, true, true, true, true, true, true, true, false, false, false, false, false, false, false, false, false, false, false, false, false, false, false, false, false, false, false, false, false, false, false, false, false, false, false, false, false, false, false, false, false, false, false, false, false, false, false, false, false, false, false, false, false, false, false, false, false, false, false, false, false, false, false, false, false] rfl rfl (take_ofW HT_.out HW_.out (by kernel_rfl)) (fun _ _ _ h => h) (Or.inl ⟨by rfl, ?_⟩) hHeld ?_ ?_
                                        rotate_left
                                        · rintro w' ⟨s0, s1, s2, s3, s4, s5, s6, s7, s8, s9, s10, s11, s12, s13, s14, s15, s16, s17, s18, s19, s20, s21⟩
                                          go_simp
                                          with_reducible rfl
                                        rotate_left
                                        · simp only [Act.put, List.setIfInBounds_toArray, List.set_cons_zero, List.set_cons_succ, i64_w, i32_w]
                                          rfl
                                        refine pure_ (i := 36) (N := some 148) (v := ?_) (a' := ?_) #[true, true, true, true, true, true, true, true, true, true, true, true, true, true, true, true, true, true, true, true, true, true, true, true, true, true, true, true, true, true, true, true, true, true, true, true, true, false, false, false, false, false, false, false, false, false, false, false, false, false, false, false, false, false, false, false, false, false, false, false, false, false, false, false, false, false, false, false, false, false, false, false, false, false, false, false, false, false, false, false, false, false, false, false, false, false, false, false, false, false, false, false, false] rfl rfl (any_of HT_.out (by kernel_rfl)) (fun _ _ _ h => h) (Or.inl ⟨by rfl, ?_⟩) ?_ ?_
                                        rotate_left
                                        · intro w'
                                          go_simp
                                          with_reducible rfl
                                        rotate_left
                                        · simp only [Act.put, List.setIfInBounds_toArray, List.set_cons_zero, List.set_cons_succ, i64_w, i32_w]
                                          rfl
                                        refine pure_ (i := 37) (N := some 149) (v := ?_) (a' := ?_) #[true, true, true, true, true, true, true, true, true, true, true, true, true, true, true, true, true, true, true, true, true, true, true, true, true, true, true, true, true, true, true, true, true, true, true, true, true, true, false, false, false, false, false, false, false, false, false, false, false, false, false, false, false, false, false, false, false, false, false, false, false, false, false, false, false, false, false, false, false, false, false, false, false, false, false, false, false, false, false, false, false, false, false, false, false, false, false, false, false, false, false, false, false] rfl rfl (any_of HT_.out (by kernel_rfl)) (fun _ _ _ h => h) (Or.inl ⟨by rfl, ?_⟩) ?_ ?_
                                        rotate_left
                                        · intro w'
                                          go_simp
                                          with_reducible rfl
                                        rotate_left
                                        · simp only [Act.put, List.setIfInBounds_toArray, List.set_cons_zero, List.set_cons_succ, i64_w, i32_w]
                                          rfl
                                        refine pure_ (i := 38) (N := some 150) (v := ?_) (a' := ?_) #[true, true, true, true, true, true, true, true, true, true, true, true, true, true, true, true, true, true, true, true, true, true, true, true, true, true, true, true, true, true, true, true, true, true, true, true, true, true, true, false, false, false, false, false, false, false, false, false, false, false, false, false, false, false, false, false, false, false, false, false, false, false, false, false, false, false, false, false, false, false, false, false, false, false, false, false, false, false, false, false, false, false, false, false, false, false, false, false, false, false, false, false, false] rfl rfl (any_of HT_.out (by kernel_rfl)) (fun _ _ _ h => h) (Or.inl ⟨by rfl, ?_⟩) ?_ ?_
                                        rotate_left
                                        · intro w'
                                          go_simp
                                          with_reducible rfl
                                        rotate_left
                                        · simp only [Act.put, List.setIfInBounds_toArray, List.set_cons_zero, List.set_cons_succ, i64_w, i32_w]
                                          rfl
                                        refine pure_ (i := 39) (N := some 151) (v := ?_) (a' := ?_) #[true, true, true, true, true, true, true, true, true, true, true, true, true, true, true, true, true, true, true, true, true, true, true, true, true, true, true, true, true, true, true, true, true, true, true, true, true, true, true, true, false, false, false, false, false, false, false, false, false, false, false, false, false, false, false, false, false, false, false, false, false, false, false, false, false, false, false, false, false, false, false, false, false, false, false, false, false, false, false, false, false, false, false, false, false, false, false, false, false, false, false, false, false] rfl rfl (any_of HT_.out (by kernel_rfl)) (fun _ _ _ h => h) (Or.inl ⟨by rfl, ?_⟩) ?_ ?_
                                        rotate_left
                                        · intro w'
                                          go_simp
                                          with_reducible rfl
                                        rotate_left
                                        · simp only [Act.put, List.setIfInBounds_toArray, List.set_cons_zero, List.set_cons_succ, i64_w, i32_w]
                                          rfl
                                        refine pure_ (i := 40) (N := some 152) (v := ?_) (a' := ?_) #[true, true, true, true, true, true, true, true, true, true, true, true, true, true, true, true, true, true, true, true, true, true, true, true, true, true, true, true, true, true, true, true, true, true, true, true, true, true, true, true, true, false, false, false, false, false, false, false, false, false, false, false, false, false, false, false, false, false, false, false, false, false, false, false, false, false, false, false, false, false, false, false, false, false, false, false, false, false, false, false, false, false, false, false, false, false, false, false, false, false, false, false, false] rfl rfl (any_of HT_.out (by kernel_rfl)) (fun _ _ _ h => h) (Or.inl ⟨by rfl, ?_⟩) ?_ ?_
                                        rotate_left
                                        · intro w'
                                          go_simp
                                          with_reducible rfl
                                        rotate_left
                                        · simp only [Act.put, List.setIfInBounds_toArray, List.set_cons_zero, List.set_cons_succ, i64_w, i32_w]
                                          rfl
                                        refine pure_ (i := 41) (N := some 153) (v := ?_) (a' := ?_) #[true, true, true, true, true, true, true, true, true, true, true, true, true, true, true, true, true, true, true, true, true, true, true, true, true, true, true, true, true, true, true, true, true, true, true, true, true, true, true, true, true, true, false, false, false, false, false, false, false, false, false, false, false, false, false, false, false, false, false, false, false, false, false, false, false, false, false, false, false, false, false, false, false, false, false, false, false, false, false, false, false, false, false, false, false, false, false, false, false, false, false, false, false] rfl rfl (any_of HT_.out (by kernel_rfl)) (fun _ _ _ h => h) (Or.inl ⟨by rfl, ?_⟩) ?_ ?_
                                        rotate_left
                                        · intro w'
                                          go_simp
                                          with_reducible rfl
                                        rotate_left
                                        · simp only [Act.put, List.setIfInBounds_toArray, List.set_cons_zero, List.set_cons_succ, i64_w, i32_w]
                                          rfl
                                        refine pure_ (i := 42) (N := some 154) (v := ?_) (a' := ?_) #[true, true, true, true, true, true, true, true, true, true, true, true, true, true, true, true, true, true, true, true, true, true, true, true, true, true, true, true, true, true, true, true, true, true, true, true, true, true, true, true, true, true, true, false, false, false, false, false, false, false, false, false, false, false, false, false, false, false, false, false, false, false, false, false, false, false, false, false, false, false, false, false, false, false, false, false, false, false, false, false, false, false, false, false, false, false, false, false, false, false, false, false, false] rfl rfl (any_of HT_.out (by kernel_rfl)) (fun _ _ _ h => h) (Or.inl ⟨by rfl, ?_⟩) ?_ ?_
                                        rotate_left
                                        · intro w'
                                          go_simp
                                          with_reducible rfl
                                        rotate_left
                                        · simp only [Act.put, List.setIfInBounds_toArray, List.set_cons_zero, List.set_cons_succ, i64_w, i32_w]
                                          rfl
                                        refine pure_ (i := 44) (N := some 156) (v := ?_) (a' := ?_) #[true, true, true, true, true, true, true, true, true, true, true, true, true, true, true, true, true, true, true, true, true, true, true, true, true, true, true, true, true, true, true, true, true, true, true, true, true, true, true, true, true, true, true, false, true, false, false, false, false, false, false, false, false, false, false, false, false, false, false, false, false, false, false, false, false, false, false, false, false, false, false, false, false, false, false, false, false, false, false, false, false, false, false, false, false, false, false, false, false, false, false, false, false] rfl rfl (any_of HT_.out (by kernel_rfl)) (fun _ _ _ h => h) (Or.inl ⟨by rfl, ?_⟩) ?_ ?_
                                        rotate_left
                                        · intro w'
                                          go_simp
                                          with_reducible rfl
                                        rotate_left
                                        · simp only [Act.put, List.setIfInBounds_toArray, List.set_cons_zero, List.set_cons_succ, i64_w, i32_w]
                                          rfl
                                        refine pure_ (i := 45) (N := some 157) (v := ?_) (a' := ?_) #[true, true, true, true, true, true, true, true, true, true, true, true, true, true, true, true, true, true, true, true, true, true, true, true, true, true, true, true, true, true, true, true, true, true, true, true, true, true, true, true, true, true, true, false, true, true, false, false, false, false, false, false, false, false, false, false, false, false, false, false, false, false, false, false, false, false, false, false, false, false, false, false, false, false, false, false, false, false, false, false, false, false, false, false, false, false, false, false, false, false, false, false, false] rfl rfl (any_of HT_.out (by kernel_rfl)) (fun _ _ _ h => h) (Or.inl ⟨by rfl, ?_⟩) ?_ ?_
                                        rotate_left
                                        · intro w'
                                          go_simp
                                          with_reducible rfl
                                        rotate_left
                                        · simp only [Act.put, List.setIfInBounds_toArray, List.set_cons_zero, List.set_cons_succ, i64_w, i32_w]
                                          rfl
                                        refine pure_ (i := 46) (N := some 158) (v := ?_) (a' := ?_) #[true, true, true, true, true, true, true, true, true, true, true, true, true, true, true, true, true, true, true, true, true, true, true, true, true, true, true, true, true, true, true, true, true, true, true, true, true, true, true, true, true, true, true, false, true, true, true, false, false, false, false, false, false, false, false, false, false, false, false, false, false, false, false, false, false, false, false, false, false, false, false, false, false, false, false, false, false, false, false, false, false, false, false, false, false, false, false, false, false, false, false, false, false] rfl rfl (any_of HT_.out (by kernel_rfl)) (fun _ _ _ h => h) (Or.inl ⟨by rfl, ?_⟩) ?_ ?_
                                        rotate_left
                                        · intro w'
                                          go_simp
                                          with_reducible rfl
                                        rotate_left
                                        · simp only [Act.put, List.setIfInBounds_toArray, List.set_cons_zero, List.set_cons_succ, i64_w, i32_w]
                                          rfl
                                        refine pure_ (i := 49) (N := some 161) (v := ?_) (a' := ?_) #[true, true, true, true, true, true, true, true, true, true, true, true, true, true, true, true, true, true, true, true, true, true, true, true, true, true, true, true, true, true, true, true, true, true, true, true, true, true, true, true, true, true, true, false, true, true, true, false, false, true, false, false, false, false, false, false, false, false, false, false, false, false, false, false, false, false, false, false, false, false, false, false, false, false, false, false, false, false, false, false, false, false, false, false, false, false, false, false, false, false, false, false, false] rfl rfl (any_of HT_.out (by kernel_rfl)) (fun _ _ _ h => h) (Or.inl ⟨by rfl, ?_⟩) ?_ ?_
                                        rotate_left
                                        · intro w'
                                          go_simp
                                          with_reducible rfl
                                        rotate_left
                                        · simp only [Act.put, List.setIfInBounds_toArray, List.set_cons_zero, List.set_cons_succ, i64_w, i32_w]
                                          rfl
                                        refine take_ (i := 43) (N := some 155) (v := ?_) (a' := ?_) #[true, true, true, true, true, true, true, true, true, true, true, true, true, true, true, true, true, true, true, true, true, true, true, true, true, true, true, true, true, true, true, true, true, true, true, true, true, true, true, true, true, true, true, true, true, true, true, false, false, true, false, false, false, false, false, false, false, false, false, false, false, false, false, false, false, false, false, false, false, false, false, false, false, false, false, false, false, false, false, false, false, false, false, false, false, false, false, false, false, false, false, false, false] rfl rfl (take_ofW HT_.out HW_.out (by kernel_rfl)) (fun _ _ _ h => h) (Or.inl ⟨by rfl, ?_⟩) hHeld ?_ ?_
                                        rotate_left
                                        · rintro w' ⟨s0, s1, s2, s3, s4, s5, s6, s7, s8, s9, s10, s11, s12, s13, s14, s15, s16, s17, s18, s19, s20, s21⟩
                                          go_simp
                                          with_reducible rfl
                                        rotate_left
                                        · simp only [Act.put, List.setIfInBounds_toArray, List.set_cons_zero, List.set_cons_succ, i64_w, i32_w]
                                          rfl
                                        refine take_ (i := 47) (N := some 159) (v := ?_) (a' := ?_) #[true, true, true, true, true, true, true, true, true, true, true, true, true, true, true, true, true, true, true, true, true, true, true, true, true, true, true, true, true, true, true, true, true, true, true, true, true, true, true, true, true, true, true, true, true, true, true, true, false, true, false, false, false, false, false, false, false, false, false, false, false, false, false, false, false, false, false, false, false, false, false, false, false, false, false, false, false, false, false, false, false, false, false, false, false, false, false, false, false, false, false, false, false] rfl rfl (take_ofW HT_.out HW_.out (by kernel_rfl)) (fun _ _ _ h => h) (Or.inl ⟨by rfl, ?_⟩) hHeld ?_ ?_
                                        rotate_left
                                        · rintro w' ⟨s0, s1, s2, s3, s4, s5, s6, s7, s8, s9, s10, s11, s12, s13, s14, s15, s16, s17, s18, s19, s20, s21⟩
                                          go_simp
                                          with_reducible rfl
                                        rotate_left
                                        · simp only [Act.put, List.setIfInBounds_toArray, List.set_cons_zero, List.set_cons_succ, i64_w, i32_w]
                                          rfl
                                        refine pure_ (i := 48) (N := some 160) (v := ?_) (a' := ?_) #[true, true, true, true, true, true, true, true, true, true, true, true, true, true, true, true, true, true, true, true, true, true, true, true, true, true, true, true, true, true, true, true, true, true, true, true, true, true, true, true, true, true, true, true, true, true, true, true, true, true, false, false, false, false, false, false, false, false, false, false, false, false, false, false, false, false, false, false, false, false, false, false, false, false, false, false, false, false, false, false, false, false, false, false, false, false, false, false, false, false, false, false, false] rfl rfl (any_of HT_.out (by kernel_rfl)) (fun _ _ _ h => h) (Or.inl ⟨by rfl, ?_⟩) ?_ ?_
                                        rotate_left
                                        · intro w'
                                          go_simp
                                          with_reducible rfl
                                        rotate_left
                                        · simp only [Act.put, List.setIfInBounds_toArray, List.set_cons_zero, List.set_cons_succ, i64_w, i32_w]
                                          rfl
                                        refine take_ (i := 50) (N := some 162) (v := ?_) (a' := ?_) #[true, true, true, true, true, true, true, true, true, true, true, true, true, true, true, true, true, true, true, true, true, true, true, true, true, true, true, true, true, true, true, true, true, true, true, true, true, true, true, true, true, true, true, true, true, true, true, true, true, true, true, false, false, false, false, false, false, false, false, false, false, false, false, false, false, false, false, false, false, false, false, false, false, false, false, false, false, false, false, false, false, false, false, false, false, false, false, false, false, false, false, false, false] rfl rfl (take_ofW HT_.out HW_.out (by kernel_rfl)) (fun _ _ _ h => h) (Or.inl ⟨by rfl, ?_⟩) hHeld ?_ ?_
                                        rotate_left
                                        · rintro w' ⟨s0, s1, s2, s3, s4, s5, s6, s7, s8, s9, s10, s11, s12, s13, s14, s15, s16, s17, s18, s19, s20, s21⟩
                                          go_simp
                                          with_reducible rfl
                                        rotate_left
                                        · simp only [Act.put, List.setIfInBounds_toArray, List.set_cons_zero, List.set_cons_succ, i64_w, i32_w]
                                          rfl
                                        refine pure_ (i := 51) (N := some 163) (v := ?_) (a' := ?_) #[true, true, true, true, true, true, true, true, true, true, true, true, true, true, true, true, true, true, true, true, true, true, true, true, true, true, true, true, true, true, true, true, true, true, true, true, true, true, true, true, true, true, true, true, true, true, true, true, true, true, true, true, false, false, false, false, false, false, false, false, false, false, false, false, false, false, false, false, false, false, false, false, false, false, false, false, false, false, false, false, false, false, false, false, false, false, false, false, false, false, false, false, false] rfl rfl (any_of HT_.out (by kernel_rfl)) (fun _ _ _ h => h) (Or.inl ⟨by rfl, ?_⟩) ?_ ?_
                                        rotate_left
                                        · intro w'
                                          go_simp
                                          with_reducible rfl
                                        rotate_left
                                        · simp only [Act.put, List.setIfInBounds_toArray, List.set_cons_zero, List.set_cons_succ, i64_w, i32_w]
                                          rfl
                                        refine pure_ (i := 52) (N := some 164) (v := ?_) (a' := ?_) #[true, true, true, true, true, true, true, true, true, true, true, true, true, true, true, true, true, true, true, true, true, true, true, true, true, true, true, true, true, true, true, true, true, true, true, true, true, true, true, true, true, true, true, true, true, true, true, true, true, true, true, true, true, false, false, false, false, false, false, false, false, false, false, false, false, false, false, false, false, false, false, false, false, false, false, false, false, false, false, false, false, false, false, false, false, false, false, false, false, false, false, false, false] rfl rfl (any_of HT_.out (by kernel_rfl)) (fun _ _ _ h => h) (Or.inl ⟨by rfl, ?_⟩) ?_ ?_
                                        rotate_left
                                        · intro w'
                                          go_simp
                                          with_reducible rfl
                                        rotate_left
                                        · simp only [Act.put, List.setIfInBounds_toArray, List.set_cons_zero, List.set_cons_succ, i64_w, i32_w]
                                          rfl
                                        refine pure_ (i := 53) (N := some 165) (v := ?_) (a' := ?_) #[true, true, true, true, true, true, true, true, true, true, true, true, true, true, true, true, true, true, true, true, true, true, true, true, true, true, true, true, true, true, true, true, true, true, true, true, true, true, true, true, true, true, true, true, true, true, true, true, true, true, true, true, true, true, false, false, false, false, false, false, false, false, false, false, false, false, false, false, false, false, false, false, false, false, false, false, false, false, false, false, false, false, false, false, false, false, false, false, false, false, false, false, false] rfl rfl (any_of HT_.out (by kernel_rfl)) (fun _ _ _ h => h) (Or.inl ⟨by rfl, ?_⟩) ?_ ?_
                                        rotate_left
                                        · intro w'
                                          go_simp
                                          with_reducible rfl
                                        rotate_left
                                        · simp only [Act.put, List.setIfInBounds_toArray, List.set_cons_zero, List.set_cons_succ, i64_w, i32_w]
                                          rfl
                                        refine pure_ (i := 54) (N := some 166) (v := ?_) (a' := ?_) #[true, true, true, true, true, true, true, true, true, true, true, true, true, true, true, true, true, true, true, true, true, true, true, true, true, true, true, true, true, true, true, true, true, true, true, true, true, true, true, true, true, true, true, true, true, true, true, true, true, true, true, true, true, true, true, false, false, false, false, false, false, false, false, false, false, false, false, false, false, false, false, false, false, false, false, false, false, false, false, false, false, false, false, false, false, false, false, false, false, false, false, false, false] rfl rfl (any_of HT_.out (by kernel_rfl)) (fun _ _ _ h => h) (Or.inl ⟨by rfl, ?_⟩) ?_ ?_
                                        rotate_left
                                        · intro w'
                                          go_simp
                                          with_reducible rfl
                                        rotate_left
                                        · simp only [Act.put, List.setIfInBounds_toArray, List.set_cons_zero, List.set_cons_succ, i64_w, i32_w]
                                          rfl
                                        refine pure_ (i := 55) (N := some 167) (v := ?_) (a' := ?_) #[true, true, true, true, true, true, true, true, true, true, true, true, true, true, true, true, true, true, true, true, true, true, true, true, true, true, true, true, true, true, true, true, true, true, true, true, true, true, true, true, true, true, true, true, true, true, true, true, true, true, true, true, true, true, true, true, false, false, false, false, false, false, false, false, false, false, false, false, false, false, false, false, false, false, false, false, false, false, false, false, false, false, false, false, false, false, false, false, false, false, false, false, false] rfl rfl (any_of HT_.out (by kernel_rfl)) (fun _ _ _ h => h) (Or.inl ⟨by rfl, ?_⟩) ?_ ?_
                                        rotate_left
                                        · intro w'
                                          go_simp
                                          with_reducible rfl
                                        rotate_left
                                        · simp only [Act.put, List.setIfInBounds_toArray, List.set_cons_zero, List.set_cons_succ, i64_w, i32_w]
                                          rfl
                                        refine pure_ (i := 56) (N := some 168) (v := ?_) (a' := ?_) #[true, true, true, true, true, true, true, true, true, true, true, true, true, true, true, true, true, true, true, true, true, true, true, true, true, true, true, true, true, true, true, true, true, true, true, true, true, true, true, true, true, true, true, true, true, true, true, true, true, true, true, true, true, true, true, true, true, false, false, false, false, false, false, false, false, false, false, false, false, false, false, false, false, false, false, false, false, false, false, false, false, false, false, false, false, false, false, false, false, false, false, false, false] rfl rfl (any_of HT_.out (by kernel_rfl)) (fun _ _ _ h => h) (Or.inl ⟨by rfl, ?_⟩) ?_ ?_
                                        rotate_left
                                        · intro w'
                                          go_simp
                                          with_reducible rfl
                                        rotate_left
                                        · simp only [Act.put, List.setIfInBounds_toArray, List.set_cons_zero, List.set_cons_succ, i64_w, i32_w]
                                          rfl
                                        refine pure_ (i := 57) (N := some 169) (v := ?_) (a' := ?_) #[true, true, true, true, true, true, true, true, true, true, true, true, true, true, true, true, true, true, true, true, true, true, true, true, true, true, true, true, true, true, true, true, true, true, true, true, true, true, true, true, true, true, true, true, true, true, true, true, true, true, true, true, true, true, true, true, true, true, false, false, false, false, false, false, false, false, false, false, false, false, false, false, false, false, false, false, false, false, false, false, false, false, false, false, false, false, false, false, false, false, false, false, false] rfl rfl (any_of HT_.out (by kernel_rfl)) (fun _ _ _ h => h) (Or.inl ⟨by rfl, ?_⟩) ?_ ?_
                                        rotate_left
                                        · intro w'
                                          go_simp
                                          with_reducible rfl
                                        rotate_left
                                        · simp only [Act.put, List.setIfInBounds_toArray, List.set_cons_zero, List.set_cons_succ, i64_w, i32_w]
                                          rfl
                                        refine pure_ (i := 59) (N := some 171) (v := ?_) (a' := ?_) #[true, true, true, true, true, true, true, true, true, true, true, true, true, true, true, true, true, true, true, true, true, true, true, true, true, true, true, true, true, true, true, true, true, true, true, true, true, true, true, true, true, true, true, true, true, true, true, true, true, true, true, true, true, true, true, true, true, true, false, true, false, false, false, false, false, false, false, false, false, false, false, false, false, false, false, false, false, false, false, false, false, false, false, false, false, false, false, false, false, false, false, false, false] rfl rfl (any_of HT_.out (by kernel_rfl)) (fun _ _ _ h => h) (Or.inl ⟨by rfl, ?_⟩) ?_ ?_
                                        rotate_left
                                        · intro w'
                                          go_simp
                                          with_reducible rfl
                                        rotate_left
                                        · simp only [Act.put, List.setIfInBounds_toArray, List.set_cons_zero, List.set_cons_succ, i64_w, i32_w]
                                          rfl
                                        refine pure_ (i := 60) (N := some 172) (v := ?_) (a' := ?_) #[true, true, true, true, true, true, true, true, true, true, true, true, true, true, true, true, true, true, true, true, true, true, true, true, true, true, true, true, true, true, true, true, true, true, true, true, true, true, true, true, true, true, true, true, true, true, true, true, true, true, true, true, true, true, true, true, true, true, false, true, true, false, false, false, false, false, false, false, false, false, false, false, false, false, false, false, false, false, false, false, false, false, false, false, false, false, false, false, false, false, false, false, false] rfl rfl (any_of HT_.out (by kernel_rfl)) (fun _ _ _ h => h) (Or.inl ⟨by rfl, ?_⟩) ?_ ?_
                                        rotate_left
                                        · intro w'
                                          go_simp
                                          with_reducible rfl
                                        rotate_left
                                        · simp only [Act.put, List.setIfInBounds_toArray, List.set_cons_zero, List.set_cons_succ, i64_w, i32_w]
                                          rfl
                                        refine pure_ (i := 61) (N := some 173) (v := ?_) (a' := ?_) #[true, true, true, true, true, true, true, true, true, true, true, true, true, true, true, true, true, true, true, true, true, true, true, true, true, true, true, true, true, true, true, true, true, true, true, true, true, true, true, true, true, true, true, true, true, true, true, true, true, true, true, true, true, true, true, true, true, true, false, true, true, true, false, false, false, false, false, false, false, false, false, false, false, false, false, false, false, false, false, false, false, false, false, false, false, false, false, false, false, false, false, false, false] rfl rfl (any_of HT_.out (by kernel_rfl)) (fun _ _ _ h => h) (Or.inl ⟨by rfl, ?_⟩) ?_ ?_
                                        rotate_left
                                        · intro w'
                                          go_simp
                                          with_reducible rfl
                                        rotate_left
                                        · simp only [Act.put, List.setIfInBounds_toArray, List.set_cons_zero, List.set_cons_succ, i64_w, i32_w]
                                          rfl
                                        refine pure_ (i := 64) (N := some 176) (v := ?_) (a' := ?_) #[true, true, true, true, true, true, true, true, true, true, true, true, true, true, true, true, true, true, true, true, true, true, true, true, true, true, true, true, true, true, true, true, true, true, true, true, true, true, true, true, true, true, true, true, true, true, true, true, true, true, true, true, true, true, true, true, true, true, false, true, true, true, false, false, true, false, false, false, false, false, false, false, false, false, false, false, false, false, false, false, false, false, false, false, false, false, false, false, false, false, false, false, false] rfl rfl (any_of HT_.out (by kernel_rfl)) (fun _ _ _ h => h) (Or.inl ⟨by rfl, ?_⟩) ?_ ?_
                                        rotate_left
                                        · intro w'
                                          go_simp
                                          with_reducible rfl
                                        rotate_left
                                        · simp only [Act.put, List.setIfInBounds_toArray, List.set_cons_zero, List.set_cons_succ, i64_w, i32_w]
                                          rfl
                                        refine take_ (i := 58) (N := some 170) (v := ?_) (a' := ?_) #[true, true, true, true, true, true, true, true, true, true, true, true, true, true, true, true, true, true, true, true, true, true, true, true, true, true, true, true, true, true, true, true, true, true, true, true, true, true, true, true, true, true, true, true, true, true, true, true, true, true, true, true, true, true, true, true, true, true, true, true, true, true, false, false, true, false, false, false, false, false, false, false, false, false, false, false, false, false, false, false, false, false, false, false, false, false, false, false, false, false, false, false, false] rfl rfl (take_ofW HT_.out HW_.out (by kernel_rfl)) (fun _ _ _ h => h) (Or.inl ⟨by rfl, ?_⟩) hHeld ?_ ?_
                                        rotate_left
                                        · rintro w' ⟨s0, s1, s2, s3, s4, s5, s6, s7, s8, s9, s10, s11, s12, s13, s14, s15, s16, s17, s18, s19, s20, s21⟩
                                          go_simp
                                          with_reducible rfl
                                        rotate_left
                                        · simp only [Act.put, List.setIfInBounds_toArray, List.set_cons_zero, List.set_cons_succ, i64_w, i32_w]
                                          rfl
                                        refine take_ (i := 62) (N := some 174) (v := ?_) (a' := ?_) #[true, true, true, true, true, true, true, true, true, true, true, true, true, true, true, true, true, true, true, true, true, true, true, true, true, true, true, true, true, true, true, true, true, true, true, true, true, true, true, true, true, true, true, true, true, true, true, true, true, true, true, true, true, true, true, true, true, true, true, true, true, true, true, false, true, false, false, false, false, false, false, false, false, false, false, false, false, false, false, false, false, false, false, false, false, false, false, false, false, false, false, false, false] rfl rfl (take_ofW HT_.out HW_.out (by kernel_rfl)) (fun _ _ _ h => h) (Or.inl ⟨by rfl, ?_⟩) hHeld ?_ ?_
                                        rotate_left
                                        · rintro w' ⟨s0, s1, s2, s3, s4, s5, s6, s7, s8, s9, s10, s11, s12, s13, s14, s15, s16, s17, s18, s19, s20, s21⟩
                                          go_simp
                                          with_reducible rfl
                                        rotate_left
                                        · simp only [Act.put, List.setIfInBounds_toArray, List.set_cons_zero, List.set_cons_succ, i64_w, i32_w]
                                          rfl
                                        refine pure_ (i := 63) (N := some 175) (v := ?_) (a' := ?_) #[true, true, true, true, true, true, true, true, true, true, true, true, true, true, true, true, true, true, true, true, true, true, true, true, true, true, true, true, true, true, true, true, true, true, true, true, true, true, true, true, true, true, true, true, true, true, true, true, true, true, true, true, true, true, true, true, true, true, true, true, true, true, true, true, true, false, false, false, false, false, false, false, false, false, false, false, false, false, false, false, false, false, false, false, false, false, false, false, false, false, false, false, false] rfl rfl (any_of HT_.out (by kernel_rfl)) (fun _ _ _ h => h) (Or.inl ⟨by rfl, ?_⟩) ?_ ?_
                                        rotate_left
                                        · intro w'
                                          go_simp
                                          with_reducible rfl
                                        rotate_left
                                        · simp only [Act.put, List.setIfInBounds_toArray, List.set_cons_zero, List.set_cons_succ, i64_w, i32_w]
                                          rfl
                                        refine take_ (i := 65) (N := some 177) (v := ?_) (a' := ?_) #[true, true, true, true, true, true, true, true, true, true, true, true, true, true, true, true, true, true, true, true, true, true, true, true, true, true, true, true, true, true, true, true, true, true, true, true, true, true, true, true, true, true, true, true, true, true, true, true, true, true, true, true, true, true, true, true, true, true, true, true, true, true, true, true, true, true, false, false, false, false, false, false, false, false, false, false, false, false, false, false, false, false, false, false, false, false, false, false, false, false, false, false, false] rfl rfl (take_ofW HT_.out HW_.out (by kernel_rfl)) (fun _ _ _ h => h) (Or.inl ⟨by rfl, ?_⟩) hHeld ?_ ?_
                                        rotate_left
                                        · rintro w' ⟨s0, s1, s2, s3, s4, s5, s6, s7, s8, s9, s10, s11, s12, s13, s14, s15, s16, s17, s18, s19, s20, s21⟩
                                          go_simp
                                          with_reducible rfl
                                        rotate_left
                                        · simp only [Act.put, List.setIfInBounds_toArray, List.set_cons_zero, List.set_cons_succ, i64_w, i32_w]
                                          rfl
                                        refine pure_ (i := 66) (N := some 178) (v := ?_) (a' := ?_) #[true, true, true, true, true, true, true, true, true, true, true, true, true, true, true, true, true, true, true, true, true, true, true, true, true, true, true, true, true, true, true, true, true, true, true, true, true, true, true, true, true, true, true, true, true, true, true, true, true, true, true, true, true, true, true, true, true, true, true, true, true, true, true, true, true, true, true, false, false, false, false, false, false, false, false, false, false, false, false, false, false, false, false, false, false, false, false, false, false, false, false, false, false] rfl rfl (any_of HT_.out (by kernel_rfl)) (fun _ _ _ h => h) (Or.inl ⟨by rfl, ?_⟩) ?_ ?_
                                        rotate_left
                                        · intro w'
                                          go_simp
                                          with_reducible rfl
                                        rotate_left
                                        · simp only [Act.put, List.setIfInBounds_toArray, List.set_cons_zero, List.set_cons_succ, i64_w, i32_w]
                                          rfl
                                        refine pure_ (i := 67) (N := some 179) (v := ?_) (a' := ?_) #[true, true, true, true, true, true, true, true, true, true, true, true, true, true, true, true, true, true, true, true, true, true, true, true, true, true, true, true, true, true, true, true, true, true, true, true, true, true, true, true, true, true, true, true, true, true, true, true, true, true, true, true, true, true, true, true, true, true, true, true, true, true, true, true, true, true, true, true, false, false, false, false, false, false, false, false, false, false, false, false, false, false, false, false, false, false, false, false, false, false, false, false, false] rfl rfl (any_of HT_.out (by kernel_rfl)) (fun _ _ _ h => h) (Or.inl ⟨by rfl, ?_⟩) ?_ ?_
                                        rotate_left
                                        · intro w'
                                          go_simp
                                          with_reducible rfl
                                        rotate_left
                                        · simp only [Act.put, List.setIfInBounds_toArray, List.set_cons_zero, List.set_cons_succ, i64_w, i32_w]
                                          rfl
                                        refine pure_ (i := 68) (N := some 180) (v := ?_) (a' := ?_) #[true, true, true, true, true, true, true, true, true, true, true, true, true, true, true, true, true, true, true, true, true, true, true, true, true, true, true, true, true, true, true, true, true, true, true, true, true, true, true, true, true, true, true, true, true, true, true, true, true, true, true, true, true, true, true, true, true, true, true, true, true, true, true, true, true, true, true, true, true, false, false, false, false, false, false, false, false, false, false, false, false, false, false, false, false, false, false, false, false, false, false, false, false] rfl rfl (any_of HT_.out (by kernel_rfl)) (fun _ _ _ h => h) (Or.inl ⟨by rfl, ?_⟩) ?_ ?_
                                        rotate_left
                                        · intro w'
                                          go_simp
                                          with_reducible rfl
                                        rotate_left
                                        · simp only [Act.put, List.setIfInBounds_toArray, List.set_cons_zero, List.set_cons_succ, i64_w, i32_w]
                                          rfl
                                        refine pure_ (i := 69) (N := some 181) (v := ?_) (a' := ?_) #[true, true, true, true, true, true, true, true, true, true, true, true, true, true, true, true, true, true, true, true, true, true, true, true, true, true, true, true, true, true, true, true, true, true, true, true, true, true, true, true, true, true, true, true, true, true, true, true, true, true, true, true, true, true, true, true, true, true, true, true, true, true, true, true, true, true, true, true, true, true, false, false, false, false, false, false, false, false, false, false, false, false, false, false, false, false, false, false, false, false, false, false, false] rfl rfl (any_of HT_.out (by kernel_rfl)) (fun _ _ _ h => h) (Or.inl ⟨by rfl, ?_⟩) ?_ ?_
                                        rotate_left
                                        · intro w'
                                          go_simp
                                          with_reducible rfl
                                        rotate_left
                                        · simp only [Act.put, List.setIfInBounds_toArray, List.set_cons_zero, List.set_cons_succ, i64_w, i32_w]
                                          rfl
                                        refine pure_ (i := 70) (N := some 182) (v := ?_) (a' := ?_) #[true, true, true, true, true, true, true, true, true, true, true, true, true, true, true, true, true, true, true, true, true, true, true, true, true, true, true, true, true, true, true, true, true, true, true, true, true, true, true, true, true, true, true, true, true, true, true, true, true, true, true, true, true, true, true, true, true, true, true, true, true, true, true, true, true, true, true, true, true, true, true, false, false, false, false, false, false, false, false, false, false, false, false, false, false, false, false, false, false, false, false, false, false] rfl rfl (any_of HT_.out (by kernel_rfl)) (fun _ _ _ h => h) (Or.inl ⟨by rfl, ?_⟩) ?_ ?_
                                        rotate_left
                                        · intro w'
                                          go_simp
                                          with_reducible rfl
                                        rotate_left
                                        · simp only [Act.put, List.setIfInBounds_toArray, List.set_cons_zero, List.set_cons_succ, i64_w, i32_w]
                                          rfl
                                        refine pure_ (i := 71) (N := some 183) (v := ?_) (a' := ?_) #[true, true, true, true, true, true, true, true, true, true, true, true, true, true, true, true, true, true, true, true, true, true, true, true, true, true, true, true, true, true, true, true, true, true, true, true, true, true, true, true, true, true, true, true, true, true, true, true, true, true, true, true, true, true, true, true, true, true, true, true, true, true, true, true, true, true, true, true, true, true, true, true, false, false, false, false, false, false, false, false, false, false, false, false, false, false, false, false, false, false, false, false, false] rfl rfl (any_of HT_.out (by kernel_rfl)) (fun _ _ _ h => h) (Or.inl ⟨by rfl, ?_⟩) ?_ ?_
                                        rotate_left
                                        · intro w'
                                          go_simp
                                          with_reducible rfl
                                        rotate_left
                                        · simp only [Act.put, List.setIfInBounds_toArray, List.set_cons_zero, List.set_cons_succ, i64_w, i32_w]
                                          rfl
                                        refine pure_ (i := 72) (N := some 184) (v := ?_) (a' := ?_) #[true, true, true, true, true, true, true, true, true, true, true, true, true, true, true, true, true, true, true, true, true, true, true, true, true, true, true, true, true, true, true, true, true, true, true, true, true, true, true, true, true, true, true, true, true, true, true, true, true, true, true, true, true, true, true, true, true, true, true, true, true, true, true, true, true, true, true, true, true, true, true, true, true, false, false, false, false, false, false, false, false, false, false, false, false, false, false, false, false, false, false, false, false] rfl rfl (any_of HT_.out (by kernel_rfl)) (fun _ _ _ h => h) (Or.inl ⟨by rfl, ?_⟩) ?_ ?_
                                        rotate_left
                                        · intro w'
                                          go_simp
                                          with_reducible rfl
                                        rotate_left
                                        · simp only [Act.put, List.setIfInBounds_toArray, List.set_cons_zero, List.set_cons_succ, i64_w, i32_w]
                                          rfl
                                        refine pure_ (i := 74) (N := some 186) (v := ?_) (a' := ?_) #[true, true, true, true, true, true, true, true, true, true, true, true, true, true, true, true, true, true, true, true, true, true, true, true, true, true, true, true, true, true, true, true, true, true, true, true, true, true, true, true, true, true, true, true, true, true, true, true, true, true, true, true, true, true, true, true, true, true, true, true, true, true, true, true, true, true, true, true, true, true, true, true, true, false, true, false, false, false, false, false, false, false, false, false, false, false, false, false, false, false, false, false, false] rfl rfl (any_of HT_.out (by kernel_rfl)) (fun _ _ _ h => h) (Or.inl ⟨by rfl, ?_⟩) ?_ ?_
                                        rotate_left
                                        · intro w'
                                          go_simp
                                          with_reducible rfl
                                        rotate_left
                                        · simp only [Act.put, List.setIfInBounds_toArray, List.set_cons_zero, List.set_cons_succ, i64_w, i32_w]
                                          rfl
                                        refine pure_ (i := 75) (N := some 187) (v := ?_) (a' := ?_) #[true, true, true, true, true, true, true, true, true, true, true, true, true, true, true, true, true, true, true, true, true, true, true, true, true, true, true, true, true, true, true, true, true, true, true, true, true, true, true, true, true, true, true, true, true, true, true, true, true, true, true, true, true, true, true, true, true, true, true, true, true, true, true, true, true, true, true, true, true, true, true, true, true, false, true, true, false, false, false, false, false, false, false, false, false, false, false, false, false, false, false, false, false] rfl rfl (any_of HT_.out (by kernel_rfl)) (fun _ _ _ h => h) (Or.inl ⟨by rfl, ?_⟩) ?_ ?_
                                        rotate_left
                                        · intro w'
                                          go_simp
                                          with_reducible rfl
                                        rotate_left
                                        · simp only [Act.put, List.setIfInBounds_toArray, List.set_cons_zero, List.set_cons_succ, i64_w, i32_w]
                                          rfl
                                        refine pure_ (i := 76) (N := some 188) (v := ?_) (a' := ?_) #[true, true, true, true, true, true, true, true, true, true, true, true, true, true, true, true, true, true, true, true, true, true, true, true, true, true, true, true, true, true, true, true, true, true, true, true, true, true, true, true, true, true, true, true, true, true, true, true, true, true, true, true, true, true, true, true, true, true, true, true, true, true, true, true, true, true, true, true, true, true, true, true, true, false, true, true, true, false, false, false, false, false, false, false, false, false, false, false, false, false, false, false, false] rfl rfl (any_of HT_.out (by kernel_rfl)) (fun _ _ _ h => h) (Or.inl ⟨by rfl, ?_⟩) ?_ ?_
                                        rotate_left
                                        · intro w'
                                          go_simp
                                          with_reducible rfl
                                        rotate_left
                                        · simp only [Act.put, List.setIfInBounds_toArray, List.set_cons_zero, List.set_cons_succ, i64_w, i32_w]
                                          rfl
                                        refine pure_ (i := 79) (N := some 191) (v := ?_) (a' := ?_) #[true, true, true, true, true, true, true, true, true, true, true, true, true, true, true, true, true, true, true, true, true, true, true, true, true, true, true, true, true, true, true, true, true, true, true, true, true, true, true, true, true, true, true, true, true, true, true, true, true, true, true, true, true, true, true, true, true, true, true, true, true, true, true, true, true, true, true, true, true, true, true, true, true, false, true, true, true, false, false, true, false, false, false, false, false, false, false, false, false, false, false, false, false] rfl rfl (any_of HT_.out (by kernel_rfl)) (fun _ _ _ h => h) (Or.inl ⟨by rfl, ?_⟩) ?_ ?_
                                        rotate_left
                                        · intro w'
                                          go_simp
                                          with_reducible rfl
                                        rotate_left
                                        · simp only [Act.put, List.setIfInBounds_toArray, List.set_cons_zero, List.set_cons_succ, i64_w, i32_w]
                                          rfl
                                        refine take_ (i := 73) (N := some 185) (v := ?_) (a' := ?_) #[true, true, true, true, true, true, true, true, true, true, true, true, true, true, true, true, true, true, true, true, true, true, true, true, true, true, true, true, true, true, true, true, true, true, true, true, true, true, true, true, true, true, true, true, true, true, true, true, true, true, true, true, true, true, true, true, true, true, true, true, true, true, true, true, true, true, true, true, true, true, true, true, true, true, true, true, true, false, false, true, false, false, false, false, false, false, false, false, false, false, false, false, false] rfl rfl (take_ofW HT_.out HW_.out (by kernel_rfl)) (fun _ _ _ h => h) (Or.inl ⟨by rfl, ?_⟩) hHeld ?_ ?_
                                        rotate_left
                                        · rintro w' ⟨s0, s1, s2, s3, s4, s5, s6, s7, s8, s9, s10, s11, s12, s13, s14, s15, s16, s17, s18, s19, s20, s21⟩
                                          go_simp
                                          with_reducible rfl
                                        rotate_left
                                        · simp only [Act.put, List.setIfInBounds_toArray, List.set_cons_zero, List.set_cons_succ, i64_w, i32_w]
                                          rfl
                                        refine take_ (i := 77) (N := some 189) (v := ?_) (a' := ?_) #[true, true, true, true, true, true, true, true, true, true, true, true, true, true, true, true, true, true, true, true, true, true, true, true, true, true, true, true, true, true, true, true, true, true, true, true, true, true, true, true, true, true, true, true, true, true, true, true, true, true, true, true, true, true, true, true, true, true, true, true, true, true, true, true, true, true, true, true, true, true, true, true, true, true, true, true, true, true, false, true, false, false, false, false, false, false, false, false, false, false, false, false, false] rfl rfl (take_ofW HT_.out HW_.out (by kernel_rfl)) (fun _ _ _ h => h) (Or.inl ⟨by rfl, ?_⟩) hHeld ?_ ?_
                                        rotate_left
                                        · rintro w' ⟨s0, s1, s2, s3, s4, s5, s6, s7, s8, s9, s10, s11, s12, s13, s14, s15, s16, s17, s18, s19, s20, s21⟩
                                          go_simp
                                          with_reducible rfl
                                        rotate_left
                                        · simp only [Act.put, List.setIfInBounds_toArray, List.set_cons_zero, List.set_cons_succ, i64_w, i32_w]
                                          rfl
                                        refine pure_ (i := 78) (N := some 190) (v := ?_) (a' := ?_) #[true, true, true, true, true, true, true, true, true, true, true, true, true, true, true, true, true, true, true, true, true, true, true, true, true, true, true, true, true, true, true, true, true, true, true, true, true, true, true, true, true, true, true, true, true, true, true, true, true, true, true, true, true, true, true, true, true, true, true, true, true, true, true, true, true, true, true, true, true, true, true, true, true, true, true, true, true, true, true, true, false, false, false, false, false, false, false, false, false, false, false, false, false] rfl rfl (any_of HT_.out (by kernel_rfl)) (fun _ _ _ h => h) (Or.inl ⟨by rfl, ?_⟩) ?_ ?_
                                        rotate_left
                                        · intro w'
                                          go_simp
                                          with_reducible rfl
                                        rotate_left
                                        · simp only [Act.put, List.setIfInBounds_toArray, List.set_cons_zero, List.set_cons_succ, i64_w, i32_w]
                                          rfl
                                        refine take_ (i := 80) (N := some 192) (v := ?_) (a' := ?_) #[true, true, true, true, true, true, true, true, true, true, true, true, true, true, true, true, true, true, true, true, true, true, true, true, true, true, true, true, true, true, true, true, true, true, true, true, true, true, true, true, true, true, true, true, true, true, true, true, true, true, true, true, true, true, true, true, true, true, true, true, true, true, true, true, true, true, true, true, true, true, true, true, true, true, true, true, true, true, true, true, true, false, false, false, false, false, false, false, false, false, false, false, false] rfl rfl (take_ofW HT_.out HW_.out (by kernel_rfl)) (fun _ _ _ h => h) (Or.inl ⟨by rfl, ?_⟩) hHeld ?_ ?_
                                        rotate_left
                                        · rintro w' ⟨s0, s1, s2, s3, s4, s5, s6, s7, s8, s9, s10, s11, s12, s13, s14, s15, s16, s17, s18, s19, s20, s21⟩
                                          go_simp
                                          with_reducible rfl
                                        rotate_left
                                        · simp only [Act.put, List.setIfInBounds_toArray, List.set_cons_zero, List.set_cons_succ, i64_w, i32_w]
                                          rfl
                                        refine pure_ (i := 81) (N := some 193) (v := ?_) (a' := ?_) #[true, true, true, true, true, true, true, true, true, true, true, true, true, true, true, true, true, true, true, true, true, true, true, true, true, true, true, true, true, true, true, true, true, true, true, true, true, true, true, true, true, true, true, true, true, true, true, true, true, true, true, true, true, true, true, true, true, true, true, true, true, true, true, true, true, true, true, true, true, true, true, true, true, true, true, true, true, true, true, true, true, true, false, false, false, false, false, false, false, false, false, false, false] rfl rfl (any_of HT_.out (by kernel_rfl)) (fun _ _ _ h => h) (Or.inl ⟨by rfl, ?_⟩) ?_ ?_
                                        rotate_left
                                        · intro w'
                                          go_simp
                                          with_reducible rfl
                                        rotate_left
                                        · simp only [Act.put, List.setIfInBounds_toArray, List.set_cons_zero, List.set_cons_succ, i64_w, i32_w]
                                          rfl
                                        refine pure_ (i := 82) (N := some 194) (v := ?_) (a' := ?_) #[true, true, true, true, true, true, true, true, true, true, true, true, true, true, true, true, true, true, true, true, true, true, true, true, true, true, true, true, true, true, true, true, true, true, true, true, true, true, true, true, true, true, true, true, true, true, true, true, true, true, true, true, true, true, true, true, true, true, true, true, true, true, true, true, true, true, true, true, true, true, true, true, true, true, true, true, true, true, true, true, true, true, true, false, false, false, false, false, false, false, false, false, false] rfl rfl (any_of HT_.out (by kernel_rfl)) (fun _ _ _ h => h) (Or.inl ⟨by rfl, ?_⟩) ?_ ?_
                                        rotate_left
                                        · intro w'
                                          go_simp
                                          with_reducible rfl
                                        rotate_left
                                        · simp only [Act.put, List.setIfInBounds_toArray, List.set_cons_zero, List.set_cons_succ, i64_w, i32_w]
                                          rfl
                                        refine pure_ (i := 83) (N := some 195) (v := ?_) (a' := ?_) #[true, true, true, true, true, true, true, true, true, true, true, true, true, true, true, true, true, true, true, true, true, true, true, true, true, true, true, true, true, true, true, true, true, true, true, true, true, true, true, true, true, true, true, true, true, true, true, true, true, true, true, true, true, true, true, true, true, true, true, true, true, true, true, true, true, true, true, true, true, true, true, true, true, true, true, true, true, true, true, true, true, true, true, true, false, false, false, false, false, false, false, false, false] rfl rfl (any_of HT_.out (by kernel_rfl)) (fun _ _ _ h => h) (Or.inl ⟨by rfl, ?_⟩) ?_ ?_
                                        rotate_left
                                        · intro w'
                                          go_simp
                                          with_reducible rfl
                                        rotate_left
                                        · simp only [Act.put, List.setIfInBounds_toArray, List.set_cons_zero, List.set_cons_succ, i64_w, i32_w]
                                          rfl
                                        refine pure_ (i := 84) (N := some 196) (v := ?_) (a' := ?_) #[true, true, true, true, true, true, true, true, true, true, true, true, true, true, true, true, true, true, true, true, true, true, true, true, true, true, true, true, true, true, true, true, true, true, true, true, true, true, true, true, true, true, true, true, true, true, true, true, true, true, true, true, true, true, true, true, true, true, true, true, true, true, true, true, true, true, true, true, true, true, true, true, true, true, true, true, true, true, true, true, true, true, true, true, true, false, false, false, false, false, false, false, false] rfl rfl (any_of HT_.out (by kernel_rfl)) (fun _ _ _ h => h) (Or.inl ⟨by rfl, ?_⟩) ?_ ?_
                                        rotate_left
                                        · intro w'
                                          go_simp
                                          with_reducible rfl
                                        rotate_left
                                        · simp only [Act.put, List.setIfInBounds_toArray, List.set_cons_zero, List.set_cons_succ, i64_w, i32_w]
                                          rfl
                                        refine pure_ (i := 85) (N := some 197) (v := ?_) (a' := ?_) #[true, true, true, true, true, true, true, true, true, true, true, true, true, true, true, true, true, true, true, true, true, true, true, true, true, true, true, true, true, true, true, true, true, true, true, true, true, true, true, true, true, true, true, true, true, true, true, true, true, true, true, true, true, true, true, true, true, true, true, true, true, true, true, true, true, true, true, true, true, true, true, true, true, true, true, true, true, true, true, true, true, true, true, true, true, true, false, false, false, false, false, false, false] rfl rfl (any_of HT_.out (by kernel_rfl)) (fun _ _ _ h => h) (Or.inl ⟨by rfl, ?_⟩) ?_ ?_
                                        rotate_left
                                        · intro w'
                                          go_simp
                                          with_reducible rfl
                                        rotate_left
                                        · simp only [Act.put, List.setIfInBounds_toArray, List.set_cons_zero, List.set_cons_succ, i64_w, i32_w]
                                          rfl
                                        refine pure_ (i := 88) (N := some 200) (v := ?_) (a' := ?_) #[true, true, true, true, true, true, true, true, true, true, true, true, true, true, true, true, true, true, true, true, true, true, true, true, true, true, true, true, true, true, true, true, true, true, true, true, true, true, true, true, true, true, true, true, true, true, true, true, true, true, true, true, true, true, true, true, true, true, true, true, true, true, true, true, true, true, true, true, true, true, true, true, true, true, true, true, true, true, true, true, true, true, true, true, true, true, false, false, true, false, false, false, false] rfl rfl (any_of HT_.out (by kernel_rfl)) (fun _ _ _ h => h) (Or.inl ⟨by rfl, ?_⟩) ?_ ?_
                                        rotate_left
                                        · intro w'
                                          go_simp
                                          with_reducible rfl
                                        rotate_left
                                        · simp only [Act.put, List.setIfInBounds_toArray, List.set_cons_zero, List.set_cons_succ, i64_w, i32_w]
                                          rfl
                                        refine take_ (i := 86) (N := some 198) (v := ?_) (a' := ?_) #[true, true, true, true, true, true, true, true, true, true, true, true, true, true, true, true, true, true, true, true, true, true, true, true, true, true, true, true, true, true, true, true, true, true, true, true, true, true, true, true, true, true, true, true, true, true, true, true, true, true, true, true, true, true, true, true, true, true, true, true, true, true, true, true, true, true, true, true, true, true, true, true, true, true, true, true, true, true, true, true, true, true, true, true, true, true, true, false, true, false, false, false, false] rfl rfl (take_ofW HT_.out HW_.out (by kernel_rfl)) (fun _ _ _ h => h) (Or.inl ⟨by rfl, ?_⟩) hHeld ?_ ?_
                                        rotate_left
                                        · rintro w' ⟨s0, s1, s2, s3, s4, s5, s6, s7, s8, s9, s10, s11, s12, s13, s14, s15, s16, s17, s18, s19, s20, s21⟩
                                          go_simp
                                          with_reducible rfl
                                        rotate_left
                                        · simp only [Act.put, List.setIfInBounds_toArray, List.set_cons_zero, List.set_cons_succ, i64_w, i32_w]
                                          rfl
                                        refine take_ (i := 87) (N := some 199) (v := ?_) (a' := ?_) #[true, true, true, true, true, true, true, true, true, true, true, true, true, true, true, true, true, true, true, true, true, true, true, true, true, true, true, true, true, true, true, true, true, true, true, true, true, true, true, true, true, true, true, true, true, true, true, true, true, true, true, true, true, true, true, true, true, true, true, true, true, true, true, true, true, true, true, true, true, true, true, true, true, true, true, true, true, true, true, true, true, true, true, true, true, true, true, true, true, false, false, false, false] rfl rfl (take_ofW HT_.out HW_.out (by kernel_rfl)) (fun _ _ _ h => h) (Or.inl ⟨by rfl, ?_⟩) hHeld ?_ ?_
                                        rotate_left
                                        · rintro w' ⟨s0, s1, s2, s3, s4, s5, s6, s7, s8, s9, s10, s11, s12, s13, s14, s15, s16, s17, s18, s19, s20, s21⟩
                                          go_simp
                                          with_reducible rfl
                                        rotate_left
                                        · simp only [Act.put, List.setIfInBounds_toArray, List.set_cons_zero, List.set_cons_succ, i64_w, i32_w]
                                          rfl
                                        refine one_ (i := 89) (N := some 201) #[true, true, true, true, true, true, true, true, true, true, true, true, true, true, true, true, true, true, true, true, true, true, true, true, true, true, true, true, true, true, true, true, true, true, true, true, true, true, true, true, true, true, true, true, true, true, true, true, true, true, true, true, true, true, true, true, true, true, true, true, true, true, true, true, true, true, true, true, true, true, true, true, true, true, true, true, true, true, true, true, true, true, true, true, true, true, true, true, true, true, false, false, false] rfl rfl (one_of HT_.out (by kernel_rfl)) (by decide) (fun K hK => ?_)
                                        refine goes_ Try.func57 (by kernel_rfl) rfl #[.agg #[.int .i64 ((rd_T45 t223 0).f0), .int .i64 ((rd_T45 t223 0).f1)], .agg #[.int .i64 ((rd_T45 t223 1).f0), .int .i64 ((rd_T45 t223 1).f1)], .int .i64 (wrap64 (1 + (Int.tmod (rd t230 0) 2000)))] (by rfl) rfl rfl (by (try simp only [List.map_toArray, List.map_cons, List.map_nil]); first | done | rfl | (simp only [List.length_drop, List.length_take]; rfl)) ?_
                                        with_reducible refine (spec_QuadOf.calls kj11 ((rd_T45 t223 0).f0) ((rd_T45 t223 0).f1) ((rd_T45 t223 1).f0) ((rd_T45 t223 1).f1) (wrap64 (1 + (Int.tmod (rd t230 0) 2000))) t255 _ A71.out).mono ?_
                                        rintro e w78 ⟨v256, rfl, ho0, hb⟩
                                        have HS6_ := (hb.cell (World.block_lt_of_cell? _ _ (hHeld.2.2.2.2.2.2.1))).trans (hHeld.2.2.2.2.2.2.1)
                                        have HS7_ := (hb.cell (World.block_lt_of_cell? _ _ (hHeld.2.2.2.2.2.2.2.1))).trans (hHeld.2.2.2.2.2.2.2.1)
                                        have HS8_ := (hb.cell (World.block_lt_of_cell? _ _ (hHeld.2.2.2.2.2.2.2.2.1))).trans (hHeld.2.2.2.2.2.2.2.2.1)
                                        have HS9_ := (hb.cell (World.block_lt_of_cell? _ _ (hHeld.2.2.2.2.2.2.2.2.2.1))).trans (hHeld.2.2.2.2.2.2.2.2.2.1)
                                        have HS10_ := (hb.cell (World.block_lt_of_cell? _ _ (hHeld.2.2.2.2.2.2.2.2.2.2.1))).trans (hHeld.2.2.2.2.2.2.2.2.2.2.1)
                                        have HS11_ := (hb.cell (World.block_lt_of_cell? _ _ (hHeld.2.2.2.2.2.2.2.2.2.2.2.1))).trans (hHeld.2.2.2.2.2.2.2.2.2.2.2.1)
                                        have HS12_ := (hb.cell (World.block_lt_of_cell? _ _ (hHeld.2.2.2.2.2.2.2.2.2.2.2.2.1))).trans (hHeld.2.2.2.2.2.2.2.2.2.2.2.2.1)
                                        have HS13_ := (hb.cell (World.block_lt_of_cell? _ _ (hHeld.2.2.2.2.2.2.2.2.2.2.2.2.2.1))).trans (hHeld.2.2.2.2.2.2.2.2.2.2.2.2.2.1)
                                        have HS14_ := (hb.cell (World.block_lt_of_cell? _ _ (hHeld.2.2.2.2.2.2.2.2.2.2.2.2.2.2.1))).trans (hHeld.2.2.2.2.2.2.2.2.2.2.2.2.2.2.1)
                                        have HS15_ := (hb.cell (World.block_lt_of_cell? _ _ (hHeld.2.2.2.2.2.2.2.2.2.2.2.2.2.2.2.1))).trans (hHeld.2.2.2.2.2.2.2.2.2.2.2.2.2.2.2.1)
                                        have HS16_ := (hb.cell (World.block_lt_of_cell? _ _ (hHeld.2.2.2.2.2.2.2.2.2.2.2.2.2.2.2.2.1))).trans (hHeld.2.2.2.2.2.2.2.2.2.2.2.2.2.2.2.2.1)
                                        have HS17_ := (hb.cell (World.block_lt_of_cell? _ _ (hHeld.2.2.2.2.2.2.2.2.2.2.2.2.2.2.2.2.2.1))).trans (hHeld.2.2.2.2.2.2.2.2.2.2.2.2.2.2.2.2.2.1)
                                        have HS18_ := (hb.cell (World.block_lt_of_cell? _ _ (hHeld.2.2.2.2.2.2.2.2.2.2.2.2.2.2.2.2.2.2.1))).trans (hHeld.2.2.2.2.2.2.2.2.2.2.2.2.2.2.2.2.2.2.1)
                                        have HS19_ := (hb.cell (World.block_lt_of_cell? _ _ (hHeld.2.2.2.2.2.2.2.2.2.2.2.2.2.2.2.2.2.2.2.1))).trans (hHeld.2.2.2.2.2.2.2.2.2.2.2.2.2.2.2.2.2.2.2.1)
                                        have HS20_ := (hb.cell (World.block_lt_of_cell? _ _ (hHeld.2.2.2.2.2.2.2.2.2.2.2.2.2.2.2.2.2.2.2.2.1))).trans (hHeld.2.2.2.2.2.2.2.2.2.2.2.2.2.2.2.2.2.2.2.2.1)
                                        have HS21_ := (hb.cell (World.block_lt_of_cell? _ _ (hHeld.2.2.2.2.2.2.2.2.2.2.2.2.2.2.2.2.2.2.2.2.2))).trans (hHeld.2.2.2.2.2.2.2.2.2.2.2.2.2.2.2.2.2.2.2.2.2)
                                        refine ⟨_, rfl, ?_⟩
                                        have n0_ := Aside0.mk (Kd.R_elder' (by (with_reducible repeat (first | apply Kd.R_alloc | apply Kd.R_drewN | apply Kd.R_drew)); exact HO_8.out) (Kd.R_base ho0) hb)
                                        have n1_ := Aside0.mk (Kd.R_lower (Kd.R_newB (Kd.R_newB (Kd.R_newB (Kd.R_new' ho0 (Kd.R_lt (by (with_reducible repeat (first | apply Kd.R_alloc | apply Kd.R_drewN | apply Kd.R_drew)); exact HO_8.out))) (g := gb227) (o := .cells #[.int .i64 ((rd_T45 t223 0).f0), .int .i64 ((rd_T45 t223 0).f1)] 45 (0, 0)) (by (with_reducible repeat (first | refine blk_drewN ?_ _ | refine blk_drew ?_ | refine blk_alloc ?_ _)); exact BK227.out)) (g := gb229) (o := .cells #[.int .i64 ((rd_T45 t223 1).f0), .int .i64 ((rd_T45 t223 1).f1)] 45 (0, 0)) (by (with_reducible repeat (first | refine blk_drewN ?_ _ | refine blk_drew ?_ | refine blk_alloc ?_ _)); exact BK229.out)) (g := gb236) (o := .cells #[.int .i64 t234, .int .i64 t235] 45 (0, 0)) (by (with_reducible repeat (first | refine blk_drewN ?_ _ | refine blk_drew ?_ | refine blk_alloc ?_ _)); exact BK236.out)) (below_size (by repeat (first | (with_reducible first | exact HB.out | apply below_alloc | apply pw_below_drewN | apply below_drew1 | refine below_set ?_ GE227.out | refine below_set ?_ GE229.out | refine below_set ?_ GE236.out) | exact HB.out))))
                                        have n2_ := Aside0.mk (blk_below (g := gb227) (o := .cells #[.int .i64 ((rd_T45 t223 0).f0), .int .i64 ((rd_T45 t223 0).f1)] 45 (0, 0)) (by (with_reducible repeat (first | refine blk_drewN ?_ _ | refine blk_drew ?_ | refine blk_alloc ?_ _)); exact BK227.out) hb)
                                        have n3_ := Aside0.mk (blk_below (g := gb229) (o := .cells #[.int .i64 ((rd_T45 t223 1).f0), .int .i64 ((rd_T45 t223 1).f1)] 45 (0, 0)) (by (with_reducible repeat (first | refine blk_drewN ?_ _ | refine blk_drew ?_ | refine blk_alloc ?_ _)); exact BK229.out) hb)
                                        have n4_ := Aside0.mk (blk_below (g := gb236) (o := .cells #[.int .i64 t234, .int .i64 t235] 45 (0, 0)) (by (with_reducible repeat (first | refine blk_drewN ?_ _ | refine blk_drew ?_ | refine blk_alloc ?_ _)); exact BK236.out) hb)
                                        have n5_ := Aside0.mk (below_step (by repeat (first | (with_reducible first | exact HB.out | apply below_alloc | apply pw_below_drewN | apply below_drew1 | refine below_set ?_ GE227.out | refine below_set ?_ GE229.out | refine below_set ?_ GE236.out) | exact HB.out)) hb)
                                        clear HO_8
                                        clear BK227
                                        clear BK229
                                        clear BK236
                                        clear HB
                                        have HO_8 := n0_
                                        have HO257 := n1_
                                        have BK227 := n2_
                                        have BK229 := n3_
                                        have BK236 := n4_
                                        have HB := n5_
                                        clear n0_ n1_ n2_ n3_ n4_ n5_
                                        (try clear hb)
                                        (try clear hb2)
                                        (try clear hk)
                                        (try clear hi)
                                        (try clear ho0)
                                        obtain ⟨Ao79, co79, eo79⟩ := Kd.R_slice HO257.out
                                        (first | subst eo79 | (injection eo79 with f1_ f2_ f3_; have f4_ := f1_.symm; have f5_ := f3_.symm; clear f1_ f2_ f3_; subst f4_; subst f5_))
                                        refine hK.out _ _ ⟨(blk_cell BK236.out 0).trans rfl, (blk_cell BK236.out 1).trans rfl, (blk_cell BK227.out 0).trans rfl, (blk_cell BK227.out 1).trans rfl, (blk_cell BK229.out 0).trans rfl, (blk_cell BK229.out 1).trans rfl, HS6_, HS7_, HS8_, HS9_, HS10_, HS11_, HS12_, HS13_, HS14_, HS15_, HS16_, HS17_, HS18_, HS19_, HS20_, HS21_⟩ (fun hHeld => ?_)
                                        clear hK K
                                        refine norm_ (a' := ?_) ?_ ?_
                                        rotate_left
                                        · show Act.put _ (some 201) _ = _
                                          simp only [Act.put, List.setIfInBounds_toArray, List.set_cons_zero, List.set_cons_succ, i64_w, i32_w]
                                          rfl
                                        refine one_ (i := 90) (N := some 202) #[true, true, true, true, true, true, true, true, true, true, true, true, true, true, true, true, true, true, true, true, true, true, true, true, true, true, true, true, true, true, true, true, true, true, true, true, true, true, true, true, true, true, true, true, true, true, true, true, true, true, true, true, true, true, true, true, true, true, true, true, true, true, true, true, true, true, true, true, true, true, true, true, true, true, true, true, true, true, true, true, true, true, true, true, true, true, true, true, true, true, true, false, false] rfl rfl (one_of HT_.out (by kernel_rfl)) (by decide) (fun K hK => ?_)
                                        refine goes_ Try.func56 (by kernel_rfl) rfl #[.slice (some ad247) t237.length co77, .slice Ao79 t255.length co79] (by rfl) rfl rfl (by (try simp only [List.map_toArray, List.map_cons, List.map_nil]); first | done | rfl | (simp only [List.length_drop, List.length_take]; rfl)) ?_
                                        with_reducible refine (laws_samePoints.calls kj11 _ _ t237 _ _ t255 t258 _ ?side1 ?side2 ?side3 ?side4 A72.out).mono ?_
                                        (case side1 => repeat (first | exact (Kd.R_reads' HO_8.out).2.2 | (with_reducible refine Kd.C_alloc ?_ _) | (with_reducible refine Kd.C_drewN ?_ _) | (with_reducible refine Kd.C_drew ?_)))
                                        (case side2 => exact (Kd.R_reads' HO_8.out).2.1)
                                        (case side3 => repeat (first | exact (Kd.R_reads' HO257.out).2.2 | (with_reducible refine Kd.C_alloc ?_ _) | (with_reducible refine Kd.C_drewN ?_ _) | (with_reducible refine Kd.C_drew ?_)))
                                        (case side4 => exact (Kd.R_reads' HO257.out).2.1)
                                        rintro e w' ⟨rfl, ⟨nd, rfl⟩⟩
                                        refine ⟨_, rfl, ?_⟩
                                        refine hK.out _ _ ⟨(blk_cell BK236.out 0).trans rfl, (blk_cell BK236.out 1).trans rfl, (blk_cell BK227.out 0).trans rfl, (blk_cell BK227.out 1).trans rfl, (blk_cell BK229.out 0).trans rfl, (blk_cell BK229.out 1).trans rfl, hHeld.2.2.2.2.2.2.1, hHeld.2.2.2.2.2.2.2.1, hHeld.2.2.2.2.2.2.2.2.1, hHeld.2.2.2.2.2.2.2.2.2.1, hHeld.2.2.2.2.2.2.2.2.2.2.1, hHeld.2.2.2.2.2.2.2.2.2.2.2.1, hHeld.2.2.2.2.2.2.2.2.2.2.2.2.1, hHeld.2.2.2.2.2.2.2.2.2.2.2.2.2.1, hHeld.2.2.2.2.2.2.2.2.2.2.2.2.2.2.1, hHeld.2.2.2.2.2.2.2.2.2.2.2.2.2.2.2.1, hHeld.2.2.2.2.2.2.2.2.2.2.2.2.2.2.2.2.1, hHeld.2.2.2.2.2.2.2.2.2.2.2.2.2.2.2.2.2.1, hHeld.2.2.2.2.2.2.2.2.2.2.2.2.2.2.2.2.2.2.1, hHeld.2.2.2.2.2.2.2.2.2.2.2.2.2.2.2.2.2.2.2.1, hHeld.2.2.2.2.2.2.2.2.2.2.2.2.2.2.2.2.2.2.2.2.1, hHeld.2.2.2.2.2.2.2.2.2.2.2.2.2.2.2.2.2.2.2.2.2⟩ (fun hHeld => ?_)
                                        clear hK K
                                        refine norm_ (a' := ?_) ?_ ?_
                                        rotate_left
                                        · show Act.put _ (some 202) _ = _
                                          simp only [Act.put, List.setIfInBounds_toArray, List.set_cons_zero, List.set_cons_succ, i64_w, i32_w]
                                          rfl
                                        refine pure_ (i := 91) (N := some 203) (v := ?_) (a' := ?_) #[true, true, true, true, true, true, true, true, true, true, true, true, true, true, true, true, true, true, true, true, true, true, true, true, true, true, true, true, true, true, true, true, true, true, true, true, true, true, true, true, true, true, true, true, true, true, true, true, true, true, true, true, true, true, true, true, true, true, true, true, true, true, true, true, true, true, true, true, true, true, true, true, true, true, true, true, true, true, true, true, true, true, true, true, true, true, true, true, true, true, true, true, false] rfl rfl (any_of HT_.out (by kernel_rfl)) (fun _ _ _ h => h) (Or.inl ⟨by rfl, ?_⟩) ?_ ?_
                                        rotate_left
                                        · intro w'
                                          go_simp
                                          with_reducible rfl
                                        rotate_left
                                        · simp only [Act.put, List.setIfInBounds_toArray, List.set_cons_zero, List.set_cons_succ, i64_w, i32_w]
                                          rfl
                                        refine pure_ (i := 92) (N := some 2) (v := ?_) (a' := ?_) #[true, true, true, true, true, true, true, true, true, true, true, true, true, true, true, true, true, true, true, true, true, true, true, true, true, true, true, true, true, true, true, true, true, true, true, true, true, true, true, true, true, true, true, true, true, true, true, true, true, true, true, true, true, true, true, true, true, true, true, true, true, true, true, true, true, true, true, true, true, true, true, true, true, true, true, true, true, true, true, true, true, true, true, true, true, true, true, true, true, true, true, true, true] rfl rfl (any_of HT_.out (by kernel_rfl)) (fun _ _ _ h => h) (Or.inl ⟨by rfl, ?_⟩) ?_ ?_
                                        rotate_left
                                        · intro w'
                                          go_simp
                                          with_reducible rfl
                                        rotate_left
                                        · simp only [Act.put, List.setIfInBounds_toArray, List.set_cons_zero, List.set_cons_succ, i64_w, i32_w]
                                          rfl
                                        refine done_ (done_of HT_.out (by kernel_rfl)) ?_
                                        try go_wp2
                                        go_ret
                                        exact ⟨by first | rfl | (simp [errW_none, errW_some] <;> rfl) | (simp [*, errW_none, errW_some] <;> rfl), by repeat (first | (with_reducible first | exact HB.out | apply below_alloc | apply pw_below_drewN | apply below_drew1 | refine below_set ?_ GE227.out | refine below_set ?_ GE229.out | refine below_set ?_ GE236.out) | exact HB.out)⟩
                                      · rw [if_neg c70] at H
                                        have c70b0 : ((wrap64 (((rd_T45 t237 1).f1) + ((rd_T45 t237 2).f1))) == (wrap64 (2 * ((rd_T45 t223 1).f1)))) = false := beq_eq_false_iff_ne.mpr c70
                                        have c70b1 : ((wrap64 (((rd_T45 t237 1).f1) + ((rd_T45 t237 2).f1))) != (wrap64 (2 * ((rd_T45 t223 1).f1)))) = true := bne_iff_ne.mpr c70
                                        obtain rfl := Option.some.inj H
                                        exact absurd hT Bool.false_ne_true
                                    · rw [if_neg c69] at H
                                      have c69b0 : ((wrap64 (((rd_T45 t237 0).f0) + ((rd_T45 t237 3).f0))) == (wrap64 (2 * ((rd_T45 t223 0).f0)))) = false := beq_eq_false_iff_ne.mpr c69
                                      have c69b1 : ((wrap64 (((rd_T45 t237 0).f0) + ((rd_T45 t237 3).f0))) != (wrap64 (2 * ((rd_T45 t223 0).f0)))) = true := bne_iff_ne.mpr c69
                                      obtain rfl := Option.some.inj H
                                      exact absurd hT Bool.false_ne_true
                                  · rw [if_neg c68] at H
                                    have c68b0 : ((wrap64 (((rd_T45 t237 1).f1) - ((rd_T45 t237 2).f1))) == (wrap64 (2 * t235))) = false := beq_eq_false_iff_ne.mpr c68
                                    have c68b1 : ((wrap64 (((rd_T45 t237 1).f1) - ((rd_T45 t237 2).f1))) != (wrap64 (2 * t235))) = true := bne_iff_ne.mpr c68
                                    obtain rfl := Option.some.inj H
                                    exact absurd hT Bool.false_ne_true
                                · rw [if_neg c67] at H
                                  exact absurd H (by simp)
                              · rw [if_neg c66] at H
                                exact absurd H (by simp)
                            · rw [if_neg c65] at H
                              have c65b0 : ((wrap64 (((rd_T45 t237 0).f0) - ((rd_T45 t237 3).f0))) == (wrap64 (2 * t234))) = false := beq_eq_false_iff_ne.mpr c65
                              have c65b1 : ((wrap64 (((rd_T45 t237 0).f0) - ((rd_T45 t237 3).f0))) != (wrap64 (2 * t234))) = true := bne_iff_ne.mpr c65
                              obtain rfl := Option.some.inj H
                              exact absurd hT Bool.false_ne_true
                          · rw [if_neg c64] at H
                            exact absurd H (by simp)
                        · rw [if_neg c63] at H
                          exact absurd H (by simp)
                      · rw [if_neg c62] at H
                        have c62b0 : ((t237.length : Int) == 4) = false := beq_eq_false_iff_ne.mpr c62
                        have c62b1 : ((t237.length : Int) != 4) = true := bne_iff_ne.mpr c62
                        obtain rfl := Option.some.inj H
                        exact absurd hT Bool.false_ne_true
                    · rw [if_neg c61] at H
                      have c61b0 : decide ((wrap64 ((wrap64 (-t245)) - t246)) ≤ (wrap64 ((wrap64 ((wrap64 (((rd_T45 t223 1).f0) - ((rd_T45 t223 0).f0))) * t235)) - (wrap64 ((wrap64 (((rd_T45 t223 1).f1) - ((rd_T45 t223 0).f1))) * t234))))) = false := decide_eq_false c61
                      clear c61
                      obtain rfl := Option.some.inj H
                      exact absurd hT Bool.false_ne_true
                  · rw [if_neg c58] at H
                    have c58b0 : decide ((wrap64 (2 * t242)) ≤ (wrap64 (t243 + t244))) = false := decide_eq_false c58
                    clear c58
                    obtain rfl := Option.some.inj H
                    exact absurd hT Bool.false_ne_true
        · rw [if_neg c8] at H
          exact absurd H (by simp)
      · rw [if_neg c6] at H
        exact absurd H (by simp)
    · rw [if_neg c5] at H
      exact absurd H (by simp)

/-- THE ONE PURE STATEMENT of laws_FnStrokes: yours. -/
def laws_FnStrokes.Pure : Prop := ∀ (l0 : List Int), l0.length ≤ maxLen → l0.length * 1 ≤ 140737488351232 → (∀ x ∈ l0, (Lit.int .u8 x).wf = true) → ∃ k, laws_FnStrokes.f k l0 = some true
theorem laws_FnStrokes.walk (P : laws_FnStrokes.Pure) (a0 : Option Addr) (len0 cap0 : Nat) (z0 : List Int) (w : World) (w0 : (a0 = none ∧ len0 = 0 ∧ cap0 = 0 ∧ z0 = []) ∨ ∃ x, a0 = some x ∧ len0 ≤ cap0 ∧ cap0 ≤ maxLen ∧ z0.length = cap0 ∧ (∀ i, i < z0.length → w.cell? (x.add i) = some (.int .u8 (z0.getD i 0))) ∧ ∀ n ∈ z0, (Lit.int .u8 n).wf = true) (y0 : len0 * 1 ≤ 140737488351232) :
    Calls Try.prog 13 #[.slice a0 len0 cap0] w fun e w' => e = .returned (.bool true) ∧ Below w.heap.size w w' := by
  obtain ⟨l0, rfl, hr0, hm0, hw0, hc0⟩ := ReadsInt.ofRowC w0
  obtain ⟨k, h⟩ := P l0 hm0 y0 hw0
  refine (laws_FnStrokes.calls k _ _ l0 true w (Kd.C_of_reads (d := (0 : Int)) (h1 := fun _ => rfl) hr0) hc0 rfl h).mono ?_
  rintro e w' ⟨rfl, hd⟩
  exact ⟨rfl, hd⟩

end Go.Proofs.Ytkbgcdoeedmaiaa.MFnStrokes
