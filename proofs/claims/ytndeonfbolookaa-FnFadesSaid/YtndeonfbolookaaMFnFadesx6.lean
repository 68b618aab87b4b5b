/- Functions of the program as Lean functions, and the proof that a call comes to just these: machine text of this session's own program (myprint.py). -/
import Derived.Test.YtndeonfbolookaaMFnFadesx0
import Derived.Test.YtndeonfbolookaaMFnFadesx1
import Derived.Test.YtndeonfbolookaaMFnFadesx2
import Derived.Test.YtndeonfbolookaaMFnFadesx3
import Derived.Test.YtndeonfbolookaaMFnFadesx4
import Derived.Test.YtndeonfbolookaaMFnFadesx5
namespace Go.Proofs.Ytndeonfbolookaa.MFnFades
open Go.RowKit Go.Proofs.YtndeonfbolookaaW.PrintWords Go.Proofs.YtndeonfbolookaaW.PrintLast Go.Proofs.YtndeonfbolookaaW.PrintMore
attribute [local go_sem] max2_int min2_int max_two min_two max_three min_three max_four min_four   -- for this text's walks alone
set_option linter.unusedVariables false
set_option linter.unusedSimpArgs false

attribute [local go_sem high] eqA27
/-! ### laws_FnFades: function 8 -/
def laws_FnFades.f (k : Nat) (l0 : List Int) : Option (Bool) := (laws_big.f l0).bind fun t254 => (if t254 = true then (some true) else ((spec_DrawColors.f k l0).bind fun bt255 => ((spec_DrawPlaces.f k l0).bind fun t265 => (if 0 < (t265.length : Int) then ((impl_Fade.f bt255.1 bt255.2.1 bt255.2.2.1 bt255.2.2.2.1 (Int.tmod (rd t265 0) 256)).bind fun bt269 => (if 1 < (t265.length : Int) then ((impl_Thin.f bt255.1 bt255.2.1 bt255.2.2.1 bt255.2.2.2.1 (Int.tmod (rd t265 1) 5)).bind fun bt275 => ((impl_LaidOk.f bt255.1 bt255.2.1 bt255.2.2.1 bt255.2.2.2.1).bind fun t280 => (if t280 = true then ((impl_LaidOk.f bt269.1 bt269.2.1 bt269.2.2.1 bt269.2.2.2).bind fun t281 => (if t281 = true then ((impl_LaidOk.f bt275.1 bt275.2.1 bt275.2.2.1 bt275.2.2.2).bind fun t282 => (if t282 = true then (if bt269.2.2.2 ≤ bt255.2.2.2.1 then (if bt269.1 ≤ bt255.1 then (if bt275.2.2.2 ≤ bt255.2.2.2.1 then (if bt275.2.2.1 ≤ bt255.2.2.1 then ((impl_Fade.f bt255.1 bt255.2.1 bt255.2.2.1 bt255.2.2.2.1 255).bind fun bt283 => (if (bt283.1 == bt255.1 && (bt283.2.1 == bt255.2.1 && (bt283.2.2.1 == bt255.2.2.1 && (bt283.2.2.2 == bt255.2.2.2.1)))) = true then ((impl_Thin.f bt255.1 bt255.2.1 bt255.2.2.1 bt255.2.2.2.1 4).bind fun bt287 => (if (bt287.1 == bt255.1 && (bt287.2.1 == bt255.2.1 && (bt287.2.2.1 == bt255.2.2.1 && (bt287.2.2.2 == bt255.2.2.2.1)))) = true then ((impl_Fade.f bt255.1 bt255.2.1 bt255.2.2.1 bt255.2.2.2.1 0).bind fun bt291 => ((impl_Thin.f bt255.1 bt255.2.1 bt255.2.2.1 bt255.2.2.2.1 0).bind fun bt295 => (if (bt291.1 == bt295.1 && (bt291.2.1 == bt295.2.1 && (bt291.2.2.1 == bt295.2.2.1 && (bt291.2.2.2 == bt295.2.2.2)))) = true then ((impl_Fade.f bt255.1 bt255.2.1 bt255.2.2.1 bt255.2.2.2.1 256).bind fun bt299 => ((impl_Thin.f bt255.1 bt255.2.1 bt255.2.2.1 bt255.2.2.2.1 5).bind fun bt303 => (if (bt299.1 == bt303.1 && (bt299.2.1 == bt303.2.1 && (bt299.2.2.1 == bt303.2.2.1 && (bt299.2.2.2 == bt303.2.2.2)))) = true then ((spec_Thin.f k bt255.1 bt255.2.1 bt255.2.2.1 bt255.2.2.2.1 (Int.tmod (rd t265 1) 5)).bind fun bt308 => (some (bt275.1 == bt308.1 && (bt275.2.1 == bt308.2.1 && (bt275.2.2.1 == bt308.2.2.1 && (bt275.2.2.2 == bt308.2.2.2)))))) else (some false)))) else (some false)))) else (some false))) else (some false))) else (some false)) else (some false)) else (some false)) else (some false)) else (some false))) else (some false))) else (some false)))) else (none))) else (none)))))
theorem laws_FnFades.mono : ∀ a0 k, LeO (laws_FnFades.f k a0) (laws_FnFades.f (k + 1) a0) := by
  intro a0 k
  unfold laws_FnFades.f
  repeat' first
      | (with_reducible exact spec_DrawColors.mono _ _)
      | (with_reducible exact spec_DrawPlaces.mono _ _)
      | (with_reducible exact spec_Thin.mono _ _ _ _ _ _)
      | (with_reducible exact LeO.refl _)
      | (with_reducible exact LeO.none _)
      | (with_reducible refine LeO.ite ?_ ?_)
      | (with_reducible refine LeO.bind ?_ (fun _ => ?_))
      | exact spec_DrawColors.mono _ _
      | exact spec_DrawPlaces.mono _ _
      | exact spec_Thin.mono _ _ _ _ _ _
      | exact LeO.none _
      | refine LeO.ite ?_ ?_
      | refine LeO.bind ?_ (fun _ => ?_)
def laws_FnFades.T5 : Bool × List (List Nat × List Nat) := (true, [([], []), ([], []), ([1], [1]), ([2], [2]), ([3], [3]), ([0, 4], [0, 4]), ([], []), ([6, 5, 5, 0, 1, 2, 3, 4, 5, 6], [5, 6])])
def laws_FnFades.B5 : List Nat := [0, 0, 2, 6, 14, 31, 0, 127]
theorem laws_FnFades.tab5 : rtab .any (opsOf Try.f8 5) = laws_FnFades.T5 := by kernel_rfl
theorem laws_FnFades.bits5 : waitsOk laws_FnFades.T5.2 laws_FnFades.B5 = true := by kernel_rfl
def laws_FnFades.T6 : Bool × List (List Nat × List Nat) := (true, [([], []), ([], []), ([1], [1]), ([2], [2]), ([3], [3]), ([0, 4], [0, 4]), ([], []), ([6, 5, 5, 0, 1, 2, 3, 4, 5, 6], [5, 6])])
def laws_FnFades.B6 : List Nat := [0, 0, 2, 6, 14, 31, 0, 127]
theorem laws_FnFades.tab6 : rtab .any (opsOf Try.f8 6) = laws_FnFades.T6 := by kernel_rfl
theorem laws_FnFades.bits6 : waitsOk laws_FnFades.T6.2 laws_FnFades.B6 = true := by kernel_rfl
def laws_FnFades.T7 : Bool × List (List Nat × List Nat) := (true, [([], []), ([0], [0]), ([1, 1], [1]), ([2], [2]), ([3, 2, 2], [2, 3]), ([2, 4], [2, 4]), ([5, 4], [5]), ([6], [6]), ([7, 6, 6], [6, 7]), ([6, 8], [6, 8]), ([9, 8], [9]), ([10], [10]), ([11, 10], [10, 11]), ([10], [10]), ([13, 10], [10, 13]), ([12, 14, 10], [10, 12, 14]), ([10, 15], [10, 15]), ([16, 10], [16]), ([17], [17]), ([18, 17], [17, 18]), ([17], [17]), ([20, 17], [17, 20]), ([19, 21, 17], [17, 19, 21]), ([17, 22], [17, 22]), ([23, 17], [23]), ([24], [24]), ([25, 24], [24, 25]), ([24], [24]), ([27, 24], [24, 27]), ([26, 28, 24], [24, 26, 28]), ([24, 29], [24, 29]), ([30, 24], [30]), ([31], [31]), ([32, 31], [31, 32]), ([31], [31]), ([34, 31], [31, 34]), ([33, 35, 31], [31, 33, 35]), ([31, 36], [31, 36]), ([37, 31], [37]), ([38], [38]), ([39, 38, 38], [38, 39]), ([38], [38]), ([40, 41, 38], [38, 40, 41]), ([38, 42], [38, 42]), ([43, 40], [43]), ([44], [44]), ([45, 44, 44], [44, 45]), ([44], [44]), ([46, 47, 44], [44, 46, 47]), ([44, 48], [44, 48]), ([49, 46], [49]), ([50], [50]), ([51, 50, 50], [50, 51]), ([50], [50]), ([53, 52, 50], [50, 53]), ([52, 54, 50], [50, 52, 54]), ([50, 55], [50, 55]), ([56, 54], [56]), ([57], [57]), ([58, 57, 57], [57, 58]), ([57], [57]), ([60, 59, 57], [57, 60]), ([59, 61, 57], [57, 59, 61]), ([57, 62], [57, 62]), ([63, 61], [63]), ([64], [64]), ([64], [64]), ([64], [64]), ([67, 64], [64, 67]), ([68, 64], [64, 68]), ([69, 64], [64, 69]), ([66, 70, 64, 64], [64, 66, 70]), ([65, 71, 64], [64, 65, 71]), ([64, 72], [64, 72]), ([73, 71, 0, 1, 2, 3, 4, 5, 6, 7, 8, 9, 10, 11, 12, 13, 14, 15, 16, 17, 18, 19, 20, 21, 22, 23, 24, 25, 26, 27, 28, 29, 30, 31, 32, 33, 34, 35, 36, 37, 38, 39, 40, 41, 42, 43, 44, 45, 46, 47, 48, 49, 50, 51, 52, 53, 54, 55, 56, 57, 58, 59, 60, 61, 62, 63, 64, 65, 66, 67, 68, 69, 70, 71, 72, 73], [73])])
def laws_FnFades.B7 : List Nat := [0, 1, 3, 7, 15, 31, 63, 127, 255, 511, 1023, 2047, 4095, 2047, 10239, 32767, 65535, 131071, 262143, 524287, 262143, 1310719, 4194303, 8388607, 16777215, 33554431, 67108863, 33554431, 167772159, 536870911, 1073741823, 2147483647, 4294967295, 8589934591, 4294967295, 21474836479, 68719476735, 137438953471, 274877906943, 549755813887, 1099511627775, 549755813887, 4398046511103, 8796093022207, 17592186044415, 35184372088831, 70368744177663, 35184372088831, 281474976710655, 562949953421311, 1125899906842623, 2251799813685247, 4503599627370495, 2251799813685247, 18014398509481983, 36028797018963967, 72057594037927935, 144115188075855871, 288230376151711743, 576460752303423487, 288230376151711743, 2305843009213693951, 4611686018427387903, 9223372036854775807, 18446744073709551615, 36893488147419103231, 36893488147419103231, 36893488147419103231, 184467440737095516159, 479615345916448342015, 1069911156275153993727, 2324289753287403503615, 4722366482869645213695, 9444732965739290427391, 18889465931478580854783]
theorem laws_FnFades.tab7 : rtab .any (opsOf Try.f8 7) = laws_FnFades.T7 := by kernel_rfl
theorem laws_FnFades.bits7 : waitsOk laws_FnFades.T7.2 laws_FnFades.B7 = true := by kernel_rfl
set_option maxHeartbeats 8000000 in
set_option maxRecDepth 100000 in
theorem laws_FnFades.calls (k : Nat) (A0 : Option Addr) (c0 : Nat) (l0 : List Int) (r : Bool) (w : World) (hr0 : Kd.C (Kd.int .u8) w A0 l0.length l0) (hc0 : l0.length ≤ c0) (hT : r = true) (h : laws_FnFades.f k l0 = some r) :
    Calls Try.prog 8 #[.slice A0 l0.length c0] w fun e w' => e = .returned (.bool r) ∧ Below w.heap.size w w' := by
  have hu27 := Try.underlying27
  have HR0 := Aside0.mk hr0
  have HC0 := Aside0.mk hc0
  clear hr0 hc0
  have HB := Aside0.mk (Below.refl w.heap.size w)
  have H : ((laws_big.f l0).bind fun t254 => (if t254 = true then (some true) else ((spec_DrawColors.f k l0).bind fun bt255 => ((spec_DrawPlaces.f k l0).bind fun t265 => (if 0 < (t265.length : Int) then ((impl_Fade.f bt255.1 bt255.2.1 bt255.2.2.1 bt255.2.2.2.1 (Int.tmod (rd t265 0) 256)).bind fun bt269 => (if 1 < (t265.length : Int) then ((impl_Thin.f bt255.1 bt255.2.1 bt255.2.2.1 bt255.2.2.2.1 (Int.tmod (rd t265 1) 5)).bind fun bt275 => ((impl_LaidOk.f bt255.1 bt255.2.1 bt255.2.2.1 bt255.2.2.2.1).bind fun t280 => (if t280 = true then ((impl_LaidOk.f bt269.1 bt269.2.1 bt269.2.2.1 bt269.2.2.2).bind fun t281 => (if t281 = true then ((impl_LaidOk.f bt275.1 bt275.2.1 bt275.2.2.1 bt275.2.2.2).bind fun t282 => (if t282 = true then (if bt269.2.2.2 ≤ bt255.2.2.2.1 then (if bt269.1 ≤ bt255.1 then (if bt275.2.2.2 ≤ bt255.2.2.2.1 then (if bt275.2.2.1 ≤ bt255.2.2.1 then ((impl_Fade.f bt255.1 bt255.2.1 bt255.2.2.1 bt255.2.2.2.1 255).bind fun bt283 => (if (bt283.1 == bt255.1 && (bt283.2.1 == bt255.2.1 && (bt283.2.2.1 == bt255.2.2.1 && (bt283.2.2.2 == bt255.2.2.2.1)))) = true then ((impl_Thin.f bt255.1 bt255.2.1 bt255.2.2.1 bt255.2.2.2.1 4).bind fun bt287 => (if (bt287.1 == bt255.1 && (bt287.2.1 == bt255.2.1 && (bt287.2.2.1 == bt255.2.2.1 && (bt287.2.2.2 == bt255.2.2.2.1)))) = true then ((impl_Fade.f bt255.1 bt255.2.1 bt255.2.2.1 bt255.2.2.2.1 0).bind fun bt291 => ((impl_Thin.f bt255.1 bt255.2.1 bt255.2.2.1 bt255.2.2.2.1 0).bind fun bt295 => (if (bt291.1 == bt295.1 && (bt291.2.1 == bt295.2.1 && (bt291.2.2.1 == bt295.2.2.1 && (bt291.2.2.2 == bt295.2.2.2)))) = true then ((impl_Fade.f bt255.1 bt255.2.1 bt255.2.2.1 bt255.2.2.2.1 256).bind fun bt299 => ((impl_Thin.f bt255.1 bt255.2.1 bt255.2.2.1 bt255.2.2.2.1 5).bind fun bt303 => (if (bt299.1 == bt303.1 && (bt299.2.1 == bt303.2.1 && (bt299.2.2.1 == bt303.2.2.1 && (bt299.2.2.2 == bt303.2.2.2)))) = true then ((spec_Thin.f k bt255.1 bt255.2.1 bt255.2.2.1 bt255.2.2.2.1 (Int.tmod (rd t265 1) 5)).bind fun bt308 => (some (bt275.1 == bt308.1 && (bt275.2.1 == bt308.2.1 && (bt275.2.2.1 == bt308.2.2.1 && (bt275.2.2.2 == bt308.2.2.2)))))) else (some false)))) else (some false)))) else (some false))) else (some false))) else (some false)) else (some false)) else (some false)) else (some false)) else (some false))) else (some false))) else (some false)))) else (none))) else (none)))))) = some r := h
  clear h
  replace H := Option.bind_eq_some_iff.mp H
  obtain ⟨t254, A20, H⟩ := H
  replace H : (if t254 = true then (some true) else ((spec_DrawColors.f k l0).bind fun bt255 => ((spec_DrawPlaces.f k l0).bind fun t265 => (if 0 < (t265.length : Int) then ((impl_Fade.f bt255.1 bt255.2.1 bt255.2.2.1 bt255.2.2.2.1 (Int.tmod (rd t265 0) 256)).bind fun bt269 => (if 1 < (t265.length : Int) then ((impl_Thin.f bt255.1 bt255.2.1 bt255.2.2.1 bt255.2.2.2.1 (Int.tmod (rd t265 1) 5)).bind fun bt275 => ((impl_LaidOk.f bt255.1 bt255.2.1 bt255.2.2.1 bt255.2.2.2.1).bind fun t280 => (if t280 = true then ((impl_LaidOk.f bt269.1 bt269.2.1 bt269.2.2.1 bt269.2.2.2).bind fun t281 => (if t281 = true then ((impl_LaidOk.f bt275.1 bt275.2.1 bt275.2.2.1 bt275.2.2.2).bind fun t282 => (if t282 = true then (if bt269.2.2.2 ≤ bt255.2.2.2.1 then (if bt269.1 ≤ bt255.1 then (if bt275.2.2.2 ≤ bt255.2.2.2.1 then (if bt275.2.2.1 ≤ bt255.2.2.1 then ((impl_Fade.f bt255.1 bt255.2.1 bt255.2.2.1 bt255.2.2.2.1 255).bind fun bt283 => (if (bt283.1 == bt255.1 && (bt283.2.1 == bt255.2.1 && (bt283.2.2.1 == bt255.2.2.1 && (bt283.2.2.2 == bt255.2.2.2.1)))) = true then ((impl_Thin.f bt255.1 bt255.2.1 bt255.2.2.1 bt255.2.2.2.1 4).bind fun bt287 => (if (bt287.1 == bt255.1 && (bt287.2.1 == bt255.2.1 && (bt287.2.2.1 == bt255.2.2.1 && (bt287.2.2.2 == bt255.2.2.2.1)))) = true then ((impl_Fade.f bt255.1 bt255.2.1 bt255.2.2.1 bt255.2.2.2.1 0).bind fun bt291 => ((impl_Thin.f bt255.1 bt255.2.1 bt255.2.2.1 bt255.2.2.2.1 0).bind fun bt295 => (if (bt291.1 == bt295.1 && (bt291.2.1 == bt295.2.1 && (bt291.2.2.1 == bt295.2.2.1 && (bt291.2.2.2 == bt295.2.2.2)))) = true then ((impl_Fade.f bt255.1 bt255.2.1 bt255.2.2.1 bt255.2.2.2.1 256).bind fun bt299 => ((impl_Thin.f bt255.1 bt255.2.1 bt255.2.2.1 bt255.2.2.2.1 5).bind fun bt303 => (if (bt299.1 == bt303.1 && (bt299.2.1 == bt303.2.1 && (bt299.2.2.1 == bt303.2.2.1 && (bt299.2.2.2 == bt303.2.2.2)))) = true then ((spec_Thin.f k bt255.1 bt255.2.1 bt255.2.2.1 bt255.2.2.2.1 (Int.tmod (rd t265 1) 5)).bind fun bt308 => (some (bt275.1 == bt308.1 && (bt275.2.1 == bt308.2.1 && (bt275.2.2.1 == bt308.2.2.1 && (bt275.2.2.2 == bt308.2.2.2)))))) else (some false)))) else (some false)))) else (some false))) else (some false))) else (some false)) else (some false)) else (some false)) else (some false)) else (some false))) else (some false))) else (some false)))) else (none))) else (none))))) = some r := H
  have A2 := Aside0.mk A20
  clear A20
  by_cases c3 : t254 = true
  · subst c3
    have H1 : (some true) = some r := by rw [if_pos rfl] at H; exact H
    clear H
    have H := H1
    clear H1
    obtain rfl := Option.some.inj H
    simp only [Option.some.injEq, Prod.mk.injEq] at H
    obtain ⟨rfl⟩ := H
    go_enter Try.func8, Try.ntmps8
    go_wp2_with (first | ((with_reducible refine gate_callee (f := 38) rfl ?_); refine goesL_ (some 9) rfl rfl Try.func38 (by kernel_rfl) rfl #[.slice A0 l0.length c0] rfl (by (try simp only [List.map_toArray, List.map_cons, List.map_nil]); first | done | rfl | (simp only [List.length_drop, List.length_take]; rfl)) ?_; (with_reducible refine (laws_big.calls _ _ l0 true _ ?side1 ?side2 A2.out).mono ?_); (case side1 => repeat (first | exact HR0.out | (with_reducible refine Kd.C_alloc ?_ _) | (with_reducible refine Kd.C_drewN ?_ _) | (with_reducible refine Kd.C_drew ?_))); (case side2 => exact HC0.out); rintro e w' ⟨rfl, ⟨nd, rfl⟩⟩; refine ⟨_, rfl, ?_⟩))
    go_ret
    exact ⟨by first | rfl | (simp [errW_none, errW_some] <;> rfl) | (simp [*, errW_none, errW_some] <;> rfl), by repeat (first | (with_reducible first | exact HB.out | apply below_alloc | apply pw_below_drewN | apply below_drew1) | exact HB.out)⟩
  · replace c3 := Bool.eq_false_iff.mpr c3
    subst c3
    have H1 : ((spec_DrawColors.f k l0).bind fun bt255 => ((spec_DrawPlaces.f k l0).bind fun t265 => (if 0 < (t265.length : Int) then ((impl_Fade.f bt255.1 bt255.2.1 bt255.2.2.1 bt255.2.2.2.1 (Int.tmod (rd t265 0) 256)).bind fun bt269 => (if 1 < (t265.length : Int) then ((impl_Thin.f bt255.1 bt255.2.1 bt255.2.2.1 bt255.2.2.2.1 (Int.tmod (rd t265 1) 5)).bind fun bt275 => ((impl_LaidOk.f bt255.1 bt255.2.1 bt255.2.2.1 bt255.2.2.2.1).bind fun t280 => (if t280 = true then ((impl_LaidOk.f bt269.1 bt269.2.1 bt269.2.2.1 bt269.2.2.2).bind fun t281 => (if t281 = true then ((impl_LaidOk.f bt275.1 bt275.2.1 bt275.2.2.1 bt275.2.2.2).bind fun t282 => (if t282 = true then (if bt269.2.2.2 ≤ bt255.2.2.2.1 then (if bt269.1 ≤ bt255.1 then (if bt275.2.2.2 ≤ bt255.2.2.2.1 then (if bt275.2.2.1 ≤ bt255.2.2.1 then ((impl_Fade.f bt255.1 bt255.2.1 bt255.2.2.1 bt255.2.2.2.1 255).bind fun bt283 => (if (bt283.1 == bt255.1 && (bt283.2.1 == bt255.2.1 && (bt283.2.2.1 == bt255.2.2.1 && (bt283.2.2.2 == bt255.2.2.2.1)))) = true then ((impl_Thin.f bt255.1 bt255.2.1 bt255.2.2.1 bt255.2.2.2.1 4).bind fun bt287 => (if (bt287.1 == bt255.1 && (bt287.2.1 == bt255.2.1 && (bt287.2.2.1 == bt255.2.2.1 && (bt287.2.2.2 == bt255.2.2.2.1)))) = true then ((impl_Fade.f bt255.1 bt255.2.1 bt255.2.2.1 bt255.2.2.2.1 0).bind fun bt291 => ((impl_Thin.f bt255.1 bt255.2.1 bt255.2.2.1 bt255.2.2.2.1 0).bind fun bt295 => (if (bt291.1 == bt295.1 && (bt291.2.1 == bt295.2.1 && (bt291.2.2.1 == bt295.2.2.1 && (bt291.2.2.2 == bt295.2.2.2)))) = true then ((impl_Fade.f bt255.1 bt255.2.1 bt255.2.2.1 bt255.2.2.2.1 256).bind fun bt299 => ((impl_Thin.f bt255.1 bt255.2.1 bt255.2.2.1 bt255.2.2.2.1 5).bind fun bt303 => (if (bt299.1 == bt303.1 && (bt299.2.1 == bt303.2.1 && (bt299.2.2.1 == bt303.2.2.1 && (bt299.2.2.2 == bt303.2.2.2)))) = true then ((spec_Thin.f k bt255.1 bt255.2.1 bt255.2.2.1 bt255.2.2.2.1 (Int.tmod (rd t265 1) 5)).bind fun bt308 => (some (bt275.1 == bt308.1 && (bt275.2.1 == bt308.2.1 && (bt275.2.2.1 == bt308.2.2.1 && (bt275.2.2.2 == bt308.2.2.2)))))) else (some false)))) else (some false)))) else (some false))) else (some false))) else (some false)) else (some false)) else (some false)) else (some false)) else (some false))) else (some false))) else (some false)))) else (none))) else (none)))) = some r := by rw [if_neg (show ¬ (false = true) by decide)] at H; exact H
    clear H
    have H := H1
    clear H1
    replace H := Option.bind_eq_some_iff.mp H
    obtain ⟨⟨t255, t256, t257, t258, t259, t260, t261, t262⟩, A40, H⟩ := H
    replace H : ((spec_DrawPlaces.f k l0).bind fun t265 => (if 0 < (t265.length : Int) then ((impl_Fade.f t255 t256 t257 t258 (Int.tmod (rd t265 0) 256)).bind fun bt269 => (if 1 < (t265.length : Int) then ((impl_Thin.f t255 t256 t257 t258 (Int.tmod (rd t265 1) 5)).bind fun bt275 => ((impl_LaidOk.f t255 t256 t257 t258).bind fun t280 => (if t280 = true then ((impl_LaidOk.f bt269.1 bt269.2.1 bt269.2.2.1 bt269.2.2.2).bind fun t281 => (if t281 = true then ((impl_LaidOk.f bt275.1 bt275.2.1 bt275.2.2.1 bt275.2.2.2).bind fun t282 => (if t282 = true then (if bt269.2.2.2 ≤ t258 then (if bt269.1 ≤ t255 then (if bt275.2.2.2 ≤ t258 then (if bt275.2.2.1 ≤ t257 then ((impl_Fade.f t255 t256 t257 t258 255).bind fun bt283 => (if (bt283.1 == t255 && (bt283.2.1 == t256 && (bt283.2.2.1 == t257 && (bt283.2.2.2 == t258)))) = true then ((impl_Thin.f t255 t256 t257 t258 4).bind fun bt287 => (if (bt287.1 == t255 && (bt287.2.1 == t256 && (bt287.2.2.1 == t257 && (bt287.2.2.2 == t258)))) = true then ((impl_Fade.f t255 t256 t257 t258 0).bind fun bt291 => ((impl_Thin.f t255 t256 t257 t258 0).bind fun bt295 => (if (bt291.1 == bt295.1 && (bt291.2.1 == bt295.2.1 && (bt291.2.2.1 == bt295.2.2.1 && (bt291.2.2.2 == bt295.2.2.2)))) = true then ((impl_Fade.f t255 t256 t257 t258 256).bind fun bt299 => ((impl_Thin.f t255 t256 t257 t258 5).bind fun bt303 => (if (bt299.1 == bt303.1 && (bt299.2.1 == bt303.2.1 && (bt299.2.2.1 == bt303.2.2.1 && (bt299.2.2.2 == bt303.2.2.2)))) = true then ((spec_Thin.f k t255 t256 t257 t258 (Int.tmod (rd t265 1) 5)).bind fun bt308 => (some (bt275.1 == bt308.1 && (bt275.2.1 == bt308.2.1 && (bt275.2.2.1 == bt308.2.2.1 && (bt275.2.2.2 == bt308.2.2.2)))))) else (some false)))) else (some false)))) else (some false))) else (some false))) else (some false)) else (some false)) else (some false)) else (some false)) else (some false))) else (some false))) else (some false)))) else (none))) else (none))) = some r := H
    have A4 := Aside0.mk A40
    clear A40
    replace H := Option.bind_eq_some_iff.mp H
    obtain ⟨t265, A50, H⟩ := H
    replace H : (if 0 < (t265.length : Int) then ((impl_Fade.f t255 t256 t257 t258 (Int.tmod (rd t265 0) 256)).bind fun bt269 => (if 1 < (t265.length : Int) then ((impl_Thin.f t255 t256 t257 t258 (Int.tmod (rd t265 1) 5)).bind fun bt275 => ((impl_LaidOk.f t255 t256 t257 t258).bind fun t280 => (if t280 = true then ((impl_LaidOk.f bt269.1 bt269.2.1 bt269.2.2.1 bt269.2.2.2).bind fun t281 => (if t281 = true then ((impl_LaidOk.f bt275.1 bt275.2.1 bt275.2.2.1 bt275.2.2.2).bind fun t282 => (if t282 = true then (if bt269.2.2.2 ≤ t258 then (if bt269.1 ≤ t255 then (if bt275.2.2.2 ≤ t258 then (if bt275.2.2.1 ≤ t257 then ((impl_Fade.f t255 t256 t257 t258 255).bind fun bt283 => (if (bt283.1 == t255 && (bt283.2.1 == t256 && (bt283.2.2.1 == t257 && (bt283.2.2.2 == t258)))) = true then ((impl_Thin.f t255 t256 t257 t258 4).bind fun bt287 => (if (bt287.1 == t255 && (bt287.2.1 == t256 && (bt287.2.2.1 == t257 && (bt287.2.2.2 == t258)))) = true then ((impl_Fade.f t255 t256 t257 t258 0).bind fun bt291 => ((impl_Thin.f t255 t256 t257 t258 0).bind fun bt295 => (if (bt291.1 == bt295.1 && (bt291.2.1 == bt295.2.1 && (bt291.2.2.1 == bt295.2.2.1 && (bt291.2.2.2 == bt295.2.2.2)))) = true then ((impl_Fade.f t255 t256 t257 t258 256).bind fun bt299 => ((impl_Thin.f t255 t256 t257 t258 5).bind fun bt303 => (if (bt299.1 == bt303.1 && (bt299.2.1 == bt303.2.1 && (bt299.2.2.1 == bt303.2.2.1 && (bt299.2.2.2 == bt303.2.2.2)))) = true then ((spec_Thin.f k t255 t256 t257 t258 (Int.tmod (rd t265 1) 5)).bind fun bt308 => (some (bt275.1 == bt308.1 && (bt275.2.1 == bt308.2.1 && (bt275.2.2.1 == bt308.2.2.1 && (bt275.2.2.2 == bt308.2.2.2)))))) else (some false)))) else (some false)))) else (some false))) else (some false))) else (some false)) else (some false)) else (some false)) else (some false)) else (some false))) else (some false))) else (some false)))) else (none))) else (none)) = some r := H
    have A5 := Aside0.mk A50
    clear A50
    by_cases c6 : 0 < (t265.length : Int)
    · rw [if_pos c6] at H
      have c6b0 : decide (0 < (t265.length : Int)) = true := decide_eq_true c6
      have c6b1 : decide (0 < t265.length) = true := decide_eq_true (by omega)
      clear c6
      replace H := Option.bind_eq_some_iff.mp H
      obtain ⟨⟨t269, t270, t271, t272⟩, A70, H⟩ := H
      replace H : (if 1 < (t265.length : Int) then ((impl_Thin.f t255 t256 t257 t258 (Int.tmod (rd t265 1) 5)).bind fun bt275 => ((impl_LaidOk.f t255 t256 t257 t258).bind fun t280 => (if t280 = true then ((impl_LaidOk.f t269 t270 t271 t272).bind fun t281 => (if t281 = true then ((impl_LaidOk.f bt275.1 bt275.2.1 bt275.2.2.1 bt275.2.2.2).bind fun t282 => (if t282 = true then (if t272 ≤ t258 then (if t269 ≤ t255 then (if bt275.2.2.2 ≤ t258 then (if bt275.2.2.1 ≤ t257 then ((impl_Fade.f t255 t256 t257 t258 255).bind fun bt283 => (if (bt283.1 == t255 && (bt283.2.1 == t256 && (bt283.2.2.1 == t257 && (bt283.2.2.2 == t258)))) = true then ((impl_Thin.f t255 t256 t257 t258 4).bind fun bt287 => (if (bt287.1 == t255 && (bt287.2.1 == t256 && (bt287.2.2.1 == t257 && (bt287.2.2.2 == t258)))) = true then ((impl_Fade.f t255 t256 t257 t258 0).bind fun bt291 => ((impl_Thin.f t255 t256 t257 t258 0).bind fun bt295 => (if (bt291.1 == bt295.1 && (bt291.2.1 == bt295.2.1 && (bt291.2.2.1 == bt295.2.2.1 && (bt291.2.2.2 == bt295.2.2.2)))) = true then ((impl_Fade.f t255 t256 t257 t258 256).bind fun bt299 => ((impl_Thin.f t255 t256 t257 t258 5).bind fun bt303 => (if (bt299.1 == bt303.1 && (bt299.2.1 == bt303.2.1 && (bt299.2.2.1 == bt303.2.2.1 && (bt299.2.2.2 == bt303.2.2.2)))) = true then ((spec_Thin.f k t255 t256 t257 t258 (Int.tmod (rd t265 1) 5)).bind fun bt308 => (some (bt275.1 == bt308.1 && (bt275.2.1 == bt308.2.1 && (bt275.2.2.1 == bt308.2.2.1 && (bt275.2.2.2 == bt308.2.2.2)))))) else (some false)))) else (some false)))) else (some false))) else (some false))) else (some false)) else (some false)) else (some false)) else (some false)) else (some false))) else (some false))) else (some false)))) else (none)) = some r := H
      have A7 := Aside0.mk A70
      clear A70
      by_cases c8 : 1 < (t265.length : Int)
      · rw [if_pos c8] at H
        have c8b0 : decide (1 < (t265.length : Int)) = true := decide_eq_true c8
        have c8b1 : decide (1 < t265.length) = true := decide_eq_true (by omega)
        clear c8
        replace H := Option.bind_eq_some_iff.mp H
        obtain ⟨⟨t275, t276, t277, t278⟩, A90, H⟩ := H
        replace H : ((impl_LaidOk.f t255 t256 t257 t258).bind fun t280 => (if t280 = true then ((impl_LaidOk.f t269 t270 t271 t272).bind fun t281 => (if t281 = true then ((impl_LaidOk.f t275 t276 t277 t278).bind fun t282 => (if t282 = true then (if t272 ≤ t258 then (if t269 ≤ t255 then (if t278 ≤ t258 then (if t277 ≤ t257 then ((impl_Fade.f t255 t256 t257 t258 255).bind fun bt283 => (if (bt283.1 == t255 && (bt283.2.1 == t256 && (bt283.2.2.1 == t257 && (bt283.2.2.2 == t258)))) = true then ((impl_Thin.f t255 t256 t257 t258 4).bind fun bt287 => (if (bt287.1 == t255 && (bt287.2.1 == t256 && (bt287.2.2.1 == t257 && (bt287.2.2.2 == t258)))) = true then ((impl_Fade.f t255 t256 t257 t258 0).bind fun bt291 => ((impl_Thin.f t255 t256 t257 t258 0).bind fun bt295 => (if (bt291.1 == bt295.1 && (bt291.2.1 == bt295.2.1 && (bt291.2.2.1 == bt295.2.2.1 && (bt291.2.2.2 == bt295.2.2.2)))) = true then ((impl_Fade.f t255 t256 t257 t258 256).bind fun bt299 => ((impl_Thin.f t255 t256 t257 t258 5).bind fun bt303 => (if (bt299.1 == bt303.1 && (bt299.2.1 == bt303.2.1 && (bt299.2.2.1 == bt303.2.2.1 && (bt299.2.2.2 == bt303.2.2.2)))) = true then ((spec_Thin.f k t255 t256 t257 t258 (Int.tmod (rd t265 1) 5)).bind fun bt308 => (some (t275 == bt308.1 && (t276 == bt308.2.1 && (t277 == bt308.2.2.1 && (t278 == bt308.2.2.2)))))) else (some false)))) else (some false)))) else (some false))) else (some false))) else (some false)) else (some false)) else (some false)) else (some false)) else (some false))) else (some false))) else (some false))) = some r := H
        have A9 := Aside0.mk A90
        clear A90
        replace H := Option.bind_eq_some_iff.mp H
        obtain ⟨t280, A100, H⟩ := H
        replace H : (if t280 = true then ((impl_LaidOk.f t269 t270 t271 t272).bind fun t281 => (if t281 = true then ((impl_LaidOk.f t275 t276 t277 t278).bind fun t282 => (if t282 = true then (if t272 ≤ t258 then (if t269 ≤ t255 then (if t278 ≤ t258 then (if t277 ≤ t257 then ((impl_Fade.f t255 t256 t257 t258 255).bind fun bt283 => (if (bt283.1 == t255 && (bt283.2.1 == t256 && (bt283.2.2.1 == t257 && (bt283.2.2.2 == t258)))) = true then ((impl_Thin.f t255 t256 t257 t258 4).bind fun bt287 => (if (bt287.1 == t255 && (bt287.2.1 == t256 && (bt287.2.2.1 == t257 && (bt287.2.2.2 == t258)))) = true then ((impl_Fade.f t255 t256 t257 t258 0).bind fun bt291 => ((impl_Thin.f t255 t256 t257 t258 0).bind fun bt295 => (if (bt291.1 == bt295.1 && (bt291.2.1 == bt295.2.1 && (bt291.2.2.1 == bt295.2.2.1 && (bt291.2.2.2 == bt295.2.2.2)))) = true then ((impl_Fade.f t255 t256 t257 t258 256).bind fun bt299 => ((impl_Thin.f t255 t256 t257 t258 5).bind fun bt303 => (if (bt299.1 == bt303.1 && (bt299.2.1 == bt303.2.1 && (bt299.2.2.1 == bt303.2.2.1 && (bt299.2.2.2 == bt303.2.2.2)))) = true then ((spec_Thin.f k t255 t256 t257 t258 (Int.tmod (rd t265 1) 5)).bind fun bt308 => (some (t275 == bt308.1 && (t276 == bt308.2.1 && (t277 == bt308.2.2.1 && (t278 == bt308.2.2.2)))))) else (some false)))) else (some false)))) else (some false))) else (some false))) else (some false)) else (some false)) else (some false)) else (some false)) else (some false))) else (some false))) else (some false)) = some r := H
        have A10 := Aside0.mk A100
        clear A100
        by_cases c11 : t280 = true
        · subst c11
          have H1 : ((impl_LaidOk.f t269 t270 t271 t272).bind fun t281 => (if t281 = true then ((impl_LaidOk.f t275 t276 t277 t278).bind fun t282 => (if t282 = true then (if t272 ≤ t258 then (if t269 ≤ t255 then (if t278 ≤ t258 then (if t277 ≤ t257 then ((impl_Fade.f t255 t256 t257 t258 255).bind fun bt283 => (if (bt283.1 == t255 && (bt283.2.1 == t256 && (bt283.2.2.1 == t257 && (bt283.2.2.2 == t258)))) = true then ((impl_Thin.f t255 t256 t257 t258 4).bind fun bt287 => (if (bt287.1 == t255 && (bt287.2.1 == t256 && (bt287.2.2.1 == t257 && (bt287.2.2.2 == t258)))) = true then ((impl_Fade.f t255 t256 t257 t258 0).bind fun bt291 => ((impl_Thin.f t255 t256 t257 t258 0).bind fun bt295 => (if (bt291.1 == bt295.1 && (bt291.2.1 == bt295.2.1 && (bt291.2.2.1 == bt295.2.2.1 && (bt291.2.2.2 == bt295.2.2.2)))) = true then ((impl_Fade.f t255 t256 t257 t258 256).bind fun bt299 => ((impl_Thin.f t255 t256 t257 t258 5).bind fun bt303 => (if (bt299.1 == bt303.1 && (bt299.2.1 == bt303.2.1 && (bt299.2.2.1 == bt303.2.2.1 && (bt299.2.2.2 == bt303.2.2.2)))) = true then ((spec_Thin.f k t255 t256 t257 t258 (Int.tmod (rd t265 1) 5)).bind fun bt308 => (some (t275 == bt308.1 && (t276 == bt308.2.1 && (t277 == bt308.2.2.1 && (t278 == bt308.2.2.2)))))) else (some false)))) else (some false)))) else (some false))) else (some false))) else (some false)) else (some false)) else (some false)) else (some false)) else (some false))) else (some false))) = some r := by rw [if_pos rfl] at H; exact H
          clear H
          have H := H1
          clear H1
          replace H := Option.bind_eq_some_iff.mp H
          obtain ⟨t281, A120, H⟩ := H
          replace H : (if t281 = true then ((impl_LaidOk.f t275 t276 t277 t278).bind fun t282 => (if t282 = true then (if t272 ≤ t258 then (if t269 ≤ t255 then (if t278 ≤ t258 then (if t277 ≤ t257 then ((impl_Fade.f t255 t256 t257 t258 255).bind fun bt283 => (if (bt283.1 == t255 && (bt283.2.1 == t256 && (bt283.2.2.1 == t257 && (bt283.2.2.2 == t258)))) = true then ((impl_Thin.f t255 t256 t257 t258 4).bind fun bt287 => (if (bt287.1 == t255 && (bt287.2.1 == t256 && (bt287.2.2.1 == t257 && (bt287.2.2.2 == t258)))) = true then ((impl_Fade.f t255 t256 t257 t258 0).bind fun bt291 => ((impl_Thin.f t255 t256 t257 t258 0).bind fun bt295 => (if (bt291.1 == bt295.1 && (bt291.2.1 == bt295.2.1 && (bt291.2.2.1 == bt295.2.2.1 && (bt291.2.2.2 == bt295.2.2.2)))) = true then ((impl_Fade.f t255 t256 t257 t258 256).bind fun bt299 => ((impl_Thin.f t255 t256 t257 t258 5).bind fun bt303 => (if (bt299.1 == bt303.1 && (bt299.2.1 == bt303.2.1 && (bt299.2.2.1 == bt303.2.2.1 && (bt299.2.2.2 == bt303.2.2.2)))) = true then ((spec_Thin.f k t255 t256 t257 t258 (Int.tmod (rd t265 1) 5)).bind fun bt308 => (some (t275 == bt308.1 && (t276 == bt308.2.1 && (t277 == bt308.2.2.1 && (t278 == bt308.2.2.2)))))) else (some false)))) else (some false)))) else (some false))) else (some false))) else (some false)) else (some false)) else (some false)) else (some false)) else (some false))) else (some false)) = some r := H
          have A12 := Aside0.mk A120
          clear A120
          by_cases c13 : t281 = true
          · subst c13
            have H1 : ((impl_LaidOk.f t275 t276 t277 t278).bind fun t282 => (if t282 = true then (if t272 ≤ t258 then (if t269 ≤ t255 then (if t278 ≤ t258 then (if t277 ≤ t257 then ((impl_Fade.f t255 t256 t257 t258 255).bind fun bt283 => (if (bt283.1 == t255 && (bt283.2.1 == t256 && (bt283.2.2.1 == t257 && (bt283.2.2.2 == t258)))) = true then ((impl_Thin.f t255 t256 t257 t258 4).bind fun bt287 => (if (bt287.1 == t255 && (bt287.2.1 == t256 && (bt287.2.2.1 == t257 && (bt287.2.2.2 == t258)))) = true then ((impl_Fade.f t255 t256 t257 t258 0).bind fun bt291 => ((impl_Thin.f t255 t256 t257 t258 0).bind fun bt295 => (if (bt291.1 == bt295.1 && (bt291.2.1 == bt295.2.1 && (bt291.2.2.1 == bt295.2.2.1 && (bt291.2.2.2 == bt295.2.2.2)))) = true then ((impl_Fade.f t255 t256 t257 t258 256).bind fun bt299 => ((impl_Thin.f t255 t256 t257 t258 5).bind fun bt303 => (if (bt299.1 == bt303.1 && (bt299.2.1 == bt303.2.1 && (bt299.2.2.1 == bt303.2.2.1 && (bt299.2.2.2 == bt303.2.2.2)))) = true then ((spec_Thin.f k t255 t256 t257 t258 (Int.tmod (rd t265 1) 5)).bind fun bt308 => (some (t275 == bt308.1 && (t276 == bt308.2.1 && (t277 == bt308.2.2.1 && (t278 == bt308.2.2.2)))))) else (some false)))) else (some false)))) else (some false))) else (some false))) else (some false)) else (some false)) else (some false)) else (some false)) else (some false))) = some r := by rw [if_pos rfl] at H; exact H
            clear H
            have H := H1
            clear H1
            replace H := Option.bind_eq_some_iff.mp H
            obtain ⟨t282, A140, H⟩ := H
            replace H : (if t282 = true then (if t272 ≤ t258 then (if t269 ≤ t255 then (if t278 ≤ t258 then (if t277 ≤ t257 then ((impl_Fade.f t255 t256 t257 t258 255).bind fun bt283 => (if (bt283.1 == t255 && (bt283.2.1 == t256 && (bt283.2.2.1 == t257 && (bt283.2.2.2 == t258)))) = true then ((impl_Thin.f t255 t256 t257 t258 4).bind fun bt287 => (if (bt287.1 == t255 && (bt287.2.1 == t256 && (bt287.2.2.1 == t257 && (bt287.2.2.2 == t258)))) = true then ((impl_Fade.f t255 t256 t257 t258 0).bind fun bt291 => ((impl_Thin.f t255 t256 t257 t258 0).bind fun bt295 => (if (bt291.1 == bt295.1 && (bt291.2.1 == bt295.2.1 && (bt291.2.2.1 == bt295.2.2.1 && (bt291.2.2.2 == bt295.2.2.2)))) = true then ((impl_Fade.f t255 t256 t257 t258 256).bind fun bt299 => ((impl_Thin.f t255 t256 t257 t258 5).bind fun bt303 => (if (bt299.1 == bt303.1 && (bt299.2.1 == bt303.2.1 && (bt299.2.2.1 == bt303.2.2.1 && (bt299.2.2.2 == bt303.2.2.2)))) = true then ((spec_Thin.f k t255 t256 t257 t258 (Int.tmod (rd t265 1) 5)).bind fun bt308 => (some (t275 == bt308.1 && (t276 == bt308.2.1 && (t277 == bt308.2.2.1 && (t278 == bt308.2.2.2)))))) else (some false)))) else (some false)))) else (some false))) else (some false))) else (some false)) else (some false)) else (some false)) else (some false)) else (some false)) = some r := H
            have A14 := Aside0.mk A140
            clear A140
            by_cases c15 : t282 = true
            · subst c15
              have H1 : (if t272 ≤ t258 then (if t269 ≤ t255 then (if t278 ≤ t258 then (if t277 ≤ t257 then ((impl_Fade.f t255 t256 t257 t258 255).bind fun bt283 => (if (bt283.1 == t255 && (bt283.2.1 == t256 && (bt283.2.2.1 == t257 && (bt283.2.2.2 == t258)))) = true then ((impl_Thin.f t255 t256 t257 t258 4).bind fun bt287 => (if (bt287.1 == t255 && (bt287.2.1 == t256 && (bt287.2.2.1 == t257 && (bt287.2.2.2 == t258)))) = true then ((impl_Fade.f t255 t256 t257 t258 0).bind fun bt291 => ((impl_Thin.f t255 t256 t257 t258 0).bind fun bt295 => (if (bt291.1 == bt295.1 && (bt291.2.1 == bt295.2.1 && (bt291.2.2.1 == bt295.2.2.1 && (bt291.2.2.2 == bt295.2.2.2)))) = true then ((impl_Fade.f t255 t256 t257 t258 256).bind fun bt299 => ((impl_Thin.f t255 t256 t257 t258 5).bind fun bt303 => (if (bt299.1 == bt303.1 && (bt299.2.1 == bt303.2.1 && (bt299.2.2.1 == bt303.2.2.1 && (bt299.2.2.2 == bt303.2.2.2)))) = true then ((spec_Thin.f k t255 t256 t257 t258 (Int.tmod (rd t265 1) 5)).bind fun bt308 => (some (t275 == bt308.1 && (t276 == bt308.2.1 && (t277 == bt308.2.2.1 && (t278 == bt308.2.2.2)))))) else (some false)))) else (some false)))) else (some false))) else (some false))) else (some false)) else (some false)) else (some false)) else (some false)) = some r := by rw [if_pos rfl] at H; exact H
              clear H
              have H := H1
              clear H1
              by_cases c16 : t272 ≤ t258
              · rw [if_pos c16] at H
                have c16b0 : decide (t272 ≤ t258) = true := decide_eq_true c16
                clear c16
                by_cases c17 : t269 ≤ t255
                · rw [if_pos c17] at H
                  have c17b0 : decide (t269 ≤ t255) = true := decide_eq_true c17
                  clear c17
                  by_cases c18 : t278 ≤ t258
                  · rw [if_pos c18] at H
                    have c18b0 : decide (t278 ≤ t258) = true := decide_eq_true c18
                    clear c18
                    by_cases c19 : t277 ≤ t257
                    · rw [if_pos c19] at H
                      have c19b0 : decide (t277 ≤ t257) = true := decide_eq_true c19
                      clear c19
                      replace H := Option.bind_eq_some_iff.mp H
                      obtain ⟨⟨t283, t284, t285, t286⟩, A200, H⟩ := H
                      replace H : (if (t283 == t255 && (t284 == t256 && (t285 == t257 && (t286 == t258)))) = true then ((impl_Thin.f t255 t256 t257 t258 4).bind fun bt287 => (if (bt287.1 == t255 && (bt287.2.1 == t256 && (bt287.2.2.1 == t257 && (bt287.2.2.2 == t258)))) = true then ((impl_Fade.f t255 t256 t257 t258 0).bind fun bt291 => ((impl_Thin.f t255 t256 t257 t258 0).bind fun bt295 => (if (bt291.1 == bt295.1 && (bt291.2.1 == bt295.2.1 && (bt291.2.2.1 == bt295.2.2.1 && (bt291.2.2.2 == bt295.2.2.2)))) = true then ((impl_Fade.f t255 t256 t257 t258 256).bind fun bt299 => ((impl_Thin.f t255 t256 t257 t258 5).bind fun bt303 => (if (bt299.1 == bt303.1 && (bt299.2.1 == bt303.2.1 && (bt299.2.2.1 == bt303.2.2.1 && (bt299.2.2.2 == bt303.2.2.2)))) = true then ((spec_Thin.f k t255 t256 t257 t258 (Int.tmod (rd t265 1) 5)).bind fun bt308 => (some (t275 == bt308.1 && (t276 == bt308.2.1 && (t277 == bt308.2.2.1 && (t278 == bt308.2.2.2)))))) else (some false)))) else (some false)))) else (some false))) else (some false)) = some r := H
                      have A20 := Aside0.mk A200
                      clear A200
                      by_cases c21 : (t283 == t255 && (t284 == t256 && (t285 == t257 && (t286 == t258)))) = true
                      · rw [if_pos c21] at H
                        have c21b0 : (t283 == t255 && (t284 == t256 && (t285 == t257 && (t286 == t258)))) = true := c21
                        (try (have c21b1 : decide (t283 = t255 && (t284 == t256 && (t285 == t257 && (t286 == t258)))) = true := by simpa using c21))
                        (try (have c21b2 : (t283 == t255 && (t284 == t256 && (t285 == t257 && (t286 == t258)))) = true := by simpa using c21))
                        clear c21
                        replace H := Option.bind_eq_some_iff.mp H
                        obtain ⟨⟨t287, t288, t289, t290⟩, A220, H⟩ := H
                        replace H : (if (t287 == t255 && (t288 == t256 && (t289 == t257 && (t290 == t258)))) = true then ((impl_Fade.f t255 t256 t257 t258 0).bind fun bt291 => ((impl_Thin.f t255 t256 t257 t258 0).bind fun bt295 => (if (bt291.1 == bt295.1 && (bt291.2.1 == bt295.2.1 && (bt291.2.2.1 == bt295.2.2.1 && (bt291.2.2.2 == bt295.2.2.2)))) = true then ((impl_Fade.f t255 t256 t257 t258 256).bind fun bt299 => ((impl_Thin.f t255 t256 t257 t258 5).bind fun bt303 => (if (bt299.1 == bt303.1 && (bt299.2.1 == bt303.2.1 && (bt299.2.2.1 == bt303.2.2.1 && (bt299.2.2.2 == bt303.2.2.2)))) = true then ((spec_Thin.f k t255 t256 t257 t258 (Int.tmod (rd t265 1) 5)).bind fun bt308 => (some (t275 == bt308.1 && (t276 == bt308.2.1 && (t277 == bt308.2.2.1 && (t278 == bt308.2.2.2)))))) else (some false)))) else (some false)))) else (some false)) = some r := H
                        have A22 := Aside0.mk A220
                        clear A220
                        by_cases c23 : (t287 == t255 && (t288 == t256 && (t289 == t257 && (t290 == t258)))) = true
                        · rw [if_pos c23] at H
                          have c23b0 : (t287 == t255 && (t288 == t256 && (t289 == t257 && (t290 == t258)))) = true := c23
                          (try (have c23b1 : decide (t287 = t255 && (t288 == t256 && (t289 == t257 && (t290 == t258)))) = true := by simpa using c23))
                          (try (have c23b2 : (t287 == t255 && (t288 == t256 && (t289 == t257 && (t290 == t258)))) = true := by simpa using c23))
                          clear c23
                          replace H := Option.bind_eq_some_iff.mp H
                          obtain ⟨⟨t291, t292, t293, t294⟩, A240, H⟩ := H
                          replace H : ((impl_Thin.f t255 t256 t257 t258 0).bind fun bt295 => (if (t291 == bt295.1 && (t292 == bt295.2.1 && (t293 == bt295.2.2.1 && (t294 == bt295.2.2.2)))) = true then ((impl_Fade.f t255 t256 t257 t258 256).bind fun bt299 => ((impl_Thin.f t255 t256 t257 t258 5).bind fun bt303 => (if (bt299.1 == bt303.1 && (bt299.2.1 == bt303.2.1 && (bt299.2.2.1 == bt303.2.2.1 && (bt299.2.2.2 == bt303.2.2.2)))) = true then ((spec_Thin.f k t255 t256 t257 t258 (Int.tmod (rd t265 1) 5)).bind fun bt308 => (some (t275 == bt308.1 && (t276 == bt308.2.1 && (t277 == bt308.2.2.1 && (t278 == bt308.2.2.2)))))) else (some false)))) else (some false))) = some r := H
                          have A24 := Aside0.mk A240
                          clear A240
                          replace H := Option.bind_eq_some_iff.mp H
                          obtain ⟨⟨t295, t296, t297, t298⟩, A250, H⟩ := H
                          replace H : (if (t291 == t295 && (t292 == t296 && (t293 == t297 && (t294 == t298)))) = true then ((impl_Fade.f t255 t256 t257 t258 256).bind fun bt299 => ((impl_Thin.f t255 t256 t257 t258 5).bind fun bt303 => (if (bt299.1 == bt303.1 && (bt299.2.1 == bt303.2.1 && (bt299.2.2.1 == bt303.2.2.1 && (bt299.2.2.2 == bt303.2.2.2)))) = true then ((spec_Thin.f k t255 t256 t257 t258 (Int.tmod (rd t265 1) 5)).bind fun bt308 => (some (t275 == bt308.1 && (t276 == bt308.2.1 && (t277 == bt308.2.2.1 && (t278 == bt308.2.2.2)))))) else (some false)))) else (some false)) = some r := H
                          have A25 := Aside0.mk A250
                          clear A250
                          by_cases c26 : (t291 == t295 && (t292 == t296 && (t293 == t297 && (t294 == t298)))) = true
                          · rw [if_pos c26] at H
                            have c26b0 : (t291 == t295 && (t292 == t296 && (t293 == t297 && (t294 == t298)))) = true := c26
                            (try (have c26b1 : decide (t291 = t295 && (t292 == t296 && (t293 == t297 && (t294 == t298)))) = true := by simpa using c26))
                            (try (have c26b2 : (t291 == t295 && (t292 == t296 && (t293 == t297 && (t294 == t298)))) = true := by simpa using c26))
                            clear c26
                            replace H := Option.bind_eq_some_iff.mp H
                            obtain ⟨⟨t299, t300, t301, t302⟩, A270, H⟩ := H
                            replace H : ((impl_Thin.f t255 t256 t257 t258 5).bind fun bt303 => (if (t299 == bt303.1 && (t300 == bt303.2.1 && (t301 == bt303.2.2.1 && (t302 == bt303.2.2.2)))) = true then ((spec_Thin.f k t255 t256 t257 t258 (Int.tmod (rd t265 1) 5)).bind fun bt308 => (some (t275 == bt308.1 && (t276 == bt308.2.1 && (t277 == bt308.2.2.1 && (t278 == bt308.2.2.2)))))) else (some false))) = some r := H
                            have A27 := Aside0.mk A270
                            clear A270
                            replace H := Option.bind_eq_some_iff.mp H
                            obtain ⟨⟨t303, t304, t305, t306⟩, A280, H⟩ := H
                            replace H : (if (t299 == t303 && (t300 == t304 && (t301 == t305 && (t302 == t306)))) = true then ((spec_Thin.f k t255 t256 t257 t258 (Int.tmod (rd t265 1) 5)).bind fun bt308 => (some (t275 == bt308.1 && (t276 == bt308.2.1 && (t277 == bt308.2.2.1 && (t278 == bt308.2.2.2)))))) else (some false)) = some r := H
                            have A28 := Aside0.mk A280
                            clear A280
                            by_cases c29 : (t299 == t303 && (t300 == t304 && (t301 == t305 && (t302 == t306)))) = true
                            · rw [if_pos c29] at H
                              have c29b0 : (t299 == t303 && (t300 == t304 && (t301 == t305 && (t302 == t306)))) = true := c29
                              (try (have c29b1 : decide (t299 = t303 && (t300 == t304 && (t301 == t305 && (t302 == t306)))) = true := by simpa using c29))
                              (try (have c29b2 : (t299 == t303 && (t300 == t304 && (t301 == t305 && (t302 == t306)))) = true := by simpa using c29))
                              clear c29
                              replace H := Option.bind_eq_some_iff.mp H
                              obtain ⟨⟨t308, t309, t310, t311⟩, A300, H⟩ := H
                              replace H : (some (t275 == t308 && (t276 == t309 && (t277 == t310 && (t278 == t311))))) = some r := H
                              have A30 := Aside0.mk A300
                              clear A300
                              obtain rfl := Option.some.inj H
                              simp only [Option.some.injEq, Prod.mk.injEq] at H
                              obtain ⟨rfl⟩ := H
                              go_enter Try.func8, Try.ntmps8
                              try go_wp2_with (first | ((with_reducible refine gate_callee (f := 38) rfl ?_); refine goesL_ (some 9) rfl rfl Try.func38 (by kernel_rfl) rfl #[.slice A0 l0.length c0] rfl (by (try simp only [List.map_toArray, List.map_cons, List.map_nil]); first | done | rfl | (simp only [List.length_drop, List.length_take]; rfl)) ?_; (with_reducible refine (laws_big.calls _ _ l0 false _ ?side1 ?side2 A2.out).mono ?_); (case side1 => repeat (first | exact HR0.out | (with_reducible refine Kd.C_alloc ?_ _) | (with_reducible refine Kd.C_drewN ?_ _) | (with_reducible refine Kd.C_drew ?_))); (case side2 => exact HC0.out); rintro e w' ⟨rfl, ⟨nd, rfl⟩⟩; refine ⟨_, rfl, ?_⟩) | ((with_reducible refine gate_callee (f := 39) rfl ?_); refine goesL_ (some 12) rfl rfl Try.func39 (by kernel_rfl) rfl #[.slice A0 l0.length c0] rfl (by (try simp only [List.map_toArray, List.map_cons, List.map_nil]); first | done | rfl | (simp only [List.length_drop, List.length_take]; rfl)) ?_; (with_reducible refine (spec_DrawColors.calls k _ _ l0 t255 t256 t257 t258 t259 t260 t261 t262 _ ?side1 ?side2 A4.out).mono ?_); (case side1 => repeat (first | exact HR0.out | (with_reducible refine Kd.C_alloc ?_ _) | (with_reducible refine Kd.C_drewN ?_ _) | (with_reducible refine Kd.C_drew ?_))); (case side2 => exact HC0.out); rintro e w31 ⟨rfl, hb⟩; refine ⟨_, rfl, ?_⟩; have n0_ := Aside0.mk (below_step (by repeat (first | (with_reducible first | exact HB.out | apply below_alloc | apply pw_below_drewN | apply below_drew1) | exact HB.out)) hb); clear HB; have HB := n0_; clear n0_; (try clear hb); (try clear hb2); (try clear hk); (try clear hi)) | ((with_reducible refine gate_dst (N := 3) rfl ?_); refine box_event ?hg (N := 3) ?hd (cs := #[.int .i64 0, .int .i64 0, .int .i64 0, .int .i64 0]) (t := 27) ?hr ?_; (case hd => rfl); (case hg => rfl); (case hr => first | (go_simp; done) | (go_simp; rfl)); intro gb263 hg w32 hbox hb; have n0_ := Aside0.mk (below_step (by repeat (first | (with_reducible first | exact HB.out | apply below_alloc | apply pw_below_drewN | apply below_drew1) | exact HB.out)) hb); have n1_ := Aside0.mk (hbox); have n2_ := Aside0.mk ((by rw [hg]; exact (below_size (by repeat (first | (with_reducible first | exact HB.out | apply below_alloc | apply pw_below_drewN | apply below_drew1) | exact HB.out))) : w.heap.size ≤ gb263)); have n3_ := Aside0.mk ((by rw [hg]; exact (below_size (by repeat (first | (with_reducible first | exact HB.out | apply below_alloc | apply pw_below_drewN | apply below_drew1) | exact HB.out))) : w.heap.size ≤ gb263)); clear HB; have HB := n0_; have BK263 := n1_; have GW263 := n2_; have GE263 := n3_; clear n0_ n1_ n2_ n3_; clear hb hbox hg) | ((with_reducible refine gate_dst (N := 4) rfl ?_); refine box_event ?hg (N := 4) ?hd (cs := #[.int .i64 0, .int .i64 0, .int .i64 0, .int .i64 0]) (t := 27) ?hr ?_; (case hd => rfl); (case hg => rfl); (case hr => first | (go_simp; done) | (go_simp; rfl)); intro gb264 hg w33 hbox hb; have n0_ := Aside0.mk (blk_below (g := gb263) (o := .cells #[.int .i64 0, .int .i64 0, .int .i64 0, .int .i64 0] 27 (0, 0)) (by (with_reducible repeat (first | refine blk_drewN ?_ _ | refine blk_drew ?_ | refine blk_alloc ?_ _)); exact BK263.out) hb); have n1_ := Aside0.mk (below_step (by repeat (first | (with_reducible first | exact HB.out | apply below_alloc | apply pw_below_drewN | apply below_drew1 | refine below_set ?_ GE263.out) | exact HB.out)) hb); have n2_ := Aside0.mk (hbox); have n3_ := Aside0.mk ((by rw [hg]; exact (below_size (by repeat (first | (with_reducible first | exact HB.out | apply below_alloc | apply pw_below_drewN | apply below_drew1 | refine below_set ?_ GE263.out) | exact HB.out))) : w.heap.size ≤ gb264)); have n4_ := Aside0.mk ((by rw [hg]; exact (below_size (by repeat (first | (with_reducible first | exact HB.out | apply below_alloc | apply pw_below_drewN | apply below_drew1 | refine below_set ?_ GE263.out) | exact HB.out))) : w.heap.size ≤ gb264)); have n5_ := Aside0.mk ((by rw [hg]; exact Nat.ne_of_lt (blk_lt (g := gb263) (o := .cells #[.int .i64 0, .int .i64 0, .int .i64 0, .int .i64 0] 27 (0, 0)) (by (with_reducible repeat (first | refine blk_drewN ?_ _ | refine blk_drew ?_ | refine blk_alloc ?_ _)); exact BK263.out)) : gb263 ≠ gb264)); have n6_ := Aside0.mk ((by rw [hg]; exact Nat.ne_of_gt (blk_lt (g := gb263) (o := .cells #[.int .i64 0, .int .i64 0, .int .i64 0, .int .i64 0] 27 (0, 0)) (by (with_reducible repeat (first | refine blk_drewN ?_ _ | refine blk_drew ?_ | refine blk_alloc ?_ _)); exact BK263.out)) : gb264 ≠ gb263)); clear BK263; clear HB; have BK263 := n0_; have HB := n1_; have BK264 := n2_; have GW264 := n3_; have GE264 := n4_; have NB263_264 := n5_; have NB264_263 := n6_; clear n0_ n1_ n2_ n3_ n4_ n5_ n6_; clear hb hbox hg; have hnb34 := NB263_264.out; have hnc34 := NB264_263.out; have hcz35_0 : w33.cell? ⟨gb263, 0, none⟩ = some (.int .i64 0) := (blk_cell BK263.out 0).trans rfl; have hcz35_1 : w33.cell? ⟨gb263, 1, none⟩ = some (.int .i64 0) := (blk_cell BK263.out 1).trans rfl; have hcz35_2 : w33.cell? ⟨gb263, 2, none⟩ = some (.int .i64 0) := (blk_cell BK263.out 2).trans rfl; have hcz35_3 : w33.cell? ⟨gb263, 3, none⟩ = some (.int .i64 0) := (blk_cell BK263.out 3).trans rfl; have hfz35_0 := blk_frozen BK263.out 0; have hfz35_1 := blk_frozen BK263.out 1; have hfz35_2 := blk_frozen BK263.out 2; have hfz35_3 := blk_frozen BK263.out 3; have hcz36_0 : w33.cell? ⟨gb264, 0, none⟩ = some (.int .i64 0) := (blk_cell BK264.out 0).trans rfl; have hcz36_1 : w33.cell? ⟨gb264, 1, none⟩ = some (.int .i64 0) := (blk_cell BK264.out 1).trans rfl; have hcz36_2 : w33.cell? ⟨gb264, 2, none⟩ = some (.int .i64 0) := (blk_cell BK264.out 2).trans rfl; have hcz36_3 : w33.cell? ⟨gb264, 3, none⟩ = some (.int .i64 0) := (blk_cell BK264.out 3).trans rfl; have hfz36_0 := blk_frozen BK264.out 0; have hfz36_1 := blk_frozen BK264.out 1; have hfz36_2 := blk_frozen BK264.out 2; have hfz36_3 := blk_frozen BK264.out 3) | ((with_reducible refine gate_callee (f := 40) rfl ?_); refine goesL_ (some 16) rfl rfl Try.func40 (by kernel_rfl) rfl #[.slice A0 l0.length c0] rfl (by (try simp only [List.map_toArray, List.map_cons, List.map_nil]); first | done | rfl | (simp only [List.length_drop, List.length_take]; rfl)) ?_; (with_reducible refine (spec_DrawPlaces.calls k _ _ l0 t265 _ ?side1 ?side2 A5.out).mono ?_); (case side1 => exact Kd.C_below HR0.out (by repeat (first | (with_reducible first | exact HB.out | apply below_alloc | apply pw_below_drewN | apply below_drew1 | refine below_set ?_ GE263.out | refine below_set ?_ GE264.out) | exact HB.out))); (case side2 => exact HC0.out); rintro e w37 ⟨v266, rfl, ho0, hb⟩; refine ⟨_, rfl, ?_⟩; have n0_ := Aside0.mk (Kd.R_lower ho0 (below_size (by repeat (first | (with_reducible first | exact HB.out | apply below_alloc | apply pw_below_drewN | apply below_drew1 | refine below_set ?_ GE263.out | refine below_set ?_ GE264.out) | exact HB.out)))); have n1_ := Aside0.mk (blk_below (g := gb263) (o := .cells #[.int .i64 t255, .int .i64 t256, .int .i64 t257, .int .i64 t258] 27 (0, 0)) (by (with_reducible repeat (first | refine blk_drewN ?_ _ | refine blk_drew ?_ | refine blk_alloc ?_ _)); refine blk_far ?_ NB263_264.out _; (with_reducible repeat (first | refine blk_drewN ?_ _ | refine blk_drew ?_ | refine blk_alloc ?_ _)); refine blk_far ?_ NB263_264.out _; (with_reducible repeat (first | refine blk_drewN ?_ _ | refine blk_drew ?_ | refine blk_alloc ?_ _)); refine blk_far ?_ NB263_264.out _; (with_reducible repeat (first | refine blk_drewN ?_ _ | refine blk_drew ?_ | refine blk_alloc ?_ _)); refine blk_far ?_ NB263_264.out _; (with_reducible repeat (first | refine blk_drewN ?_ _ | refine blk_drew ?_ | refine blk_alloc ?_ _)); refine blk_put (cs := #[.int .i64 t255, .int .i64 t256, .int .i64 t257, .int .i64 0]) ?_ 3 _ rfl; (with_reducible repeat (first | refine blk_drewN ?_ _ | refine blk_drew ?_ | refine blk_alloc ?_ _)); refine blk_put (cs := #[.int .i64 t255, .int .i64 t256, .int .i64 0, .int .i64 0]) ?_ 2 _ rfl; (with_reducible repeat (first | refine blk_drewN ?_ _ | refine blk_drew ?_ | refine blk_alloc ?_ _)); refine blk_put (cs := #[.int .i64 t255, .int .i64 0, .int .i64 0, .int .i64 0]) ?_ 1 _ rfl; (with_reducible repeat (first | refine blk_drewN ?_ _ | refine blk_drew ?_ | refine blk_alloc ?_ _)); refine blk_put (cs := #[.int .i64 0, .int .i64 0, .int .i64 0, .int .i64 0]) ?_ 0 _ rfl; (with_reducible repeat (first | refine blk_drewN ?_ _ | refine blk_drew ?_ | refine blk_alloc ?_ _)); exact BK263.out) hb); have n2_ := Aside0.mk (blk_below (g := gb264) (o := .cells #[.int .i64 t259, .int .i64 t260, .int .i64 t261, .int .i64 t262] 27 (0, 0)) (by (with_reducible repeat (first | refine blk_drewN ?_ _ | refine blk_drew ?_ | refine blk_alloc ?_ _)); refine blk_put (cs := #[.int .i64 t259, .int .i64 t260, .int .i64 t261, .int .i64 0]) ?_ 3 _ rfl; (with_reducible repeat (first | refine blk_drewN ?_ _ | refine blk_drew ?_ | refine blk_alloc ?_ _)); refine blk_put (cs := #[.int .i64 t259, .int .i64 t260, .int .i64 0, .int .i64 0]) ?_ 2 _ rfl; (with_reducible repeat (first | refine blk_drewN ?_ _ | refine blk_drew ?_ | refine blk_alloc ?_ _)); refine blk_put (cs := #[.int .i64 t259, .int .i64 0, .int .i64 0, .int .i64 0]) ?_ 1 _ rfl; (with_reducible repeat (first | refine blk_drewN ?_ _ | refine blk_drew ?_ | refine blk_alloc ?_ _)); refine blk_put (cs := #[.int .i64 0, .int .i64 0, .int .i64 0, .int .i64 0]) ?_ 0 _ rfl; (with_reducible repeat (first | refine blk_drewN ?_ _ | refine blk_drew ?_ | refine blk_alloc ?_ _)); refine blk_far ?_ NB264_263.out _; (with_reducible repeat (first | refine blk_drewN ?_ _ | refine blk_drew ?_ | refine blk_alloc ?_ _)); refine blk_far ?_ NB264_263.out _; (with_reducible repeat (first | refine blk_drewN ?_ _ | refine blk_drew ?_ | refine blk_alloc ?_ _)); refine blk_far ?_ NB264_263.out _; (with_reducible repeat (first | refine blk_drewN ?_ _ | refine blk_drew ?_ | refine blk_alloc ?_ _)); refine blk_far ?_ NB264_263.out _; (with_reducible repeat (first | refine blk_drewN ?_ _ | refine blk_drew ?_ | refine blk_alloc ?_ _)); exact BK264.out) hb); have n3_ := Aside0.mk (below_step (by repeat (first | (with_reducible first | exact HB.out | apply below_alloc | apply pw_below_drewN | apply below_drew1 | refine below_set ?_ GE263.out | refine below_set ?_ GE264.out) | exact HB.out)) hb); clear BK263; clear BK264; clear HB; have HO267 := n0_; have BK263 := n1_; have BK264 := n2_; have HB := n3_; clear n0_ n1_ n2_ n3_; (try clear hb); (try clear hb2); (try clear hk); (try clear hi); (try clear ho0)))
                              have n0_ := Aside0.mk (Kd.R_drew HO267.out)
                              have n1_ := Aside0.mk (blk_drew BK263.out)
                              have n2_ := Aside0.mk (blk_drew BK264.out)
                              have n3_ := Aside0.mk (below_drew1 HB.out)
                              clear HO267
                              clear BK263
                              clear BK264
                              clear HB
                              have HO267 := n0_
                              have BK263 := n1_
                              have BK264 := n2_
                              have HB := n3_
                              clear n0_ n1_ n2_ n3_
                              obtain ⟨Ao39, co39, eo39⟩ := Kd.R_slice HO267.out
                              (first | subst eo39 | (injection eo39 with f1_ f2_ f3_; have f4_ := f1_.symm; have f5_ := f3_.symm; clear f1_ f2_ f3_; subst f4_; subst f5_))
                              have p268 : 0 ≤ (0 : Int) := (by omega)
                              have q268 : 0 < (t265.length : Int) := of_decide_eq_true (by first | (with_reducible assumption) | assumption)
                              obtain ⟨ad268, e268, hx268_0⟩ := Kd.at_int (Kd.R_reads' HO267.out).2.2 0 p268 q268
                              cases e268
                              have qi268 : (0 < t265.length) = True := eq_true (by omega)
                              (try rw [show ((0 : Int)).toNat = 0 from rfl] at hx268_0)
                              (try rw [Addr.add_zero'] at hx268_0)
                              replace p268 := eq_true p268
                              replace q268 := eq_true q268
                              refine start_ (n := 8) (S := fun w' => w'.cell? ⟨gb263, 0, none⟩ = some (.int .i64 t255) ∧ w'.cell? ⟨gb263, 1, none⟩ = some (.int .i64 t256) ∧ w'.cell? ⟨gb263, 2, none⟩ = some (.int .i64 t257) ∧ w'.cell? ⟨gb263, 3, none⟩ = some (.int .i64 t258) ∧ w'.cell? ad268 = some (.int .i64 (rd t265 0))) (ds := []) #[false, false, false, false, false, false, false, false] (by kernel_rfl) rfl rfl ⟨(blk_cell BK263.out 0).trans rfl, (blk_cell BK263.out 1).trans rfl, (blk_cell BK263.out 2).trans rfl, (blk_cell BK263.out 3).trans rfl, hx268_0⟩ (fun hHeld => ?_); refine with_tabW laws_FnFades.tab5 laws_FnFades.bits5 (fun HT_ HW_ => ?_)
                              generalize w37.drew = w38 at HO267 BK263 BK264 HB hx268_0 hHeld ⊢
                              refine pure_ (i := 1) (N := some 18) (v := ?_) (a' := ?_) #[false, true, false, false, false, false, false, false] rfl rfl (any_of HT_.out (by kernel_rfl)) (fun _ _ _ h => h) (Or.inl ⟨by rfl, ?_⟩) ?_ ?_
                              rotate_left
                              · intro w'
                                go_simp
                                with_reducible rfl
                              rotate_left
                              · simp only [Act.put, List.setIfInBounds_toArray, List.set_cons_zero, List.set_cons_succ, i64_w, i32_w]
                                rfl
                              refine pure_ (i := 2) (N := some 19) (v := ?_) (a' := ?_) #[false, true, true, false, false, false, false, false] rfl rfl (any_of HT_.out (by kernel_rfl)) (fun _ _ _ h => h) (Or.inl ⟨by rfl, ?_⟩) ?_ ?_
                              rotate_left
                              · intro w'
                                go_simp
                                with_reducible rfl
                              rotate_left
                              · simp only [Act.put, List.setIfInBounds_toArray, List.set_cons_zero, List.set_cons_succ, i64_w, i32_w]
                                rfl
                              refine take_ (i := 0) (N := some 17) (v := ?_) (a' := ?_) #[true, true, true, false, false, false, false, false] rfl rfl (take_ofW HT_.out HW_.out (by kernel_rfl)) (fun _ _ _ h => h) (Or.inl ⟨by rfl, ?_⟩) hHeld ?_ ?_
                              rotate_left
                              · rintro w' ⟨s0, s1, s2, s3, s4⟩
                                go_simp
                                with_reducible rfl
                              rotate_left
                              · simp only [Act.put, List.setIfInBounds_toArray, List.set_cons_zero, List.set_cons_succ, i64_w, i32_w]
                                rfl
                              refine take_ (i := 3) (N := some 20) (v := ?_) (a' := ?_) #[true, true, true, true, false, false, false, false] rfl rfl (take_ofW HT_.out HW_.out (by kernel_rfl)) (fun _ _ _ h => h) (Or.inl ⟨by rfl, ?_⟩) hHeld ?_ ?_
                              rotate_left
                              · rintro w' ⟨s0, s1, s2, s3, s4⟩
                                go_simp
                                with_reducible rfl
                              rotate_left
                              · simp only [Act.put, List.setIfInBounds_toArray, List.set_cons_zero, List.set_cons_succ, i64_w, i32_w]
                                rfl
                              refine pure_ (i := 4) (N := some 21) (v := ?_) (a' := ?_) #[true, true, true, true, true, false, false, false] rfl rfl (any_of HT_.out (by kernel_rfl)) (fun _ _ _ h => h) (Or.inl ⟨by rfl, ?_⟩) ?_ ?_
                              rotate_left
                              · intro w'
                                go_simp
                                with_reducible rfl
                              rotate_left
                              · simp only [Act.put, List.setIfInBounds_toArray, List.set_cons_zero, List.set_cons_succ, i64_w, i32_w]
                                rfl
                              refine join_ (σ := Nat) 1 #[true, true, true, true, true, true, true, false] (fun s_ => [(22, .agg #[.int .i64 t269, .int .i64 t270, .int .i64 t271, .int .i64 t272]), (6, .pointer (some ⟨s_, 0, none⟩))]) (fun s_ w' => (w'.cell? ⟨gb263, 0, none⟩ = some (.int .i64 t255) ∧ w'.cell? ⟨gb263, 1, none⟩ = some (.int .i64 t256) ∧ w'.cell? ⟨gb263, 2, none⟩ = some (.int .i64 t257) ∧ w'.cell? ⟨gb263, 3, none⟩ = some (.int .i64 t258) ∧ w'.cell? ad268 = some (.int .i64 (rd t265 0))) ∧ (Kd.R (Kd.int .i64) 3 w' w.heap.size (fun _ => True) (.slice (some ad268) t265.length co39) t265) ∧ (w'.heap[gb263]? = some (.cells #[.int .i64 t255, .int .i64 t256, .int .i64 t257, .int .i64 t258] 27 (0, 0))) ∧ (w'.heap[gb264]? = some (.cells #[.int .i64 t259, .int .i64 t260, .int .i64 t261, .int .i64 t262] 27 (0, 0))) ∧ (w'.heap[s_]? = some (.cells #[.int .i64 0, .int .i64 0, .int .i64 0, .int .i64 0] 27 (0, 0))) ∧ (w.heap.size ≤ s_) ∧ (w.heap.size ≤ s_) ∧ (gb263 ≠ s_) ∧ (s_ ≠ gb263) ∧ (gb264 ≠ s_) ∧ (s_ ≠ gb264) ∧ (Below w.heap.size w w')) ?_ ?_
                              rotate_left
                              · intro hCont
                                refine two_ (i := 5) (j := 6) (Ni := some 22) (Nj := some 6) #[true, true, true, true, true, true, false, false] #[true, true, true, true, true, false, true, false] rfl rfl rfl rfl (two_of HT_.out (by kernel_rfl)) (by decide) (by decide) (fun K hK => ?_) (fun K hK => ?_)
                                · skip
                                  refine goes_ Try.func41 (by kernel_rfl) rfl #[.agg #[.int .i64 t255, .int .i64 t256, .int .i64 t257, .int .i64 t258], .int .i64 (Int.tmod (rd t265 0) 256)] (by rfl) rfl rfl (by (try simp only [List.map_toArray, List.map_cons, List.map_nil]); first | done | rfl | (simp only [List.length_drop, List.length_take]; rfl)) ?_
                                  with_reducible refine (impl_Fade.calls t255 t256 t257 t258 (Int.tmod (rd t265 0) 256) t269 t270 t271 t272 _ A7.out).mono ?_
                                  rintro e w40 ⟨rfl, hb⟩
                                  have HS4_ := (hb.cell (World.block_lt_of_cell? _ _ (hHeld.2.2.2.2))).trans (hHeld.2.2.2.2)
                                  refine ⟨_, rfl, ?_⟩
                                  have n0_ := Aside0.mk (Kd.R_below (by (with_reducible repeat (first | apply Kd.R_alloc | apply Kd.R_drewN | apply Kd.R_drew)); exact HO267.out) hb)
                                  have n1_ := Aside0.mk (blk_below (g := gb263) (o := .cells #[.int .i64 t255, .int .i64 t256, .int .i64 t257, .int .i64 t258] 27 (0, 0)) (by (with_reducible repeat (first | refine blk_drewN ?_ _ | refine blk_drew ?_ | refine blk_alloc ?_ _)); exact BK263.out) hb)
                                  have n2_ := Aside0.mk (blk_below (g := gb264) (o := .cells #[.int .i64 t259, .int .i64 t260, .int .i64 t261, .int .i64 t262] 27 (0, 0)) (by (with_reducible repeat (first | refine blk_drewN ?_ _ | refine blk_drew ?_ | refine blk_alloc ?_ _)); exact BK264.out) hb)
                                  have n3_ := Aside0.mk (below_step (by repeat (first | (with_reducible first | exact HB.out | apply below_alloc | apply pw_below_drewN | apply below_drew1 | refine below_set ?_ GE263.out | refine below_set ?_ GE264.out) | exact HB.out)) hb)
                                  clear HO267
                                  clear BK263
                                  clear BK264
                                  clear HB
                                  have HO267 := n0_
                                  have BK263 := n1_
                                  have BK264 := n2_
                                  have HB := n3_
                                  clear n0_ n1_ n2_ n3_
                                  (try clear hb)
                                  (try clear hb2)
                                  (try clear hk)
                                  (try clear hi)
                                  refine hK.out _ _ ⟨(blk_cell BK263.out 0).trans rfl, (blk_cell BK263.out 1).trans rfl, (blk_cell BK263.out 2).trans rfl, (blk_cell BK263.out 3).trans rfl, HS4_⟩ (fun hHeld => ?_)
                                  clear hK K
                                  refine norm_ (a' := ?_) ?_ ?_
                                  rotate_left
                                  · show Act.put _ (some 22) _ = _
                                    simp only [Act.put, List.setIfInBounds_toArray, List.set_cons_zero, List.set_cons_succ, i64_w, i32_w]
                                    rfl
                                  refine one_ (i := 6) (N := some 6) #[true, true, true, true, true, true, true, false] rfl rfl (one_of HT_.out (by kernel_rfl)) (by decide) (fun K hK => ?_)
                                  refine box_step ?hg (N := 6) ?hd (cs := #[.int .i64 0, .int .i64 0, .int .i64 0, .int .i64 0]) (t := 27) ?hr ?_; (case hd => rfl); (case hg => rfl); (case hr => first | (go_simp; done) | (go_simp; rfl))
                                  intro gb273 hg w41 hbox hb
                                  have HS4_ := (hb.cell (World.block_lt_of_cell? _ _ (hHeld.2.2.2.2))).trans (hHeld.2.2.2.2)
                                  have n0_ := Aside0.mk (Kd.R_below (by (with_reducible repeat (first | apply Kd.R_alloc | apply Kd.R_drewN | apply Kd.R_drew)); exact HO267.out) hb)
                                  have n1_ := Aside0.mk (blk_below (g := gb263) (o := .cells #[.int .i64 t255, .int .i64 t256, .int .i64 t257, .int .i64 t258] 27 (0, 0)) (by (with_reducible repeat (first | refine blk_drewN ?_ _ | refine blk_drew ?_ | refine blk_alloc ?_ _)); exact BK263.out) hb)
                                  have n2_ := Aside0.mk (blk_below (g := gb264) (o := .cells #[.int .i64 t259, .int .i64 t260, .int .i64 t261, .int .i64 t262] 27 (0, 0)) (by (with_reducible repeat (first | refine blk_drewN ?_ _ | refine blk_drew ?_ | refine blk_alloc ?_ _)); exact BK264.out) hb)
                                  have n3_ := Aside0.mk (below_step (by repeat (first | (with_reducible first | exact HB.out | apply below_alloc | apply pw_below_drewN | apply below_drew1 | refine below_set ?_ GE263.out | refine below_set ?_ GE264.out) | exact HB.out)) hb)
                                  have n4_ := Aside0.mk (hbox)
                                  have n5_ := Aside0.mk ((by rw [hg]; exact (below_size (by repeat (first | (with_reducible first | exact HB.out | apply below_alloc | apply pw_below_drewN | apply below_drew1 | refine below_set ?_ GE263.out | refine below_set ?_ GE264.out) | exact HB.out))) : w.heap.size ≤ gb273))
                                  have n6_ := Aside0.mk ((by rw [hg]; exact (below_size (by repeat (first | (with_reducible first | exact HB.out | apply below_alloc | apply pw_below_drewN | apply below_drew1 | refine below_set ?_ GE263.out | refine below_set ?_ GE264.out) | exact HB.out))) : w.heap.size ≤ gb273))
                                  have n7_ := Aside0.mk ((by rw [hg]; exact Nat.ne_of_lt (blk_lt (g := gb263) (o := .cells #[.int .i64 t255, .int .i64 t256, .int .i64 t257, .int .i64 t258] 27 (0, 0)) (by (with_reducible repeat (first | refine blk_drewN ?_ _ | refine blk_drew ?_ | refine blk_alloc ?_ _)); exact BK263.out)) : gb263 ≠ gb273))
                                  have n8_ := Aside0.mk ((by rw [hg]; exact Nat.ne_of_gt (blk_lt (g := gb263) (o := .cells #[.int .i64 t255, .int .i64 t256, .int .i64 t257, .int .i64 t258] 27 (0, 0)) (by (with_reducible repeat (first | refine blk_drewN ?_ _ | refine blk_drew ?_ | refine blk_alloc ?_ _)); exact BK263.out)) : gb273 ≠ gb263))
                                  have n9_ := Aside0.mk ((by rw [hg]; exact Nat.ne_of_lt (blk_lt (g := gb264) (o := .cells #[.int .i64 t259, .int .i64 t260, .int .i64 t261, .int .i64 t262] 27 (0, 0)) (by (with_reducible repeat (first | refine blk_drewN ?_ _ | refine blk_drew ?_ | refine blk_alloc ?_ _)); exact BK264.out)) : gb264 ≠ gb273))
                                  have n10_ := Aside0.mk ((by rw [hg]; exact Nat.ne_of_gt (blk_lt (g := gb264) (o := .cells #[.int .i64 t259, .int .i64 t260, .int .i64 t261, .int .i64 t262] 27 (0, 0)) (by (with_reducible repeat (first | refine blk_drewN ?_ _ | refine blk_drew ?_ | refine blk_alloc ?_ _)); exact BK264.out)) : gb273 ≠ gb264))
                                  clear HO267
                                  clear BK263
                                  clear BK264
                                  clear HB
                                  have HO267 := n0_
                                  have BK263 := n1_
                                  have BK264 := n2_
                                  have HB := n3_
                                  have BK273 := n4_
                                  have GW273 := n5_
                                  have GE273 := n6_
                                  have NB263_273 := n7_
                                  have NB273_263 := n8_
                                  have NB264_273 := n9_
                                  have NB273_264 := n10_
                                  clear n0_ n1_ n2_ n3_ n4_ n5_ n6_ n7_ n8_ n9_ n10_
                                  clear hb hbox hg
                                  refine hK.out _ _ ⟨(blk_cell BK263.out 0).trans rfl, (blk_cell BK263.out 1).trans rfl, (blk_cell BK263.out 2).trans rfl, (blk_cell BK263.out 3).trans rfl, HS4_⟩ (fun hHeld => ?_)
                                  clear hK K
                                  refine norm_ (a' := ?_) ?_ ?_
                                  rotate_left
                                  · show Act.put _ (some 6) _ = _
                                    simp only [Act.put, List.setIfInBounds_toArray, List.set_cons_zero, List.set_cons_succ, i64_w, i32_w]
                                    rfl
                                  exact norm_ (by simp only [putAll, Act.put, List.setIfInBounds_toArray, List.set_cons_zero, List.set_cons_succ]) (hCont (gb273) _ ⟨hHeld, (by (with_reducible repeat (first | apply Kd.R_alloc | apply Kd.R_drewN | apply Kd.R_drew)); exact HO267.out), (by (with_reducible repeat (first | refine blk_drewN ?_ _ | refine blk_drew ?_ | refine blk_alloc ?_ _)); exact BK263.out), (by (with_reducible repeat (first | refine blk_drewN ?_ _ | refine blk_drew ?_ | refine blk_alloc ?_ _)); exact BK264.out), (by (with_reducible repeat (first | refine blk_drewN ?_ _ | refine blk_drew ?_ | refine blk_alloc ?_ _)); exact BK273.out), GW273.out, GE273.out, NB263_273.out, NB273_263.out, NB264_273.out, NB273_264.out, (by repeat (first | (with_reducible first | exact HB.out | apply below_alloc | apply pw_below_drewN | apply below_drew1 | refine below_set ?_ GE263.out | refine below_set ?_ GE264.out | refine below_set ?_ GE273.out) | exact HB.out))⟩)
                                · skip
                                  refine box_step ?hg (N := 6) ?hd (cs := #[.int .i64 0, .int .i64 0, .int .i64 0, .int .i64 0]) (t := 27) ?hr ?_; (case hd => rfl); (case hg => rfl); (case hr => first | (go_simp; done) | (go_simp; rfl))
                                  intro gb273 hg w40 hbox hb
                                  have HS4_ := (hb.cell (World.block_lt_of_cell? _ _ (hHeld.2.2.2.2))).trans (hHeld.2.2.2.2)
                                  have n0_ := Aside0.mk (Kd.R_below (by (with_reducible repeat (first | apply Kd.R_alloc | apply Kd.R_drewN | apply Kd.R_drew)); exact HO267.out) hb)
                                  have n1_ := Aside0.mk (blk_below (g := gb263) (o := .cells #[.int .i64 t255, .int .i64 t256, .int .i64 t257, .int .i64 t258] 27 (0, 0)) (by (with_reducible repeat (first | refine blk_drewN ?_ _ | refine blk_drew ?_ | refine blk_alloc ?_ _)); exact BK263.out) hb)
                                  have n2_ := Aside0.mk (blk_below (g := gb264) (o := .cells #[.int .i64 t259, .int .i64 t260, .int .i64 t261, .int .i64 t262] 27 (0, 0)) (by (with_reducible repeat (first | refine blk_drewN ?_ _ | refine blk_drew ?_ | refine blk_alloc ?_ _)); exact BK264.out) hb)
                                  have n3_ := Aside0.mk (below_step (by repeat (first | (with_reducible first | exact HB.out | apply below_alloc | apply pw_below_drewN | apply below_drew1 | refine below_set ?_ GE263.out | refine below_set ?_ GE264.out) | exact HB.out)) hb)
                                  have n4_ := Aside0.mk (hbox)
                                  have n5_ := Aside0.mk ((by rw [hg]; exact (below_size (by repeat (first | (with_reducible first | exact HB.out | apply below_alloc | apply pw_below_drewN | apply below_drew1 | refine below_set ?_ GE263.out | refine below_set ?_ GE264.out) | exact HB.out))) : w.heap.size ≤ gb273))
                                  have n6_ := Aside0.mk ((by rw [hg]; exact (below_size (by repeat (first | (with_reducible first | exact HB.out | apply below_alloc | apply pw_below_drewN | apply below_drew1 | refine below_set ?_ GE263.out | refine below_set ?_ GE264.out) | exact HB.out))) : w.heap.size ≤ gb273))
                                  have n7_ := Aside0.mk ((by rw [hg]; exact Nat.ne_of_lt (blk_lt (g := gb263) (o := .cells #[.int .i64 t255, .int .i64 t256, .int .i64 t257, .int .i64 t258] 27 (0, 0)) (by (with_reducible repeat (first | refine blk_drewN ?_ _ | refine blk_drew ?_ | refine blk_alloc ?_ _)); exact BK263.out)) : gb263 ≠ gb273))
                                  have n8_ := Aside0.mk ((by rw [hg]; exact Nat.ne_of_gt (blk_lt (g := gb263) (o := .cells #[.int .i64 t255, .int .i64 t256, .int .i64 t257, .int .i64 t258] 27 (0, 0)) (by (with_reducible repeat (first | refine blk_drewN ?_ _ | refine blk_drew ?_ | refine blk_alloc ?_ _)); exact BK263.out)) : gb273 ≠ gb263))
                                  have n9_ := Aside0.mk ((by rw [hg]; exact Nat.ne_of_lt (blk_lt (g := gb264) (o := .cells #[.int .i64 t259, .int .i64 t260, .int .i64 t261, .int .i64 t262] 27 (0, 0)) (by (with_reducible repeat (first | refine blk_drewN ?_ _ | refine blk_drew ?_ | refine blk_alloc ?_ _)); exact BK264.out)) : gb264 ≠ gb273))
                                  have n10_ := Aside0.mk ((by rw [hg]; exact Nat.ne_of_gt (blk_lt (g := gb264) (o := .cells #[.int .i64 t259, .int .i64 t260, .int .i64 t261, .int .i64 t262] 27 (0, 0)) (by (with_reducible repeat (first | refine blk_drewN ?_ _ | refine blk_drew ?_ | refine blk_alloc ?_ _)); exact BK264.out)) : gb273 ≠ gb264))
                                  clear HO267
                                  clear BK263
                                  clear BK264
                                  clear HB
                                  have HO267 := n0_
                                  have BK263 := n1_
                                  have BK264 := n2_
                                  have HB := n3_
                                  have BK273 := n4_
                                  have GW273 := n5_
                                  have GE273 := n6_
                                  have NB263_273 := n7_
                                  have NB273_263 := n8_
                                  have NB264_273 := n9_
                                  have NB273_264 := n10_
                                  clear n0_ n1_ n2_ n3_ n4_ n5_ n6_ n7_ n8_ n9_ n10_
                                  clear hb hbox hg
                                  refine hK.out _ _ ⟨(blk_cell BK263.out 0).trans rfl, (blk_cell BK263.out 1).trans rfl, (blk_cell BK263.out 2).trans rfl, (blk_cell BK263.out 3).trans rfl, HS4_⟩ (fun hHeld => ?_)
                                  clear hK K
                                  refine norm_ (a' := ?_) ?_ ?_
                                  rotate_left
                                  · show Act.put _ (some 6) _ = _
                                    simp only [Act.put, List.setIfInBounds_toArray, List.set_cons_zero, List.set_cons_succ, i64_w, i32_w]
                                    rfl
                                  refine one_ (i := 5) (N := some 22) #[true, true, true, true, true, true, true, false] rfl rfl (one_of HT_.out (by kernel_rfl)) (by decide) (fun K hK => ?_)
                                  refine goes_ Try.func41 (by kernel_rfl) rfl #[.agg #[.int .i64 t255, .int .i64 t256, .int .i64 t257, .int .i64 t258], .int .i64 (Int.tmod (rd t265 0) 256)] (by rfl) rfl rfl (by (try simp only [List.map_toArray, List.map_cons, List.map_nil]); first | done | rfl | (simp only [List.length_drop, List.length_take]; rfl)) ?_
                                  with_reducible refine (impl_Fade.calls t255 t256 t257 t258 (Int.tmod (rd t265 0) 256) t269 t270 t271 t272 _ A7.out).mono ?_
                                  rintro e w41 ⟨rfl, hb⟩
                                  have HS4_ := (hb.cell (World.block_lt_of_cell? _ _ (hHeld.2.2.2.2))).trans (hHeld.2.2.2.2)
                                  refine ⟨_, rfl, ?_⟩
                                  have n0_ := Aside0.mk (Kd.R_below (by (with_reducible repeat (first | apply Kd.R_alloc | apply Kd.R_drewN | apply Kd.R_drew)); exact HO267.out) hb)
                                  have n1_ := Aside0.mk (blk_below (g := gb263) (o := .cells #[.int .i64 t255, .int .i64 t256, .int .i64 t257, .int .i64 t258] 27 (0, 0)) (by (with_reducible repeat (first | refine blk_drewN ?_ _ | refine blk_drew ?_ | refine blk_alloc ?_ _)); exact BK263.out) hb)
                                  have n2_ := Aside0.mk (blk_below (g := gb264) (o := .cells #[.int .i64 t259, .int .i64 t260, .int .i64 t261, .int .i64 t262] 27 (0, 0)) (by (with_reducible repeat (first | refine blk_drewN ?_ _ | refine blk_drew ?_ | refine blk_alloc ?_ _)); exact BK264.out) hb)
                                  have n3_ := Aside0.mk (blk_below (g := gb273) (o := .cells #[.int .i64 0, .int .i64 0, .int .i64 0, .int .i64 0] 27 (0, 0)) (by (with_reducible repeat (first | refine blk_drewN ?_ _ | refine blk_drew ?_ | refine blk_alloc ?_ _)); exact BK273.out) hb)
                                  have n4_ := Aside0.mk (below_step (by repeat (first | (with_reducible first | exact HB.out | apply below_alloc | apply pw_below_drewN | apply below_drew1 | refine below_set ?_ GE263.out | refine below_set ?_ GE264.out | refine below_set ?_ GE273.out) | exact HB.out)) hb)
                                  clear HO267
                                  clear BK263
                                  clear BK264
                                  clear BK273
                                  clear HB
                                  have HO267 := n0_
                                  have BK263 := n1_
                                  have BK264 := n2_
                                  have BK273 := n3_
                                  have HB := n4_
                                  clear n0_ n1_ n2_ n3_ n4_
                                  (try clear hb)
                                  (try clear hb2)
                                  (try clear hk)
                                  (try clear hi)
                                  refine hK.out _ _ ⟨(blk_cell BK263.out 0).trans rfl, (blk_cell BK263.out 1).trans rfl, (blk_cell BK263.out 2).trans rfl, (blk_cell BK263.out 3).trans rfl, HS4_⟩ (fun hHeld => ?_)
                                  clear hK K
                                  refine norm_ (a' := ?_) ?_ ?_
                                  rotate_left
                                  · show Act.put _ (some 22) _ = _
                                    simp only [Act.put, List.setIfInBounds_toArray, List.set_cons_zero, List.set_cons_succ, i64_w, i32_w]
                                    rfl
                                  exact norm_ (by simp only [putAll, Act.put, List.setIfInBounds_toArray, List.set_cons_zero, List.set_cons_succ]) (hCont (gb273) _ ⟨hHeld, (by (with_reducible repeat (first | apply Kd.R_alloc | apply Kd.R_drewN | apply Kd.R_drew)); exact HO267.out), (by (with_reducible repeat (first | refine blk_drewN ?_ _ | refine blk_drew ?_ | refine blk_alloc ?_ _)); exact BK263.out), (by (with_reducible repeat (first | refine blk_drewN ?_ _ | refine blk_drew ?_ | refine blk_alloc ?_ _)); exact BK264.out), (by (with_reducible repeat (first | refine blk_drewN ?_ _ | refine blk_drew ?_ | refine blk_alloc ?_ _)); exact BK273.out), GW273.out, GE273.out, NB263_273.out, NB273_263.out, NB264_273.out, NB273_264.out, (by repeat (first | (with_reducible first | exact HB.out | apply below_alloc | apply pw_below_drewN | apply below_drew1 | refine below_set ?_ GE263.out | refine below_set ?_ GE264.out | refine below_set ?_ GE273.out) | exact HB.out))⟩)
                              rintro gb273 w42 ⟨hS_, h0_, h1_, h2_, h3_, h4_, h5_, h6_, h7_, h8_, h9_, h10_⟩
                              have n0_ : Aside0 (Kd.R (Kd.int .i64) 3 w42 w.heap.size (fun _ => True) (.slice (some ad268) t265.length co39) t265) := ⟨h0_⟩
                              have n1_ : Aside0 (w42.heap[gb263]? = some (.cells #[.int .i64 t255, .int .i64 t256, .int .i64 t257, .int .i64 t258] 27 (0, 0))) := ⟨h1_⟩
                              have n2_ : Aside0 (w42.heap[gb264]? = some (.cells #[.int .i64 t259, .int .i64 t260, .int .i64 t261, .int .i64 t262] 27 (0, 0))) := ⟨h2_⟩
                              have n3_ : Aside0 (w42.heap[gb273]? = some (.cells #[.int .i64 0, .int .i64 0, .int .i64 0, .int .i64 0] 27 (0, 0))) := ⟨h3_⟩
                              have n4_ : Aside0 (w.heap.size ≤ gb273) := ⟨h4_⟩
                              have n5_ : Aside0 (w.heap.size ≤ gb273) := ⟨h5_⟩
                              have n6_ : Aside0 (gb263 ≠ gb273) := ⟨h6_⟩
                              have n7_ : Aside0 (gb273 ≠ gb263) := ⟨h7_⟩
                              have n8_ : Aside0 (gb264 ≠ gb273) := ⟨h8_⟩
                              have n9_ : Aside0 (gb273 ≠ gb264) := ⟨h9_⟩
                              have n10_ : Aside0 (Below w.heap.size w w42) := ⟨h10_⟩
                              clear HO267
                              clear BK263
                              clear BK264
                              clear HB
                              clear h0_ h1_ h2_ h3_ h4_ h5_ h6_ h7_ h8_ h9_ h10_
                              have HO267 := n0_
                              have BK263 := n1_
                              have BK264 := n2_
                              have BK273 := n3_
                              have GW273 := n4_
                              have GE273 := n5_
                              have NB263_273 := n6_
                              have NB273_263 := n7_
                              have NB264_273 := n8_
                              have NB273_264 := n9_
                              have HB := n10_
                              clear n0_ n1_ n2_ n3_ n4_ n5_ n6_ n7_ n8_ n9_ n10_
                              have hHeld : w42.cell? ⟨gb263, 0, none⟩ = some (.int .i64 t255) ∧ w42.cell? ⟨gb263, 1, none⟩ = some (.int .i64 t256) ∧ w42.cell? ⟨gb263, 2, none⟩ = some (.int .i64 t257) ∧ w42.cell? ⟨gb263, 3, none⟩ = some (.int .i64 t258) ∧ w42.cell? ad268 = some (.int .i64 (rd t265 0)) := hS_
                              refine norm_ (a' := ?_) ?_ ?_
                              rotate_left
                              · simp only [putAll, Act.put, List.setIfInBounds_toArray, List.set_cons_zero, List.set_cons_succ]
                                rfl
                              refine one_ (i := 7) (N := none) #[true, true, true, true, true, true, true, true] rfl rfl (one_of HT_.out (by kernel_rfl)) (by decide) (fun K hK => ?_)
                              have hs43 : w42.cell? ⟨gb273, 0, none⟩ = some (.int .i64 0) := (blk_cell BK273.out 0).trans rfl
                              have hfs43 := blk_frozen BK273.out 0
                              have hns43_0 := NB263_273.out
                              have hns43_1 := NB264_273.out
                              have hms43_0 := NB273_263.out
                              have hms43_1 := NB273_264.out
                              have hs44 : w42.cell? ⟨gb273, 1, none⟩ = some (.int .i64 0) := (blk_cell BK273.out 1).trans rfl
                              have hfs44 := blk_frozen BK273.out 1
                              have hns44_0 := NB263_273.out
                              have hns44_1 := NB264_273.out
                              have hms44_0 := NB273_263.out
                              have hms44_1 := NB273_264.out
                              have hs45 : w42.cell? ⟨gb273, 2, none⟩ = some (.int .i64 0) := (blk_cell BK273.out 2).trans rfl
                              have hfs45 := blk_frozen BK273.out 2
                              have hns45_0 := NB263_273.out
                              have hns45_1 := NB264_273.out
                              have hms45_0 := NB273_263.out
                              have hms45_1 := NB273_264.out
                              have hs46 : w42.cell? ⟨gb273, 3, none⟩ = some (.int .i64 0) := (blk_cell BK273.out 3).trans rfl
                              have hfs46 := blk_frozen BK273.out 3
                              have hns46_0 := NB263_273.out
                              have hns46_1 := NB264_273.out
                              have hms46_0 := NB273_263.out
                              have hms46_1 := NB273_264.out
                              refine skip_ (w1 := ?_) (by rfl) rfl ?_ ?_
                              rotate_left
                              · go_simp
                                rfl
                              refine hK.out _ _ ⟨((cell_far (p := ⟨gb273, _, none⟩) NB263_273.out _).trans (((cell_far (p := ⟨gb273, _, none⟩) NB263_273.out _).trans (((cell_far (p := ⟨gb273, _, none⟩) NB263_273.out _).trans (((cell_far (p := ⟨gb273, _, none⟩) NB263_273.out _).trans (hHeld.1)))))))), ((cell_far (p := ⟨gb273, _, none⟩) NB263_273.out _).trans (((cell_far (p := ⟨gb273, _, none⟩) NB263_273.out _).trans (((cell_far (p := ⟨gb273, _, none⟩) NB263_273.out _).trans (((cell_far (p := ⟨gb273, _, none⟩) NB263_273.out _).trans (hHeld.2.1)))))))), ((cell_far (p := ⟨gb273, _, none⟩) NB263_273.out _).trans (((cell_far (p := ⟨gb273, _, none⟩) NB263_273.out _).trans (((cell_far (p := ⟨gb273, _, none⟩) NB263_273.out _).trans (((cell_far (p := ⟨gb273, _, none⟩) NB263_273.out _).trans (hHeld.2.2.1)))))))), ((cell_far (p := ⟨gb273, _, none⟩) NB263_273.out _).trans (((cell_far (p := ⟨gb273, _, none⟩) NB263_273.out _).trans (((cell_far (p := ⟨gb273, _, none⟩) NB263_273.out _).trans (((cell_far (p := ⟨gb273, _, none⟩) NB263_273.out _).trans (hHeld.2.2.2.1)))))))), ((cell_far (p := ⟨gb273, _, none⟩) (by first | exact Kd.own_blk (Kd.R_ne HO267.out BK273.out (by decide)) | (rw [add_block]; exact Kd.own_blk (Kd.R_ne HO267.out BK273.out (by decide))) | (show (Addr.add _ _).block ≠ _; rw [add_block]; exact Kd.own_blk (Kd.R_ne HO267.out BK273.out (by decide))) | (dsimp only; exact Kd.own_blk (Kd.R_ne HO267.out BK273.out (by decide)))) _).trans (((cell_far (p := ⟨gb273, _, none⟩) (by first | exact Kd.own_blk (Kd.R_ne HO267.out BK273.out (by decide)) | (rw [add_block]; exact Kd.own_blk (Kd.R_ne HO267.out BK273.out (by decide))) | (show (Addr.add _ _).block ≠ _; rw [add_block]; exact Kd.own_blk (Kd.R_ne HO267.out BK273.out (by decide))) | (dsimp only; exact Kd.own_blk (Kd.R_ne HO267.out BK273.out (by decide)))) _).trans (((cell_far (p := ⟨gb273, _, none⟩) (by first | exact Kd.own_blk (Kd.R_ne HO267.out BK273.out (by decide)) | (rw [add_block]; exact Kd.own_blk (Kd.R_ne HO267.out BK273.out (by decide))) | (show (Addr.add _ _).block ≠ _; rw [add_block]; exact Kd.own_blk (Kd.R_ne HO267.out BK273.out (by decide))) | (dsimp only; exact Kd.own_blk (Kd.R_ne HO267.out BK273.out (by decide)))) _).trans (((cell_far (p := ⟨gb273, _, none⟩) (by first | exact Kd.own_blk (Kd.R_ne HO267.out BK273.out (by decide)) | (rw [add_block]; exact Kd.own_blk (Kd.R_ne HO267.out BK273.out (by decide))) | (show (Addr.add _ _).block ≠ _; rw [add_block]; exact Kd.own_blk (Kd.R_ne HO267.out BK273.out (by decide))) | (dsimp only; exact Kd.own_blk (Kd.R_ne HO267.out BK273.out (by decide)))) _).trans (hHeld.2.2.2.2))))))))⟩ (fun hHeld => ?_)
                              clear hK K
                              refine done_ (done_of HT_.out (by kernel_rfl)) ?_
                              try go_wp2
                              have n0_ : Aside0 (Kd.R (Kd.int .i64) 3 ((((w42.setCell ⟨gb273, 0, none⟩ (.int .i64 t269)).setCell ⟨gb273, 1, none⟩ (.int .i64 t270)).setCell ⟨gb273, 2, none⟩ (.int .i64 t271)).setCell ⟨gb273, 3, none⟩ (.int .i64 t272)) w.heap.size (fun _ => True) (.slice (some ad268) t265.length co39) t265) := ⟨by (with_reducible repeat (first | apply Kd.R_alloc | apply Kd.R_drewN | apply Kd.R_drew)); exact Kd.R_mono (Kd.R_far (p := ⟨gb273, 3, none⟩) (Kd.R_far (p := ⟨gb273, 2, none⟩) (Kd.R_far (p := ⟨gb273, 1, none⟩) (Kd.R_far (p := ⟨gb273, 0, none⟩) (Kd.R_types HO267.out BK273.out (by decide)) (fun _ hk => hk.2) (.int .i64 t269)) (fun _ hk => hk.2) (.int .i64 t270)) (fun _ hk => hk.2) (.int .i64 t271)) (fun _ hk => hk.2) (.int .i64 t272)) (fun _ hk => trivial)⟩
                              have n1_ : Aside0 (((((w42.setCell ⟨gb273, 0, none⟩ (.int .i64 t269)).setCell ⟨gb273, 1, none⟩ (.int .i64 t270)).setCell ⟨gb273, 2, none⟩ (.int .i64 t271)).setCell ⟨gb273, 3, none⟩ (.int .i64 t272)).heap[gb263]? = some (.cells #[.int .i64 t255, .int .i64 t256, .int .i64 t257, .int .i64 t258] 27 (0, 0))) := ⟨by (with_reducible repeat (first | refine blk_drewN ?_ _ | refine blk_drew ?_ | refine blk_alloc ?_ _)); refine blk_far ?_ NB263_273.out _; (with_reducible repeat (first | refine blk_drewN ?_ _ | refine blk_drew ?_ | refine blk_alloc ?_ _)); refine blk_far ?_ NB263_273.out _; (with_reducible repeat (first | refine blk_drewN ?_ _ | refine blk_drew ?_ | refine blk_alloc ?_ _)); refine blk_far ?_ NB263_273.out _; (with_reducible repeat (first | refine blk_drewN ?_ _ | refine blk_drew ?_ | refine blk_alloc ?_ _)); refine blk_far ?_ NB263_273.out _; (with_reducible repeat (first | refine blk_drewN ?_ _ | refine blk_drew ?_ | refine blk_alloc ?_ _)); exact BK263.out⟩
                              have n2_ : Aside0 (((((w42.setCell ⟨gb273, 0, none⟩ (.int .i64 t269)).setCell ⟨gb273, 1, none⟩ (.int .i64 t270)).setCell ⟨gb273, 2, none⟩ (.int .i64 t271)).setCell ⟨gb273, 3, none⟩ (.int .i64 t272)).heap[gb264]? = some (.cells #[.int .i64 t259, .int .i64 t260, .int .i64 t261, .int .i64 t262] 27 (0, 0))) := ⟨by (with_reducible repeat (first | refine blk_drewN ?_ _ | refine blk_drew ?_ | refine blk_alloc ?_ _)); refine blk_far ?_ NB264_273.out _; (with_reducible repeat (first | refine blk_drewN ?_ _ | refine blk_drew ?_ | refine blk_alloc ?_ _)); refine blk_far ?_ NB264_273.out _; (with_reducible repeat (first | refine blk_drewN ?_ _ | refine blk_drew ?_ | refine blk_alloc ?_ _)); refine blk_far ?_ NB264_273.out _; (with_reducible repeat (first | refine blk_drewN ?_ _ | refine blk_drew ?_ | refine blk_alloc ?_ _)); refine blk_far ?_ NB264_273.out _; (with_reducible repeat (first | refine blk_drewN ?_ _ | refine blk_drew ?_ | refine blk_alloc ?_ _)); exact BK264.out⟩
                              have n3_ : Aside0 (((((w42.setCell ⟨gb273, 0, none⟩ (.int .i64 t269)).setCell ⟨gb273, 1, none⟩ (.int .i64 t270)).setCell ⟨gb273, 2, none⟩ (.int .i64 t271)).setCell ⟨gb273, 3, none⟩ (.int .i64 t272)).heap[gb273]? = some (.cells #[.int .i64 t269, .int .i64 t270, .int .i64 t271, .int .i64 t272] 27 (0, 0))) := ⟨by (with_reducible repeat (first | refine blk_drewN ?_ _ | refine blk_drew ?_ | refine blk_alloc ?_ _)); refine blk_put (cs := #[.int .i64 t269, .int .i64 t270, .int .i64 t271, .int .i64 0]) ?_ 3 _ rfl; (with_reducible repeat (first | refine blk_drewN ?_ _ | refine blk_drew ?_ | refine blk_alloc ?_ _)); refine blk_put (cs := #[.int .i64 t269, .int .i64 t270, .int .i64 0, .int .i64 0]) ?_ 2 _ rfl; (with_reducible repeat (first | refine blk_drewN ?_ _ | refine blk_drew ?_ | refine blk_alloc ?_ _)); refine blk_put (cs := #[.int .i64 t269, .int .i64 0, .int .i64 0, .int .i64 0]) ?_ 1 _ rfl; (with_reducible repeat (first | refine blk_drewN ?_ _ | refine blk_drew ?_ | refine blk_alloc ?_ _)); refine blk_put (cs := #[.int .i64 0, .int .i64 0, .int .i64 0, .int .i64 0]) ?_ 0 _ rfl; (with_reducible repeat (first | refine blk_drewN ?_ _ | refine blk_drew ?_ | refine blk_alloc ?_ _)); exact BK273.out⟩
                              have n4_ : Aside0 (Below w.heap.size w ((((w42.setCell ⟨gb273, 0, none⟩ (.int .i64 t269)).setCell ⟨gb273, 1, none⟩ (.int .i64 t270)).setCell ⟨gb273, 2, none⟩ (.int .i64 t271)).setCell ⟨gb273, 3, none⟩ (.int .i64 t272))) := ⟨by repeat (first | (with_reducible first | exact HB.out | apply below_alloc | apply pw_below_drewN | apply below_drew1 | refine below_set ?_ GE263.out | refine below_set ?_ GE264.out | refine below_set ?_ GE273.out) | exact HB.out)⟩
                              (try clear HO267)
                              (try clear BK263)
                              (try clear BK264)
                              (try clear BK273)
                              (try clear HB)
                              generalize ((((w42.setCell ⟨gb273, 0, none⟩ (.int .i64 t269)).setCell ⟨gb273, 1, none⟩ (.int .i64 t270)).setCell ⟨gb273, 2, none⟩ (.int .i64 t271)).setCell ⟨gb273, 3, none⟩ (.int .i64 t272)) = w47 at n0_ n1_ n2_ n3_ n4_ ⊢
                              have HO267 := n0_
                              have BK263 := n1_
                              have BK264 := n2_
                              have BK273 := n3_
                              have HB := n4_
                              clear n0_ n1_ n2_ n3_ n4_
                              have n0_ := Aside0.mk (Kd.R_drew HO267.out)
                              have n1_ := Aside0.mk (blk_drew BK263.out)
                              have n2_ := Aside0.mk (blk_drew BK264.out)
                              have n3_ := Aside0.mk (blk_drew BK273.out)
                              have n4_ := Aside0.mk (below_drew1 HB.out)
                              clear HO267
                              clear BK263
                              clear BK264
                              clear BK273
                              clear HB
                              have HO267 := n0_
                              have BK263 := n1_
                              have BK264 := n2_
                              have BK273 := n3_
                              have HB := n4_
                              clear n0_ n1_ n2_ n3_ n4_
                              have p274 : 0 ≤ (1 : Int) := (by omega)
                              have q274 : 1 < (t265.length : Int) := of_decide_eq_true (by first | (with_reducible assumption) | assumption)
                              obtain ⟨ad274, e274, hx274_0⟩ := Kd.at_int (Kd.R_reads' HO267.out).2.2 1 p274 q274
                              obtain rfl : ad268 = ad274 := (by injection e274)
                              (try simp only [show (1 : Int).toNat = 1 from rfl, Nat.reduceMul, Nat.reduceEqDiff, Go.Addr.add, ↓reduceIte] at hx274_0)
                              have qi274 : (1 < t265.length) = True := eq_true (by omega)
                              (try rw [show ((1 : Int)).toNat = 1 from rfl] at hx274_0)
                              replace p274 := eq_true p274
                              replace q274 := eq_true q274
                              refine start_ (n := 8) (S := fun w' => w'.cell? ⟨gb263, 0, none⟩ = some (.int .i64 t255) ∧ w'.cell? ⟨gb263, 1, none⟩ = some (.int .i64 t256) ∧ w'.cell? ⟨gb263, 2, none⟩ = some (.int .i64 t257) ∧ w'.cell? ⟨gb263, 3, none⟩ = some (.int .i64 t258) ∧ w'.cell? ⟨ad268.block, ad268.off + 1, none⟩ = some (.int .i64 (rd t265 1))) (ds := []) #[false, false, false, false, false, false, false, false] (by kernel_rfl) rfl rfl ⟨(blk_cell BK263.out 0).trans rfl, (blk_cell BK263.out 1).trans rfl, (blk_cell BK263.out 2).trans rfl, (blk_cell BK263.out 3).trans rfl, hx274_0⟩ (fun hHeld => ?_); refine with_tabW laws_FnFades.tab6 laws_FnFades.bits6 (fun HT_ HW_ => ?_)
                              generalize w47.drew = w48 at HO267 BK263 BK264 BK273 HB hx274_0 hHeld ⊢
                              refine pure_ (i := 1) (N := some 24) (v := ?_) (a' := ?_) #[false, true, false, false, false, false, false, false] rfl rfl (any_of HT_.out (by kernel_rfl)) (fun _ _ _ h => h) (Or.inl ⟨by rfl, ?_⟩) ?_ ?_
                              rotate_left
                              · intro w'
                                go_simp
                                with_reducible rfl
                              rotate_left
                              · simp only [Act.put, List.setIfInBounds_toArray, List.set_cons_zero, List.set_cons_succ, i64_w, i32_w]
                                rfl
                              refine pure_ (i := 2) (N := some 25) (v := ?_) (a' := ?_) #[false, true, true, false, false, false, false, false] rfl rfl (any_of HT_.out (by kernel_rfl)) (fun _ _ _ h => h) (Or.inl ⟨by rfl, ?_⟩) ?_ ?_
                              rotate_left
                              · intro w'
                                go_simp
                                with_reducible rfl
                              rotate_left
                              · simp only [Act.put, List.setIfInBounds_toArray, List.set_cons_zero, List.set_cons_succ, i64_w, i32_w]
                                rfl
                              refine take_ (i := 0) (N := some 23) (v := ?_) (a' := ?_) #[true, true, true, false, false, false, false, false] rfl rfl (take_ofW HT_.out HW_.out (by kernel_rfl)) (fun _ _ _ h => h) (Or.inl ⟨by rfl, ?_⟩) hHeld ?_ ?_
                              rotate_left
                              · rintro w' ⟨s0, s1, s2, s3, s4⟩
                                go_simp
                                with_reducible rfl
                              rotate_left
                              · simp only [Act.put, List.setIfInBounds_toArray, List.set_cons_zero, List.set_cons_succ, i64_w, i32_w]
                                rfl
                              refine take_ (i := 3) (N := some 26) (v := ?_) (a' := ?_) #[true, true, true, true, false, false, false, false] rfl rfl (take_ofW HT_.out HW_.out (by kernel_rfl)) (fun _ _ _ h => h) (Or.inl ⟨by rfl, ?_⟩) hHeld ?_ ?_
                              rotate_left
                              · rintro w' ⟨s0, s1, s2, s3, s4⟩
                                go_simp
                                with_reducible rfl
                              rotate_left
                              · simp only [Act.put, List.setIfInBounds_toArray, List.set_cons_zero, List.set_cons_succ, i64_w, i32_w]
                                rfl
                              refine pure_ (i := 4) (N := some 27) (v := ?_) (a' := ?_) #[true, true, true, true, true, false, false, false] rfl rfl (any_of HT_.out (by kernel_rfl)) (fun _ _ _ h => h) (Or.inl ⟨by rfl, ?_⟩) ?_ ?_
                              rotate_left
                              · intro w'
                                go_simp
                                with_reducible rfl
                              rotate_left
                              · simp only [Act.put, List.setIfInBounds_toArray, List.set_cons_zero, List.set_cons_succ, i64_w, i32_w]
                                rfl
                              refine join_ (σ := Nat) 1 #[true, true, true, true, true, true, true, false] (fun s_ => [(28, .agg #[.int .i64 t275, .int .i64 t276, .int .i64 t277, .int .i64 t278]), (7, .pointer (some ⟨s_, 0, none⟩))]) (fun s_ w' => (w'.cell? ⟨gb263, 0, none⟩ = some (.int .i64 t255) ∧ w'.cell? ⟨gb263, 1, none⟩ = some (.int .i64 t256) ∧ w'.cell? ⟨gb263, 2, none⟩ = some (.int .i64 t257) ∧ w'.cell? ⟨gb263, 3, none⟩ = some (.int .i64 t258) ∧ w'.cell? ⟨ad268.block, ad268.off + 1, none⟩ = some (.int .i64 (rd t265 1))) ∧ (Kd.R (Kd.int .i64) 3 w' w.heap.size (fun _ => True) (.slice (some ad268) t265.length co39) t265) ∧ (w'.heap[gb263]? = some (.cells #[.int .i64 t255, .int .i64 t256, .int .i64 t257, .int .i64 t258] 27 (0, 0))) ∧ (w'.heap[gb264]? = some (.cells #[.int .i64 t259, .int .i64 t260, .int .i64 t261, .int .i64 t262] 27 (0, 0))) ∧ (w'.heap[gb273]? = some (.cells #[.int .i64 t269, .int .i64 t270, .int .i64 t271, .int .i64 t272] 27 (0, 0))) ∧ (w'.heap[s_]? = some (.cells #[.int .i64 0, .int .i64 0, .int .i64 0, .int .i64 0] 27 (0, 0))) ∧ (w.heap.size ≤ s_) ∧ (w.heap.size ≤ s_) ∧ (gb263 ≠ s_) ∧ (s_ ≠ gb263) ∧ (gb264 ≠ s_) ∧ (s_ ≠ gb264) ∧ (gb273 ≠ s_) ∧ (s_ ≠ gb273) ∧ (Below w.heap.size w w')) ?_ ?_
                              rotate_left
                              · intro hCont
                                refine two_ (i := 5) (j := 6) (Ni := some 28) (Nj := some 7) #[true, true, true, true, true, true, false, false] #[true, true, true, true, true, false, true, false] rfl rfl rfl rfl (two_of HT_.out (by kernel_rfl)) (by decide) (by decide) (fun K hK => ?_) (fun K hK => ?_)
                                · skip
                                  refine goes_ Try.func42 (by kernel_rfl) rfl #[.agg #[.int .i64 t255, .int .i64 t256, .int .i64 t257, .int .i64 t258], .int .i64 (Int.tmod (rd t265 1) 5)] (by rfl) rfl rfl (by (try simp only [List.map_toArray, List.map_cons, List.map_nil]); first | done | rfl | (simp only [List.length_drop, List.length_take]; rfl)) ?_
                                  with_reducible refine (impl_Thin.calls t255 t256 t257 t258 (Int.tmod (rd t265 1) 5) t275 t276 t277 t278 _ A9.out).mono ?_
                                  rintro e w49 ⟨rfl, hb⟩
                                  have HS4_ := (hb.cell (World.block_lt_of_cell? _ _ (hHeld.2.2.2.2))).trans (hHeld.2.2.2.2)
                                  refine ⟨_, rfl, ?_⟩
                                  have n0_ := Aside0.mk (Kd.R_below (by (with_reducible repeat (first | apply Kd.R_alloc | apply Kd.R_drewN | apply Kd.R_drew)); exact HO267.out) hb)
                                  have n1_ := Aside0.mk (blk_below (g := gb263) (o := .cells #[.int .i64 t255, .int .i64 t256, .int .i64 t257, .int .i64 t258] 27 (0, 0)) (by (with_reducible repeat (first | refine blk_drewN ?_ _ | refine blk_drew ?_ | refine blk_alloc ?_ _)); exact BK263.out) hb)
                                  have n2_ := Aside0.mk (blk_below (g := gb264) (o := .cells #[.int .i64 t259, .int .i64 t260, .int .i64 t261, .int .i64 t262] 27 (0, 0)) (by (with_reducible repeat (first | refine blk_drewN ?_ _ | refine blk_drew ?_ | refine blk_alloc ?_ _)); exact BK264.out) hb)
                                  have n3_ := Aside0.mk (blk_below (g := gb273) (o := .cells #[.int .i64 t269, .int .i64 t270, .int .i64 t271, .int .i64 t272] 27 (0, 0)) (by (with_reducible repeat (first | refine blk_drewN ?_ _ | refine blk_drew ?_ | refine blk_alloc ?_ _)); exact BK273.out) hb)
                                  have n4_ := Aside0.mk (below_step (by repeat (first | (with_reducible first | exact HB.out | apply below_alloc | apply pw_below_drewN | apply below_drew1 | refine below_set ?_ GE263.out | refine below_set ?_ GE264.out | refine below_set ?_ GE273.out) | exact HB.out)) hb)
                                  clear HO267
                                  clear BK263
                                  clear BK264
                                  clear BK273
                                  clear HB
                                  have HO267 := n0_
                                  have BK263 := n1_
                                  have BK264 := n2_
                                  have BK273 := n3_
                                  have HB := n4_
                                  clear n0_ n1_ n2_ n3_ n4_
                                  (try clear hb)
                                  (try clear hb2)
                                  (try clear hk)
                                  (try clear hi)
                                  refine hK.out _ _ ⟨(blk_cell BK263.out 0).trans rfl, (blk_cell BK263.out 1).trans rfl, (blk_cell BK263.out 2).trans rfl, (blk_cell BK263.out 3).trans rfl, HS4_⟩ (fun hHeld => ?_)
                                  clear hK K
                                  refine norm_ (a' := ?_) ?_ ?_
                                  rotate_left
                                  · show Act.put _ (some 28) _ = _
                                    simp only [Act.put, List.setIfInBounds_toArray, List.set_cons_zero, List.set_cons_succ, i64_w, i32_w]
                                    rfl
                                  refine one_ (i := 6) (N := some 7) #[true, true, true, true, true, true, true, false] rfl rfl (one_of HT_.out (by kernel_rfl)) (by decide) (fun K hK => ?_)
                                  refine box_step ?hg (N := 7) ?hd (cs := #[.int .i64 0, .int .i64 0, .int .i64 0, .int .i64 0]) (t := 27) ?hr ?_; (case hd => rfl); (case hg => rfl); (case hr => first | (go_simp; done) | (go_simp; rfl))
                                  intro gb279 hg w50 hbox hb
                                  have HS4_ := (hb.cell (World.block_lt_of_cell? _ _ (hHeld.2.2.2.2))).trans (hHeld.2.2.2.2)
                                  have n0_ := Aside0.mk (Kd.R_below (by (with_reducible repeat (first | apply Kd.R_alloc | apply Kd.R_drewN | apply Kd.R_drew)); exact HO267.out) hb)
                                  have n1_ := Aside0.mk (blk_below (g := gb263) (o := .cells #[.int .i64 t255, .int .i64 t256, .int .i64 t257, .int .i64 t258] 27 (0, 0)) (by (with_reducible repeat (first | refine blk_drewN ?_ _ | refine blk_drew ?_ | refine blk_alloc ?_ _)); exact BK263.out) hb)
                                  have n2_ := Aside0.mk (blk_below (g := gb264) (o := .cells #[.int .i64 t259, .int .i64 t260, .int .i64 t261, .int .i64 t262] 27 (0, 0)) (by (with_reducible repeat (first | refine blk_drewN ?_ _ | refine blk_drew ?_ | refine blk_alloc ?_ _)); exact BK264.out) hb)
                                  have n3_ := Aside0.mk (blk_below (g := gb273) (o := .cells #[.int .i64 t269, .int .i64 t270, .int .i64 t271, .int .i64 t272] 27 (0, 0)) (by (with_reducible repeat (first | refine blk_drewN ?_ _ | refine blk_drew ?_ | refine blk_alloc ?_ _)); exact BK273.out) hb)
                                  have n4_ := Aside0.mk (below_step (by repeat (first | (with_reducible first | exact HB.out | apply below_alloc | apply pw_below_drewN | apply below_drew1 | refine below_set ?_ GE263.out | refine below_set ?_ GE264.out | refine below_set ?_ GE273.out) | exact HB.out)) hb)
                                  have n5_ := Aside0.mk (hbox)
                                  have n6_ := Aside0.mk ((by rw [hg]; exact (below_size (by repeat (first | (with_reducible first | exact HB.out | apply below_alloc | apply pw_below_drewN | apply below_drew1 | refine below_set ?_ GE263.out | refine below_set ?_ GE264.out | refine below_set ?_ GE273.out) | exact HB.out))) : w.heap.size ≤ gb279))
                                  have n7_ := Aside0.mk ((by rw [hg]; exact (below_size (by repeat (first | (with_reducible first | exact HB.out | apply below_alloc | apply pw_below_drewN | apply below_drew1 | refine below_set ?_ GE263.out | refine below_set ?_ GE264.out | refine below_set ?_ GE273.out) | exact HB.out))) : w.heap.size ≤ gb279))
                                  have n8_ := Aside0.mk ((by rw [hg]; exact Nat.ne_of_lt (blk_lt (g := gb263) (o := .cells #[.int .i64 t255, .int .i64 t256, .int .i64 t257, .int .i64 t258] 27 (0, 0)) (by (with_reducible repeat (first | refine blk_drewN ?_ _ | refine blk_drew ?_ | refine blk_alloc ?_ _)); exact BK263.out)) : gb263 ≠ gb279))
                                  have n9_ := Aside0.mk ((by rw [hg]; exact Nat.ne_of_gt (blk_lt (g := gb263) (o := .cells #[.int .i64 t255, .int .i64 t256, .int .i64 t257, .int .i64 t258] 27 (0, 0)) (by (with_reducible repeat (first | refine blk_drewN ?_ _ | refine blk_drew ?_ | refine blk_alloc ?_ _)); exact BK263.out)) : gb279 ≠ gb263))
                                  have n10_ := Aside0.mk ((by rw [hg]; exact Nat.ne_of_lt (blk_lt (g := gb264) (o := .cells #[.int .i64 t259, .int .i64 t260, .int .i64 t261, .int .i64 t262] 27 (0, 0)) (by (with_reducible repeat (first | refine blk_drewN ?_ _ | refine blk_drew ?_ | refine blk_alloc ?_ _)); exact BK264.out)) : gb264 ≠ gb279))
                                  have n11_ := Aside0.mk ((by rw [hg]; exact Nat.ne_of_gt (blk_lt (g := gb264) (o := .cells #[.int .i64 t259, .int .i64 t260, .int .i64 t261, .int .i64 t262] 27 (0, 0)) (by (with_reducible repeat (first | refine blk_drewN ?_ _ | refine blk_drew ?_ | refine blk_alloc ?_ _)); exact BK264.out)) : gb279 ≠ gb264))
                                  have n12_ := Aside0.mk ((by rw [hg]; exact Nat.ne_of_lt (blk_lt (g := gb273) (o := .cells #[.int .i64 t269, .int .i64 t270, .int .i64 t271, .int .i64 t272] 27 (0, 0)) (by (with_reducible repeat (first | refine blk_drewN ?_ _ | refine blk_drew ?_ | refine blk_alloc ?_ _)); exact BK273.out)) : gb273 ≠ gb279))
                                  have n13_ := Aside0.mk ((by rw [hg]; exact Nat.ne_of_gt (blk_lt (g := gb273) (o := .cells #[.int .i64 t269, .int .i64 t270, .int .i64 t271, .int .i64 t272] 27 (0, 0)) (by (with_reducible repeat (first | refine blk_drewN ?_ _ | refine blk_drew ?_ | refine blk_alloc ?_ _)); exact BK273.out)) : gb279 ≠ gb273))
                                  clear HO267
                                  clear BK263
                                  clear BK264
                                  clear BK273
                                  clear HB
                                  have HO267 := n0_
                                  have BK263 := n1_
                                  have BK264 := n2_
                                  have BK273 := n3_
                                  have HB := n4_
                                  have BK279 := n5_
                                  have GW279 := n6_
                                  have GE279 := n7_
                                  have NB263_279 := n8_
                                  have NB279_263 := n9_
                                  have NB264_279 := n10_
                                  have NB279_264 := n11_
                                  have NB273_279 := n12_
                                  have NB279_273 := n13_
                                  clear n0_ n1_ n2_ n3_ n4_ n5_ n6_ n7_ n8_ n9_ n10_ n11_ n12_ n13_
                                  clear hb hbox hg
                                  refine hK.out _ _ ⟨(blk_cell BK263.out 0).trans rfl, (blk_cell BK263.out 1).trans rfl, (blk_cell BK263.out 2).trans rfl, (blk_cell BK263.out 3).trans rfl, HS4_⟩ (fun hHeld => ?_)
                                  clear hK K
                                  refine norm_ (a' := ?_) ?_ ?_
                                  rotate_left
                                  · show Act.put _ (some 7) _ = _
                                    simp only [Act.put, List.setIfInBounds_toArray, List.set_cons_zero, List.set_cons_succ, i64_w, i32_w]
                                    rfl
                                  exact norm_ (by simp only [putAll, Act.put, List.setIfInBounds_toArray, List.set_cons_zero, List.set_cons_succ]) (hCont (gb279) _ ⟨hHeld, (by (with_reducible repeat (first | apply Kd.R_alloc | apply Kd.R_drewN | apply Kd.R_drew)); exact HO267.out), (by (with_reducible repeat (first | refine blk_drewN ?_ _ | refine blk_drew ?_ | refine blk_alloc ?_ _)); exact BK263.out), (by (with_reducible repeat (first | refine blk_drewN ?_ _ | refine blk_drew ?_ | refine blk_alloc ?_ _)); exact BK264.out), (by (with_reducible repeat (first | refine blk_drewN ?_ _ | refine blk_drew ?_ | refine blk_alloc ?_ _)); exact BK273.out), (by (with_reducible repeat (first | refine blk_drewN ?_ _ | refine blk_drew ?_ | refine blk_alloc ?_ _)); exact BK279.out), GW279.out, GE279.out, NB263_279.out, NB279_263.out, NB264_279.out, NB279_264.out, NB273_279.out, NB279_273.out, (by repeat (first | (with_reducible first | exact HB.out | apply below_alloc | apply pw_below_drewN | apply below_drew1 | refine below_set ?_ GE263.out | refine below_set ?_ GE264.out | refine below_set ?_ GE273.out | refine below_set ?_ GE279.out) | exact HB.out))⟩)
                                · skip
                                  refine box_step ?hg (N := 7) ?hd (cs := #[.int .i64 0, .int .i64 0, .int .i64 0, .int .i64 0]) (t := 27) ?hr ?_; (case hd => rfl); (case hg => rfl); (case hr => first | (go_simp; done) | (go_simp; rfl))
                                  intro gb279 hg w49 hbox hb
                                  have HS4_ := (hb.cell (World.block_lt_of_cell? _ _ (hHeld.2.2.2.2))).trans (hHeld.2.2.2.2)
                                  have n0_ := Aside0.mk (Kd.R_below (by (with_reducible repeat (first | apply Kd.R_alloc | apply Kd.R_drewN | apply Kd.R_drew)); exact HO267.out) hb)
                                  have n1_ := Aside0.mk (blk_below (g := gb263) (o := .cells #[.int .i64 t255, .int .i64 t256, .int .i64 t257, .int .i64 t258] 27 (0, 0)) (by (with_reducible repeat (first | refine blk_drewN ?_ _ | refine blk_drew ?_ | refine blk_alloc ?_ _)); exact BK263.out) hb)
                                  have n2_ := Aside0.mk (blk_below (g := gb264) (o := .cells #[.int .i64 t259, .int .i64 t260, .int .i64 t261, .int .i64 t262] 27 (0, 0)) (by (with_reducible repeat (first | refine blk_drewN ?_ _ | refine blk_drew ?_ | refine blk_alloc ?_ _)); exact BK264.out) hb)
                                  have n3_ := Aside0.mk (blk_below (g := gb273) (o := .cells #[.int .i64 t269, .int .i64 t270, .int .i64 t271, .int .i64 t272] 27 (0, 0)) (by (with_reducible repeat (first | refine blk_drewN ?_ _ | refine blk_drew ?_ | refine blk_alloc ?_ _)); exact BK273.out) hb)
                                  have n4_ := Aside0.mk (below_step (by repeat (first | (with_reducible first | exact HB.out | apply below_alloc | apply pw_below_drewN | apply below_drew1 | refine below_set ?_ GE263.out | refine below_set ?_ GE264.out | refine below_set ?_ GE273.out) | exact HB.out)) hb)
                                  have n5_ := Aside0.mk (hbox)
                                  have n6_ := Aside0.mk ((by rw [hg]; exact (below_size (by repeat (first | (with_reducible first | exact HB.out | apply below_alloc | apply pw_below_drewN | apply below_drew1 | refine below_set ?_ GE263.out | refine below_set ?_ GE264.out | refine below_set ?_ GE273.out) | exact HB.out))) : w.heap.size ≤ gb279))
                                  have n7_ := Aside0.mk ((by rw [hg]; exact (below_size (by repeat (first | (with_reducible first | exact HB.out | apply below_alloc | apply pw_below_drewN | apply below_drew1 | refine below_set ?_ GE263.out | refine below_set ?_ GE264.out | refine below_set ?_ GE273.out) | exact HB.out))) : w.heap.size ≤ gb279))
                                  have n8_ := Aside0.mk ((by rw [hg]; exact Nat.ne_of_lt (blk_lt (g := gb263) (o := .cells #[.int .i64 t255, .int .i64 t256, .int .i64 t257, .int .i64 t258] 27 (0, 0)) (by (with_reducible repeat (first | refine blk_drewN ?_ _ | refine blk_drew ?_ | refine blk_alloc ?_ _)); exact BK263.out)) : gb263 ≠ gb279))
                                  have n9_ := Aside0.mk ((by rw [hg]; exact Nat.ne_of_gt (blk_lt (g := gb263) (o := .cells #[.int .i64 t255, .int .i64 t256, .int .i64 t257, .int .i64 t258] 27 (0, 0)) (by (with_reducible repeat (first | refine blk_drewN ?_ _ | refine blk_drew ?_ | refine blk_alloc ?_ _)); exact BK263.out)) : gb279 ≠ gb263))
                                  have n10_ := Aside0.mk ((by rw [hg]; exact Nat.ne_of_lt (blk_lt (g := gb264) (o := .cells #[.int .i64 t259, .int .i64 t260, .int .i64 t261, .int .i64 t262] 27 (0, 0)) (by (with_reducible repeat (first | refine blk_drewN ?_ _ | refine blk_drew ?_ | refine blk_alloc ?_ _)); exact BK264.out)) : gb264 ≠ gb279))
                                  have n11_ := Aside0.mk ((by rw [hg]; exact Nat.ne_of_gt (blk_lt (g := gb264) (o := .cells #[.int .i64 t259, .int .i64 t260, .int .i64 t261, .int .i64 t262] 27 (0, 0)) (by (with_reducible repeat (first | refine blk_drewN ?_ _ | refine blk_drew ?_ | refine blk_alloc ?_ _)); exact BK264.out)) : gb279 ≠ gb264))
                                  have n12_ := Aside0.mk ((by rw [hg]; exact Nat.ne_of_lt (blk_lt (g := gb273) (o := .cells #[.int .i64 t269, .int .i64 t270, .int .i64 t271, .int .i64 t272] 27 (0, 0)) (by (with_reducible repeat (first | refine blk_drewN ?_ _ | refine blk_drew ?_ | refine blk_alloc ?_ _)); exact BK273.out)) : gb273 ≠ gb279))
                                  have n13_ := Aside0.mk ((by rw [hg]; exact Nat.ne_of_gt (blk_lt (g := gb273) (o := .cells #[.int .i64 t269, .int .i64 t270, .int .i64 t271, .int .i64 t272] 27 (0, 0)) (by (with_reducible repeat (first | refine blk_drewN ?_ _ | refine blk_drew ?_ | refine blk_alloc ?_ _)); exact BK273.out)) : gb279 ≠ gb273))
                                  clear HO267
                                  clear BK263
                                  clear BK264
                                  clear BK273
                                  clear HB
                                  have HO267 := n0_
                                  have BK263 := n1_
                                  have BK264 := n2_
                                  have BK273 := n3_
                                  have HB := n4_
                                  have BK279 := n5_
                                  have GW279 := n6_
                                  have GE279 := n7_
                                  have NB263_279 := n8_
                                  have NB279_263 := n9_
                                  have NB264_279 := n10_
                                  have NB279_264 := n11_
                                  have NB273_279 := n12_
                                  have NB279_273 := n13_
                                  clear n0_ n1_ n2_ n3_ n4_ n5_ n6_ n7_ n8_ n9_ n10_ n11_ n12_ n13_
                                  clear hb hbox hg
                                  refine hK.out _ _ ⟨(blk_cell BK263.out 0).trans rfl, (blk_cell BK263.out 1).trans rfl, (blk_cell BK263.out 2).trans rfl, (blk_cell BK263.out 3).trans rfl, HS4_⟩ (fun hHeld => ?_)
                                  clear hK K
                                  refine norm_ (a' := ?_) ?_ ?_
                                  rotate_left
                                  · show Act.put _ (some 7) _ = _
                                    simp only [Act.put, List.setIfInBounds_toArray, List.set_cons_zero, List.set_cons_succ, i64_w, i32_w]
                                    rfl
                                  refine one_ (i := 5) (N := some 28) #[true, true, true, true, true, true, true, false] rfl rfl (one_of HT_.out (by kernel_rfl)) (by decide) (fun K hK => ?_)
                                  refine goes_ Try.func42 (by kernel_rfl) rfl #[.agg #[.int .i64 t255, .int .i64 t256, .int .i64 t257, .int .i64 t258], .int .i64 (Int.tmod (rd t265 1) 5)] (by rfl) rfl rfl (by (try simp only [List.map_toArray, List.map_cons, List.map_nil]); first | done | rfl | (simp only [List.length_drop, List.length_take]; rfl)) ?_
                                  with_reducible refine (impl_Thin.calls t255 t256 t257 t258 (Int.tmod (rd t265 1) 5) t275 t276 t277 t278 _ A9.out).mono ?_
                                  rintro e w50 ⟨rfl, hb⟩
                                  have HS4_ := (hb.cell (World.block_lt_of_cell? _ _ (hHeld.2.2.2.2))).trans (hHeld.2.2.2.2)
                                  refine ⟨_, rfl, ?_⟩
                                  have n0_ := Aside0.mk (Kd.R_below (by (with_reducible repeat (first | apply Kd.R_alloc | apply Kd.R_drewN | apply Kd.R_drew)); exact HO267.out) hb)
                                  have n1_ := Aside0.mk (blk_below (g := gb263) (o := .cells #[.int .i64 t255, .int .i64 t256, .int .i64 t257, .int .i64 t258] 27 (0, 0)) (by (with_reducible repeat (first | refine blk_drewN ?_ _ | refine blk_drew ?_ | refine blk_alloc ?_ _)); exact BK263.out) hb)
                                  have n2_ := Aside0.mk (blk_below (g := gb264) (o := .cells #[.int .i64 t259, .int .i64 t260, .int .i64 t261, .int .i64 t262] 27 (0, 0)) (by (with_reducible repeat (first | refine blk_drewN ?_ _ | refine blk_drew ?_ | refine blk_alloc ?_ _)); exact BK264.out) hb)
                                  have n3_ := Aside0.mk (blk_below (g := gb273) (o := .cells #[.int .i64 t269, .int .i64 t270, .int .i64 t271, .int .i64 t272] 27 (0, 0)) (by (with_reducible repeat (first | refine blk_drewN ?_ _ | refine blk_drew ?_ | refine blk_alloc ?_ _)); exact BK273.out) hb)
                                  have n4_ := Aside0.mk (blk_below (g := gb279) (o := .cells #[.int .i64 0, .int .i64 0, .int .i64 0, .int .i64 0] 27 (0, 0)) (by (with_reducible repeat (first | refine blk_drewN ?_ _ | refine blk_drew ?_ | refine blk_alloc ?_ _)); exact BK279.out) hb)
                                  have n5_ := Aside0.mk (below_step (by repeat (first | (with_reducible first | exact HB.out | apply below_alloc | apply pw_below_drewN | apply below_drew1 | refine below_set ?_ GE263.out | refine below_set ?_ GE264.out | refine below_set ?_ GE273.out | refine below_set ?_ GE279.out) | exact HB.out)) hb)
                                  clear HO267
                                  clear BK263
                                  clear BK264
                                  clear BK273
                                  clear BK279
                                  clear HB
                                  have HO267 := n0_
                                  have BK263 := n1_
                                  have BK264 := n2_
                                  have BK273 := n3_
                                  have BK279 := n4_
                                  have HB := n5_
                                  clear n0_ n1_ n2_ n3_ n4_ n5_
                                  (try clear hb)
                                  (try clear hb2)
                                  (try clear hk)
                                  (try clear hi)
                                  refine hK.out _ _ ⟨(blk_cell BK263.out 0).trans rfl, (blk_cell BK263.out 1).trans rfl, (blk_cell BK263.out 2).trans rfl, (blk_cell BK263.out 3).trans rfl, HS4_⟩ (fun hHeld => ?_)
                                  clear hK K
                                  refine norm_ (a' := ?_) ?_ ?_
                                  rotate_left
                                  · show Act.put _ (some 28) _ = _
                                    simp only [Act.put, List.setIfInBounds_toArray, List.set_cons_zero, List.set_cons_succ, i64_w, i32_w]
                                    rfl
                                  exact norm_ (by simp only [putAll, Act.put, List.setIfInBounds_toArray, List.set_cons_zero, List.set_cons_succ]) (hCont (gb279) _ ⟨hHeld, (by (with_reducible repeat (first | apply Kd.R_alloc | apply Kd.R_drewN | apply Kd.R_drew)); exact HO267.out), (by (with_reducible repeat (first | refine blk_drewN ?_ _ | refine blk_drew ?_ | refine blk_alloc ?_ _)); exact BK263.out), (by (with_reducible repeat (first | refine blk_drewN ?_ _ | refine blk_drew ?_ | refine blk_alloc ?_ _)); exact BK264.out), (by (with_reducible repeat (first | refine blk_drewN ?_ _ | refine blk_drew ?_ | refine blk_alloc ?_ _)); exact BK273.out), (by (with_reducible repeat (first | refine blk_drewN ?_ _ | refine blk_drew ?_ | refine blk_alloc ?_ _)); exact BK279.out), GW279.out, GE279.out, NB263_279.out, NB279_263.out, NB264_279.out, NB279_264.out, NB273_279.out, NB279_273.out, (by repeat (first | (with_reducible first | exact HB.out | apply below_alloc | apply pw_below_drewN | apply below_drew1 | refine below_set ?_ GE263.out | refine below_set ?_ GE264.out | refine below_set ?_ GE273.out | refine below_set ?_ GE279.out) | exact HB.out))⟩)
                              rintro gb279 w51 ⟨hS_, h0_, h1_, h2_, h3_, h4_, h5_, h6_, h7_, h8_, h9_, h10_, h11_, h12_, h13_⟩
                              have n0_ : Aside0 (Kd.R (Kd.int .i64) 3 w51 w.heap.size (fun _ => True) (.slice (some ad268) t265.length co39) t265) := ⟨h0_⟩
                              have n1_ : Aside0 (w51.heap[gb263]? = some (.cells #[.int .i64 t255, .int .i64 t256, .int .i64 t257, .int .i64 t258] 27 (0, 0))) := ⟨h1_⟩
                              have n2_ : Aside0 (w51.heap[gb264]? = some (.cells #[.int .i64 t259, .int .i64 t260, .int .i64 t261, .int .i64 t262] 27 (0, 0))) := ⟨h2_⟩
                              have n3_ : Aside0 (w51.heap[gb273]? = some (.cells #[.int .i64 t269, .int .i64 t270, .int .i64 t271, .int .i64 t272] 27 (0, 0))) := ⟨h3_⟩
                              have n4_ : Aside0 (w51.heap[gb279]? = some (.cells #[.int .i64 0, .int .i64 0, .int .i64 0, .int .i64 0] 27 (0, 0))) := ⟨h4_⟩
                              have n5_ : Aside0 (w.heap.size ≤ gb279) := ⟨h5_⟩
                              have n6_ : Aside0 (w.heap.size ≤ gb279) := ⟨h6_⟩
                              have n7_ : Aside0 (gb263 ≠ gb279) := ⟨h7_⟩
                              have n8_ : Aside0 (gb279 ≠ gb263) := ⟨h8_⟩
                              have n9_ : Aside0 (gb264 ≠ gb279) := ⟨h9_⟩
                              have n10_ : Aside0 (gb279 ≠ gb264) := ⟨h10_⟩
                              have n11_ : Aside0 (gb273 ≠ gb279) := ⟨h11_⟩
                              have n12_ : Aside0 (gb279 ≠ gb273) := ⟨h12_⟩
                              have n13_ : Aside0 (Below w.heap.size w w51) := ⟨h13_⟩
                              clear HO267
                              clear BK263
                              clear BK264
                              clear BK273
                              clear HB
                              clear h0_ h1_ h2_ h3_ h4_ h5_ h6_ h7_ h8_ h9_ h10_ h11_ h12_ h13_
                              have HO267 := n0_
                              have BK263 := n1_
                              have BK264 := n2_
                              have BK273 := n3_
                              have BK279 := n4_
                              have GW279 := n5_
                              have GE279 := n6_
                              have NB263_279 := n7_
                              have NB279_263 := n8_
                              have NB264_279 := n9_
                              have NB279_264 := n10_
                              have NB273_279 := n11_
                              have NB279_273 := n12_
                              have HB := n13_
                              clear n0_ n1_ n2_ n3_ n4_ n5_ n6_ n7_ n8_ n9_ n10_ n11_ n12_ n13_
                              have hHeld : w51.cell? ⟨gb263, 0, none⟩ = some (.int .i64 t255) ∧ w51.cell? ⟨gb263, 1, none⟩ = some (.int .i64 t256) ∧ w51.cell? ⟨gb263, 2, none⟩ = some (.int .i64 t257) ∧ w51.cell? ⟨gb263, 3, none⟩ = some (.int .i64 t258) ∧ w51.cell? ⟨ad268.block, ad268.off + 1, none⟩ = some (.int .i64 (rd t265 1)) := hS_
                              refine norm_ (a' := ?_) ?_ ?_
                              rotate_left
                              · simp only [putAll, Act.put, List.setIfInBounds_toArray, List.set_cons_zero, List.set_cons_succ]
                                rfl
                              refine one_ (i := 7) (N := none) #[true, true, true, true, true, true, true, true] rfl rfl (one_of HT_.out (by kernel_rfl)) (by decide) (fun K hK => ?_)
                              have hs52 : w51.cell? ⟨gb279, 0, none⟩ = some (.int .i64 0) := (blk_cell BK279.out 0).trans rfl
                              have hfs52 := blk_frozen BK279.out 0
                              have hns52_0 := NB263_279.out
                              have hns52_1 := NB264_279.out
                              have hns52_2 := NB273_279.out
                              have hms52_0 := NB279_263.out
                              have hms52_1 := NB279_264.out
                              have hms52_2 := NB279_273.out
                              have hs53 : w51.cell? ⟨gb279, 1, none⟩ = some (.int .i64 0) := (blk_cell BK279.out 1).trans rfl
                              have hfs53 := blk_frozen BK279.out 1
                              have hns53_0 := NB263_279.out
                              have hns53_1 := NB264_279.out
                              have hns53_2 := NB273_279.out
                              have hms53_0 := NB279_263.out
                              have hms53_1 := NB279_264.out
                              have hms53_2 := NB279_273.out
                              have hs54 : w51.cell? ⟨gb279, 2, none⟩ = some (.int .i64 0) := (blk_cell BK279.out 2).trans rfl
                              have hfs54 := blk_frozen BK279.out 2
                              have hns54_0 := NB263_279.out
                              have hns54_1 := NB264_279.out
                              have hns54_2 := NB273_279.out
                              have hms54_0 := NB279_263.out
                              have hms54_1 := NB279_264.out
                              have hms54_2 := NB279_273.out
                              have hs55 : w51.cell? ⟨gb279, 3, none⟩ = some (.int .i64 0) := (blk_cell BK279.out 3).trans rfl
                              have hfs55 := blk_frozen BK279.out 3
                              have hns55_0 := NB263_279.out
                              have hns55_1 := NB264_279.out
                              have hns55_2 := NB273_279.out
                              have hms55_0 := NB279_263.out
                              have hms55_1 := NB279_264.out
                              have hms55_2 := NB279_273.out
                              refine skip_ (w1 := ?_) (by rfl) rfl ?_ ?_
                              rotate_left
                              · go_simp
                                rfl
                              refine hK.out _ _ ⟨((cell_far (p := ⟨gb279, _, none⟩) NB263_279.out _).trans (((cell_far (p := ⟨gb279, _, none⟩) NB263_279.out _).trans (((cell_far (p := ⟨gb279, _, none⟩) NB263_279.out _).trans (((cell_far (p := ⟨gb279, _, none⟩) NB263_279.out _).trans (hHeld.1)))))))), ((cell_far (p := ⟨gb279, _, none⟩) NB263_279.out _).trans (((cell_far (p := ⟨gb279, _, none⟩) NB263_279.out _).trans (((cell_far (p := ⟨gb279, _, none⟩) NB263_279.out _).trans (((cell_far (p := ⟨gb279, _, none⟩) NB263_279.out _).trans (hHeld.2.1)))))))), ((cell_far (p := ⟨gb279, _, none⟩) NB263_279.out _).trans (((cell_far (p := ⟨gb279, _, none⟩) NB263_279.out _).trans (((cell_far (p := ⟨gb279, _, none⟩) NB263_279.out _).trans (((cell_far (p := ⟨gb279, _, none⟩) NB263_279.out _).trans (hHeld.2.2.1)))))))), ((cell_far (p := ⟨gb279, _, none⟩) NB263_279.out _).trans (((cell_far (p := ⟨gb279, _, none⟩) NB263_279.out _).trans (((cell_far (p := ⟨gb279, _, none⟩) NB263_279.out _).trans (((cell_far (p := ⟨gb279, _, none⟩) NB263_279.out _).trans (hHeld.2.2.2.1)))))))), ((cell_far (p := ⟨gb279, _, none⟩) (by first | exact Kd.own_blk (Kd.R_ne HO267.out BK279.out (by decide)) | (rw [add_block]; exact Kd.own_blk (Kd.R_ne HO267.out BK279.out (by decide))) | (show (Addr.add _ _).block ≠ _; rw [add_block]; exact Kd.own_blk (Kd.R_ne HO267.out BK279.out (by decide))) | (dsimp only; exact Kd.own_blk (Kd.R_ne HO267.out BK279.out (by decide)))) _).trans (((cell_far (p := ⟨gb279, _, none⟩) (by first | exact Kd.own_blk (Kd.R_ne HO267.out BK279.out (by decide)) | (rw [add_block]; exact Kd.own_blk (Kd.R_ne HO267.out BK279.out (by decide))) | (show (Addr.add _ _).block ≠ _; rw [add_block]; exact Kd.own_blk (Kd.R_ne HO267.out BK279.out (by decide))) | (dsimp only; exact Kd.own_blk (Kd.R_ne HO267.out BK279.out (by decide)))) _).trans (((cell_far (p := ⟨gb279, _, none⟩) (by first | exact Kd.own_blk (Kd.R_ne HO267.out BK279.out (by decide)) | (rw [add_block]; exact Kd.own_blk (Kd.R_ne HO267.out BK279.out (by decide))) | (show (Addr.add _ _).block ≠ _; rw [add_block]; exact Kd.own_blk (Kd.R_ne HO267.out BK279.out (by decide))) | (dsimp only; exact Kd.own_blk (Kd.R_ne HO267.out BK279.out (by decide)))) _).trans (((cell_far (p := ⟨gb279, _, none⟩) (by first | exact Kd.own_blk (Kd.R_ne HO267.out BK279.out (by decide)) | (rw [add_block]; exact Kd.own_blk (Kd.R_ne HO267.out BK279.out (by decide))) | (show (Addr.add _ _).block ≠ _; rw [add_block]; exact Kd.own_blk (Kd.R_ne HO267.out BK279.out (by decide))) | (dsimp only; exact Kd.own_blk (Kd.R_ne HO267.out BK279.out (by decide)))) _).trans (hHeld.2.2.2.2))))))))⟩ (fun hHeld => ?_)
                              clear hK K
                              refine done_ (done_of HT_.out (by kernel_rfl)) ?_
                              try go_wp2
                              have n0_ : Aside0 (Kd.R (Kd.int .i64) 3 ((((w51.setCell ⟨gb279, 0, none⟩ (.int .i64 t275)).setCell ⟨gb279, 1, none⟩ (.int .i64 t276)).setCell ⟨gb279, 2, none⟩ (.int .i64 t277)).setCell ⟨gb279, 3, none⟩ (.int .i64 t278)) w.heap.size (fun _ => True) (.slice (some ad268) t265.length co39) t265) := ⟨by (with_reducible repeat (first | apply Kd.R_alloc | apply Kd.R_drewN | apply Kd.R_drew)); exact Kd.R_mono (Kd.R_far (p := ⟨gb279, 3, none⟩) (Kd.R_far (p := ⟨gb279, 2, none⟩) (Kd.R_far (p := ⟨gb279, 1, none⟩) (Kd.R_far (p := ⟨gb279, 0, none⟩) (Kd.R_types HO267.out BK279.out (by decide)) (fun _ hk => hk.2) (.int .i64 t275)) (fun _ hk => hk.2) (.int .i64 t276)) (fun _ hk => hk.2) (.int .i64 t277)) (fun _ hk => hk.2) (.int .i64 t278)) (fun _ hk => trivial)⟩
                              have n1_ : Aside0 (((((w51.setCell ⟨gb279, 0, none⟩ (.int .i64 t275)).setCell ⟨gb279, 1, none⟩ (.int .i64 t276)).setCell ⟨gb279, 2, none⟩ (.int .i64 t277)).setCell ⟨gb279, 3, none⟩ (.int .i64 t278)).heap[gb263]? = some (.cells #[.int .i64 t255, .int .i64 t256, .int .i64 t257, .int .i64 t258] 27 (0, 0))) := ⟨by (with_reducible repeat (first | refine blk_drewN ?_ _ | refine blk_drew ?_ | refine blk_alloc ?_ _)); refine blk_far ?_ NB263_279.out _; (with_reducible repeat (first | refine blk_drewN ?_ _ | refine blk_drew ?_ | refine blk_alloc ?_ _)); refine blk_far ?_ NB263_279.out _; (with_reducible repeat (first | refine blk_drewN ?_ _ | refine blk_drew ?_ | refine blk_alloc ?_ _)); refine blk_far ?_ NB263_279.out _; (with_reducible repeat (first | refine blk_drewN ?_ _ | refine blk_drew ?_ | refine blk_alloc ?_ _)); refine blk_far ?_ NB263_279.out _; (with_reducible repeat (first | refine blk_drewN ?_ _ | refine blk_drew ?_ | refine blk_alloc ?_ _)); exact BK263.out⟩
                              have n2_ : Aside0 (((((w51.setCell ⟨gb279, 0, none⟩ (.int .i64 t275)).setCell ⟨gb279, 1, none⟩ (.int .i64 t276)).setCell ⟨gb279, 2, none⟩ (.int .i64 t277)).setCell ⟨gb279, 3, none⟩ (.int .i64 t278)).heap[gb264]? = some (.cells #[.int .i64 t259, .int .i64 t260, .int .i64 t261, .int .i64 t262] 27 (0, 0))) := ⟨by (with_reducible repeat (first | refine blk_drewN ?_ _ | refine blk_drew ?_ | refine blk_alloc ?_ _)); refine blk_far ?_ NB264_279.out _; (with_reducible repeat (first | refine blk_drewN ?_ _ | refine blk_drew ?_ | refine blk_alloc ?_ _)); refine blk_far ?_ NB264_279.out _; (with_reducible repeat (first | refine blk_drewN ?_ _ | refine blk_drew ?_ | refine blk_alloc ?_ _)); refine blk_far ?_ NB264_279.out _; (with_reducible repeat (first | refine blk_drewN ?_ _ | refine blk_drew ?_ | refine blk_alloc ?_ _)); refine blk_far ?_ NB264_279.out _; (with_reducible repeat (first | refine blk_drewN ?_ _ | refine blk_drew ?_ | refine blk_alloc ?_ _)); exact BK264.out⟩
                              have n3_ : Aside0 (((((w51.setCell ⟨gb279, 0, none⟩ (.int .i64 t275)).setCell ⟨gb279, 1, none⟩ (.int .i64 t276)).setCell ⟨gb279, 2, none⟩ (.int .i64 t277)).setCell ⟨gb279, 3, none⟩ (.int .i64 t278)).heap[gb273]? = some (.cells #[.int .i64 t269, .int .i64 t270, .int .i64 t271, .int .i64 t272] 27 (0, 0))) := ⟨by (with_reducible repeat (first | refine blk_drewN ?_ _ | refine blk_drew ?_ | refine blk_alloc ?_ _)); refine blk_far ?_ NB273_279.out _; (with_reducible repeat (first | refine blk_drewN ?_ _ | refine blk_drew ?_ | refine blk_alloc ?_ _)); refine blk_far ?_ NB273_279.out _; (with_reducible repeat (first | refine blk_drewN ?_ _ | refine blk_drew ?_ | refine blk_alloc ?_ _)); refine blk_far ?_ NB273_279.out _; (with_reducible repeat (first | refine blk_drewN ?_ _ | refine blk_drew ?_ | refine blk_alloc ?_ _)); refine blk_far ?_ NB273_279.out _; (with_reducible repeat (first | refine blk_drewN ?_ _ | refine blk_drew ?_ | refine blk_alloc ?_ _)); exact BK273.out⟩
                              have n4_ : Aside0 (((((w51.setCell ⟨gb279, 0, none⟩ (.int .i64 t275)).setCell ⟨gb279, 1, none⟩ (.int .i64 t276)).setCell ⟨gb279, 2, none⟩ (.int .i64 t277)).setCell ⟨gb279, 3, none⟩ (.int .i64 t278)).heap[gb279]? = some (.cells #[.int .i64 t275, .int .i64 t276, .int .i64 t277, .int .i64 t278] 27 (0, 0))) := ⟨by (with_reducible repeat (first | refine blk_drewN ?_ _ | refine blk_drew ?_ | refine blk_alloc ?_ _)); refine blk_put (cs := #[.int .i64 t275, .int .i64 t276, .int .i64 t277, .int .i64 0]) ?_ 3 _ rfl; (with_reducible repeat (first | refine blk_drewN ?_ _ | refine blk_drew ?_ | refine blk_alloc ?_ _)); refine blk_put (cs := #[.int .i64 t275, .int .i64 t276, .int .i64 0, .int .i64 0]) ?_ 2 _ rfl; (with_reducible repeat (first | refine blk_drewN ?_ _ | refine blk_drew ?_ | refine blk_alloc ?_ _)); refine blk_put (cs := #[.int .i64 t275, .int .i64 0, .int .i64 0, .int .i64 0]) ?_ 1 _ rfl; (with_reducible repeat (first | refine blk_drewN ?_ _ | refine blk_drew ?_ | refine blk_alloc ?_ _)); refine blk_put (cs := #[.int .i64 0, .int .i64 0, .int .i64 0, .int .i64 0]) ?_ 0 _ rfl; (with_reducible repeat (first | refine blk_drewN ?_ _ | refine blk_drew ?_ | refine blk_alloc ?_ _)); exact BK279.out⟩
                              have n5_ : Aside0 (Below w.heap.size w ((((w51.setCell ⟨gb279, 0, none⟩ (.int .i64 t275)).setCell ⟨gb279, 1, none⟩ (.int .i64 t276)).setCell ⟨gb279, 2, none⟩ (.int .i64 t277)).setCell ⟨gb279, 3, none⟩ (.int .i64 t278))) := ⟨by repeat (first | (with_reducible first | exact HB.out | apply below_alloc | apply pw_below_drewN | apply below_drew1 | refine below_set ?_ GE263.out | refine below_set ?_ GE264.out | refine below_set ?_ GE273.out | refine below_set ?_ GE279.out) | exact HB.out)⟩
                              (try clear HO267)
                              (try clear BK263)
                              (try clear BK264)
                              (try clear BK273)
                              (try clear BK279)
                              (try clear HB)
                              generalize ((((w51.setCell ⟨gb279, 0, none⟩ (.int .i64 t275)).setCell ⟨gb279, 1, none⟩ (.int .i64 t276)).setCell ⟨gb279, 2, none⟩ (.int .i64 t277)).setCell ⟨gb279, 3, none⟩ (.int .i64 t278)) = w56 at n0_ n1_ n2_ n3_ n4_ n5_ ⊢
                              have HO267 := n0_
                              have BK263 := n1_
                              have BK264 := n2_
                              have BK273 := n3_
                              have BK279 := n4_
                              have HB := n5_
                              clear n0_ n1_ n2_ n3_ n4_ n5_
                              have n0_ := Aside0.mk (Kd.R_drew HO267.out)
                              have n1_ := Aside0.mk (blk_drew BK263.out)
                              have n2_ := Aside0.mk (blk_drew BK264.out)
                              have n3_ := Aside0.mk (blk_drew BK273.out)
                              have n4_ := Aside0.mk (blk_drew BK279.out)
                              have n5_ := Aside0.mk (below_drew1 HB.out)
                              clear HO267
                              clear BK263
                              clear BK264
                              clear BK273
                              clear BK279
                              clear HB
                              have HO267 := n0_
                              have BK263 := n1_
                              have BK264 := n2_
                              have BK273 := n3_
                              have BK279 := n4_
                              have HB := n5_
                              clear n0_ n1_ n2_ n3_ n4_ n5_
                              have p307 : 0 ≤ (1 : Int) := (by omega)
                              have q307 : 1 < (t265.length : Int) := of_decide_eq_true (by first | (with_reducible assumption) | assumption)
                              obtain ⟨ad307, e307, hx307_0⟩ := Kd.at_int (Kd.R_reads' HO267.out).2.2 1 p307 q307
                              obtain rfl : ad268 = ad307 := (by injection e307)
                              (try simp only [show (1 : Int).toNat = 1 from rfl, Nat.reduceMul, Nat.reduceEqDiff, Go.Addr.add, ↓reduceIte] at hx307_0)
                              have qi307 : (1 < t265.length) = True := eq_true (by omega)
                              (try rw [show ((1 : Int)).toNat = 1 from rfl] at hx307_0)
                              replace p307 := eq_true p307
                              replace q307 := eq_true q307
                              refine start_ (n := 75) (S := fun w' => w'.cell? ⟨gb263, 0, none⟩ = some (.int .i64 t255) ∧ w'.cell? ⟨gb263, 1, none⟩ = some (.int .i64 t256) ∧ w'.cell? ⟨gb263, 2, none⟩ = some (.int .i64 t257) ∧ w'.cell? ⟨gb263, 3, none⟩ = some (.int .i64 t258) ∧ w'.cell? ⟨gb273, 0, none⟩ = some (.int .i64 t269) ∧ w'.cell? ⟨gb273, 1, none⟩ = some (.int .i64 t270) ∧ w'.cell? ⟨gb273, 2, none⟩ = some (.int .i64 t271) ∧ w'.cell? ⟨gb273, 3, none⟩ = some (.int .i64 t272) ∧ w'.cell? ⟨gb279, 0, none⟩ = some (.int .i64 t275) ∧ w'.cell? ⟨gb279, 1, none⟩ = some (.int .i64 t276) ∧ w'.cell? ⟨gb279, 2, none⟩ = some (.int .i64 t277) ∧ w'.cell? ⟨gb279, 3, none⟩ = some (.int .i64 t278) ∧ w'.cell? ⟨ad268.block, ad268.off + 1, none⟩ = some (.int .i64 (rd t265 1))) (ds := []) #[false, false, false, false, false, false, false, false, false, false, false, false, false, false, false, false, false, false, false, false, false, false, false, false, false, false, false, false, false, false, false, false, false, false, false, false, false, false, false, false, false, false, false, false, false, false, false, false, false, false, false, false, false, false, false, false, false, false, false, false, false, false, false, false, false, false, false, false, false, false, false, false, false, false, false] (by kernel_rfl) rfl rfl ⟨(blk_cell BK263.out 0).trans rfl, (blk_cell BK263.out 1).trans rfl, (blk_cell BK263.out 2).trans rfl, (blk_cell BK263.out 3).trans rfl, (blk_cell BK273.out 0).trans rfl, (blk_cell BK273.out 1).trans rfl, (blk_cell BK273.out 2).trans rfl, (blk_cell BK273.out 3).trans rfl, (blk_cell BK279.out 0).trans rfl, (blk_cell BK279.out 1).trans rfl, (blk_cell BK279.out 2).trans rfl, (blk_cell BK279.out 3).trans rfl, hx307_0⟩ (fun hHeld => ?_); refine with_tabW laws_FnFades.tab7 laws_FnFades.bits7 (fun HT_ HW_ => ?_)
                              generalize w56.drew = w57 at HO267 BK263 BK264 BK273 BK279 HB hx307_0 hHeld ⊢
                              refine take_ (i := 0) (N := some 29) (v := ?_) (a' := ?_) #[true, false, false, false, false, false, false, false, false, false, false, false, false, false, false, false, false, false, false, false, false, false, false, false, false, false, false, false, false, false, false, false, false, false, false, false, false, false, false, false, false, false, false, false, false, false, false, false, false, false, false, false, false, false, false, false, false, false, false, false, false, false, false, false, false, false, false, false, false, false, false, false, false, false, false] rfl rfl (take_ofW HT_.out HW_.out (by kernel_rfl)) (fun _ _ _ h => h) (Or.inl ⟨by rfl, ?_⟩) hHeld ?_ ?_
                              rotate_left
                              · rintro w' ⟨s0, s1, s2, s3, s4, s5, s6, s7, s8, s9, s10, s11, s12⟩
                                go_simp
                                with_reducible rfl
                              rotate_left
                              · simp only [Act.put, List.setIfInBounds_toArray, List.set_cons_zero, List.set_cons_succ, i64_w, i32_w]
                                rfl
                              refine one_ (i := 1) (N := some 30) #[true, true, false, false, false, false, false, false, false, false, false, false, false, false, false, false, false, false, false, false, false, false, false, false, false, false, false, false, false, false, false, false, false, false, false, false, false, false, false, false, false, false, false, false, false, false, false, false, false, false, false, false, false, false, false, false, false, false, false, false, false, false, false, false, false, false, false, false, false, false, false, false, false, false, false] rfl rfl (one_of HT_.out (by kernel_rfl)) (by decide) (fun K hK => ?_)
                              refine goes_ Try.func43 (by kernel_rfl) rfl #[.agg #[.int .i64 t255, .int .i64 t256, .int .i64 t257, .int .i64 t258]] (by rfl) rfl rfl (by (try simp only [List.map_toArray, List.map_cons, List.map_nil]); first | done | rfl | (simp only [List.length_drop, List.length_take]; rfl)) ?_
                              with_reducible refine (impl_LaidOk.calls t255 t256 t257 t258 true _ A10.out).mono ?_
                              rintro e w58 ⟨rfl, hb⟩
                              have HS12_ := (hb.cell (World.block_lt_of_cell? _ _ (hHeld.2.2.2.2.2.2.2.2.2.2.2.2))).trans (hHeld.2.2.2.2.2.2.2.2.2.2.2.2)
                              refine ⟨_, rfl, ?_⟩
                              have n0_ := Aside0.mk (Kd.R_below (by (with_reducible repeat (first | apply Kd.R_alloc | apply Kd.R_drewN | apply Kd.R_drew)); exact HO267.out) hb)
                              have n1_ := Aside0.mk (blk_below (g := gb263) (o := .cells #[.int .i64 t255, .int .i64 t256, .int .i64 t257, .int .i64 t258] 27 (0, 0)) (by (with_reducible repeat (first | refine blk_drewN ?_ _ | refine blk_drew ?_ | refine blk_alloc ?_ _)); exact BK263.out) hb)
                              have n2_ := Aside0.mk (blk_below (g := gb264) (o := .cells #[.int .i64 t259, .int .i64 t260, .int .i64 t261, .int .i64 t262] 27 (0, 0)) (by (with_reducible repeat (first | refine blk_drewN ?_ _ | refine blk_drew ?_ | refine blk_alloc ?_ _)); exact BK264.out) hb)
                              have n3_ := Aside0.mk (blk_below (g := gb273) (o := .cells #[.int .i64 t269, .int .i64 t270, .int .i64 t271, .int .i64 t272] 27 (0, 0)) (by (with_reducible repeat (first | refine blk_drewN ?_ _ | refine blk_drew ?_ | refine blk_alloc ?_ _)); exact BK273.out) hb)
                              have n4_ := Aside0.mk (blk_below (g := gb279) (o := .cells #[.int .i64 t275, .int .i64 t276, .int .i64 t277, .int .i64 t278] 27 (0, 0)) (by (with_reducible repeat (first | refine blk_drewN ?_ _ | refine blk_drew ?_ | refine blk_alloc ?_ _)); exact BK279.out) hb)
                              have n5_ := Aside0.mk (below_step (by repeat (first | (with_reducible first | exact HB.out | apply below_alloc | apply pw_below_drewN | apply below_drew1 | refine below_set ?_ GE263.out | refine below_set ?_ GE264.out | refine below_set ?_ GE273.out | refine below_set ?_ GE279.out) | exact HB.out)) hb)
                              clear HO267
                              clear BK263
                              clear BK264
                              clear BK273
                              clear BK279
                              clear HB
                              have HO267 := n0_
                              have BK263 := n1_
                              have BK264 := n2_
                              have BK273 := n3_
                              have BK279 := n4_
                              have HB := n5_
                              clear n0_ n1_ n2_ n3_ n4_ n5_
                              (try clear hb)
                              (try clear hb2)
                              (try clear hk)
                              (try clear hi)
                              refine hK.out _ _ ⟨(blk_cell BK263.out 0).trans rfl, (blk_cell BK263.out 1).trans rfl, (blk_cell BK263.out 2).trans rfl, (blk_cell BK263.out 3).trans rfl, (blk_cell BK273.out 0).trans rfl, (blk_cell BK273.out 1).trans rfl, (blk_cell BK273.out 2).trans rfl, (blk_cell BK273.out 3).trans rfl, (blk_cell BK279.out 0).trans rfl, (blk_cell BK279.out 1).trans rfl, (blk_cell BK279.out 2).trans rfl, (blk_cell BK279.out 3).trans rfl, HS12_⟩ (fun hHeld => ?_)
                              clear hK K
                              refine norm_ (a' := ?_) ?_ ?_
                              rotate_left
                              · show Act.put _ (some 30) _ = _
                                simp only [Act.put, List.setIfInBounds_toArray, List.set_cons_zero, List.set_cons_succ, i64_w, i32_w]
                                rfl
                              refine pure_ (i := 2) (N := some 31) (v := ?_) (a' := ?_) #[true, true, true, false, false, false, false, false, false, false, false, false, false, false, false, false, false, false, false, false, false, false, false, false, false, false, false, false, false, false, false, false, false, false, false, false, false, false, false, false, false, false, false, false, false, false, false, false, false, false, false, false, false, false, false, false, false, false, false, false, false, false, false, false, false, false, false, false, false, false, false, false, false, false, false] rfl rfl (any_of HT_.out (by kernel_rfl)) (fun _ _ _ h => h) (Or.inl ⟨by rfl, ?_⟩) ?_ ?_
                              rotate_left
                              · intro w'
                                go_simp
                                with_reducible rfl
                              rotate_left
                              · simp only [Act.put, List.setIfInBounds_toArray, List.set_cons_zero, List.set_cons_succ, i64_w, i32_w]
                                rfl
                              refine take_ (i := 3) (N := some 32) (v := ?_) (a' := ?_) #[true, true, true, true, false, false, false, false, false, false, false, false, false, false, false, false, false, false, false, false, false, false, false, false, false, false, false, false, false, false, false, false, false, false, false, false, false, false, false, false, false, false, false, false, false, false, false, false, false, false, false, false, false, false, false, false, false, false, false, false, false, false, false, false, false, false, false, false, false, false, false, false, false, false, false] rfl rfl (take_ofW HT_.out HW_.out (by kernel_rfl)) (fun _ _ _ h => h) (Or.inl ⟨by rfl, ?_⟩) hHeld ?_ ?_
                              rotate_left
                              · rintro w' ⟨s0, s1, s2, s3, s4, s5, s6, s7, s8, s9, s10, s11, s12⟩
                                go_simp
                                with_reducible rfl
                              rotate_left
                              · simp only [Act.put, List.setIfInBounds_toArray, List.set_cons_zero, List.set_cons_succ, i64_w, i32_w]
                                rfl
                              refine one_ (i := 4) (N := some 33) #[true, true, true, true, true, false, false, false, false, false, false, false, false, false, false, false, false, false, false, false, false, false, false, false, false, false, false, false, false, false, false, false, false, false, false, false, false, false, false, false, false, false, false, false, false, false, false, false, false, false, false, false, false, false, false, false, false, false, false, false, false, false, false, false, false, false, false, false, false, false, false, false, false, false, false] rfl rfl (one_of HT_.out (by kernel_rfl)) (by decide) (fun K hK => ?_)
                              refine goes_ Try.func43 (by kernel_rfl) rfl #[.agg #[.int .i64 t269, .int .i64 t270, .int .i64 t271, .int .i64 t272]] (by rfl) rfl rfl (by (try simp only [List.map_toArray, List.map_cons, List.map_nil]); first | done | rfl | (simp only [List.length_drop, List.length_take]; rfl)) ?_
                              with_reducible refine (impl_LaidOk.calls t269 t270 t271 t272 true _ A12.out).mono ?_
                              rintro e w59 ⟨rfl, hb⟩
                              have HS12_ := (hb.cell (World.block_lt_of_cell? _ _ (hHeld.2.2.2.2.2.2.2.2.2.2.2.2))).trans (hHeld.2.2.2.2.2.2.2.2.2.2.2.2)
                              refine ⟨_, rfl, ?_⟩
                              have n0_ := Aside0.mk (Kd.R_below (by (with_reducible repeat (first | apply Kd.R_alloc | apply Kd.R_drewN | apply Kd.R_drew)); exact HO267.out) hb)
                              have n1_ := Aside0.mk (blk_below (g := gb263) (o := .cells #[.int .i64 t255, .int .i64 t256, .int .i64 t257, .int .i64 t258] 27 (0, 0)) (by (with_reducible repeat (first | refine blk_drewN ?_ _ | refine blk_drew ?_ | refine blk_alloc ?_ _)); exact BK263.out) hb)
                              have n2_ := Aside0.mk (blk_below (g := gb264) (o := .cells #[.int .i64 t259, .int .i64 t260, .int .i64 t261, .int .i64 t262] 27 (0, 0)) (by (with_reducible repeat (first | refine blk_drewN ?_ _ | refine blk_drew ?_ | refine blk_alloc ?_ _)); exact BK264.out) hb)
                              have n3_ := Aside0.mk (blk_below (g := gb273) (o := .cells #[.int .i64 t269, .int .i64 t270, .int .i64 t271, .int .i64 t272] 27 (0, 0)) (by (with_reducible repeat (first | refine blk_drewN ?_ _ | refine blk_drew ?_ | refine blk_alloc ?_ _)); exact BK273.out) hb)
                              have n4_ := Aside0.mk (blk_below (g := gb279) (o := .cells #[.int .i64 t275, .int .i64 t276, .int .i64 t277, .int .i64 t278] 27 (0, 0)) (by (with_reducible repeat (first | refine blk_drewN ?_ _ | refine blk_drew ?_ | refine blk_alloc ?_ _)); exact BK279.out) hb)
                              have n5_ := Aside0.mk (below_step (by repeat (first | (with_reducible first | exact HB.out | apply below_alloc | apply pw_below_drewN | apply below_drew1 | refine below_set ?_ GE263.out | refine below_set ?_ GE264.out | refine below_set ?_ GE273.out | refine below_set ?_ GE279.out) | exact HB.out)) hb)
                              clear HO267
                              clear BK263
                              clear BK264
                              clear BK273
                              clear BK279
                              clear HB
                              have HO267 := n0_
                              have BK263 := n1_
                              have BK264 := n2_
                              have BK273 := n3_
                              have BK279 := n4_
                              have HB := n5_
                              clear n0_ n1_ n2_ n3_ n4_ n5_
                              (try clear hb)
                              (try clear hb2)
                              (try clear hk)
                              (try clear hi)
                              refine hK.out _ _ ⟨(blk_cell BK263.out 0).trans rfl, (blk_cell BK263.out 1).trans rfl, (blk_cell BK263.out 2).trans rfl, (blk_cell BK263.out 3).trans rfl, (blk_cell BK273.out 0).trans rfl, (blk_cell BK273.out 1).trans rfl, (blk_cell BK273.out 2).trans rfl, (blk_cell BK273.out 3).trans rfl, (blk_cell BK279.out 0).trans rfl, (blk_cell BK279.out 1).trans rfl, (blk_cell BK279.out 2).trans rfl, (blk_cell BK279.out 3).trans rfl, HS12_⟩ (fun hHeld => ?_)
                              clear hK K
                              refine norm_ (a' := ?_) ?_ ?_
                              rotate_left
                              · show Act.put _ (some 33) _ = _
                                simp only [Act.put, List.setIfInBounds_toArray, List.set_cons_zero, List.set_cons_succ, i64_w, i32_w]
                                rfl
                              refine pure_ (i := 5) (N := some 34) (v := ?_) (a' := ?_) #[true, true, true, true, true, true, false, false, false, false, false, false, false, false, false, false, false, false, false, false, false, false, false, false, false, false, false, false, false, false, false, false, false, false, false, false, false, false, false, false, false, false, false, false, false, false, false, false, false, false, false, false, false, false, false, false, false, false, false, false, false, false, false, false, false, false, false, false, false, false, false, false, false, false, false] rfl rfl (any_of HT_.out (by kernel_rfl)) (fun _ _ _ h => h) (Or.inl ⟨by rfl, ?_⟩) ?_ ?_
                              rotate_left
                              · intro w'
                                go_simp
                                with_reducible rfl
                              rotate_left
                              · simp only [Act.put, List.setIfInBounds_toArray, List.set_cons_zero, List.set_cons_succ, i64_w, i32_w]
                                rfl
                              refine pure_ (i := 6) (N := some 35) (v := ?_) (a' := ?_) #[true, true, true, true, true, true, true, false, false, false, false, false, false, false, false, false, false, false, false, false, false, false, false, false, false, false, false, false, false, false, false, false, false, false, false, false, false, false, false, false, false, false, false, false, false, false, false, false, false, false, false, false, false, false, false, false, false, false, false, false, false, false, false, false, false, false, false, false, false, false, false, false, false, false, false] rfl rfl (any_of HT_.out (by kernel_rfl)) (fun _ _ _ h => h) (Or.inl ⟨by rfl, ?_⟩) ?_ ?_
                              rotate_left
                              · intro w'
                                go_simp
                                with_reducible rfl
                              rotate_left
                              · simp only [Act.put, List.setIfInBounds_toArray, List.set_cons_zero, List.set_cons_succ, i64_w, i32_w]
                                rfl
                              refine take_ (i := 7) (N := some 36) (v := ?_) (a' := ?_) #[true, true, true, true, true, true, true, true, false, false, false, false, false, false, false, false, false, false, false, false, false, false, false, false, false, false, false, false, false, false, false, false, false, false, false, false, false, false, false, false, false, false, false, false, false, false, false, false, false, false, false, false, false, false, false, false, false, false, false, false, false, false, false, false, false, false, false, false, false, false, false, false, false, false, false] rfl rfl (take_ofW HT_.out HW_.out (by kernel_rfl)) (fun _ _ _ h => h) (Or.inl ⟨by rfl, ?_⟩) hHeld ?_ ?_
                              rotate_left
                              · rintro w' ⟨s0, s1, s2, s3, s4, s5, s6, s7, s8, s9, s10, s11, s12⟩
                                go_simp
                                with_reducible rfl
                              rotate_left
                              · simp only [Act.put, List.setIfInBounds_toArray, List.set_cons_zero, List.set_cons_succ, i64_w, i32_w]
                                rfl
                              refine one_ (i := 8) (N := some 37) #[true, true, true, true, true, true, true, true, true, false, false, false, false, false, false, false, false, false, false, false, false, false, false, false, false, false, false, false, false, false, false, false, false, false, false, false, false, false, false, false, false, false, false, false, false, false, false, false, false, false, false, false, false, false, false, false, false, false, false, false, false, false, false, false, false, false, false, false, false, false, false, false, false, false, false] rfl rfl (one_of HT_.out (by kernel_rfl)) (by decide) (fun K hK => ?_)
                              refine goes_ Try.func43 (by kernel_rfl) rfl #[.agg #[.int .i64 t275, .int .i64 t276, .int .i64 t277, .int .i64 t278]] (by rfl) rfl rfl (by (try simp only [List.map_toArray, List.map_cons, List.map_nil]); first | done | rfl | (simp only [List.length_drop, List.length_take]; rfl)) ?_
                              with_reducible refine (impl_LaidOk.calls t275 t276 t277 t278 true _ A14.out).mono ?_
                              rintro e w60 ⟨rfl, hb⟩
                              have HS12_ := (hb.cell (World.block_lt_of_cell? _ _ (hHeld.2.2.2.2.2.2.2.2.2.2.2.2))).trans (hHeld.2.2.2.2.2.2.2.2.2.2.2.2)
                              refine ⟨_, rfl, ?_⟩
                              have n0_ := Aside0.mk (Kd.R_below (by (with_reducible repeat (first | apply Kd.R_alloc | apply Kd.R_drewN | apply Kd.R_drew)); exact HO267.out) hb)
                              have n1_ := Aside0.mk (blk_below (g := gb263) (o := .cells #[.int .i64 t255, .int .i64 t256, .int .i64 t257, .int .i64 t258] 27 (0, 0)) (by (with_reducible repeat (first | refine blk_drewN ?_ _ | refine blk_drew ?_ | refine blk_alloc ?_ _)); exact BK263.out) hb)
                              have n2_ := Aside0.mk (blk_below (g := gb264) (o := .cells #[.int .i64 t259, .int .i64 t260, .int .i64 t261, .int .i64 t262] 27 (0, 0)) (by (with_reducible repeat (first | refine blk_drewN ?_ _ | refine blk_drew ?_ | refine blk_alloc ?_ _)); exact BK264.out) hb)
                              have n3_ := Aside0.mk (blk_below (g := gb273) (o := .cells #[.int .i64 t269, .int .i64 t270, .int .i64 t271, .int .i64 t272] 27 (0, 0)) (by (with_reducible repeat (first | refine blk_drewN ?_ _ | refine blk_drew ?_ | refine blk_alloc ?_ _)); exact BK273.out) hb)
                              have n4_ := Aside0.mk (blk_below (g := gb279) (o := .cells #[.int .i64 t275, .int .i64 t276, .int .i64 t277, .int .i64 t278] 27 (0, 0)) (by (with_reducible repeat (first | refine blk_drewN ?_ _ | refine blk_drew ?_ | refine blk_alloc ?_ _)); exact BK279.out) hb)
                              have n5_ := Aside0.mk (below_step (by repeat (first | (with_reducible first | exact HB.out | apply below_alloc | apply pw_below_drewN | apply below_drew1 | refine below_set ?_ GE263.out | refine below_set ?_ GE264.out | refine below_set ?_ GE273.out | refine below_set ?_ GE279.out) | exact HB.out)) hb)
                              clear HO267
                              clear BK263
                              clear BK264
                              clear BK273
                              clear BK279
                              clear HB
                              have HO267 := n0_
                              have BK263 := n1_
                              have BK264 := n2_
                              have BK273 := n3_
                              have BK279 := n4_
                              have HB := n5_
                              clear n0_ n1_ n2_ n3_ n4_ n5_
                              (try clear hb)
                              (try clear hb2)
                              (try clear hk)
                              (try clear hi)
                              refine hK.out _ _ ⟨(blk_cell BK263.out 0).trans rfl, (blk_cell BK263.out 1).trans rfl, (blk_cell BK263.out 2).trans rfl, (blk_cell BK263.out 3).trans rfl, (blk_cell BK273.out 0).trans rfl, (blk_cell BK273.out 1).trans rfl, (blk_cell BK273.out 2).trans rfl, (blk_cell BK273.out 3).trans rfl, (blk_cell BK279.out 0).trans rfl, (blk_cell BK279.out 1).trans rfl, (blk_cell BK279.out 2).trans rfl, (blk_cell BK279.out 3).trans rfl, HS12_⟩ (fun hHeld => ?_)
                              clear hK K
                              refine norm_ (a' := ?_) ?_ ?_
                              rotate_left
                              · show Act.put _ (some 37) _ = _
                                simp only [Act.put, List.setIfInBounds_toArray, List.set_cons_zero, List.set_cons_succ, i64_w, i32_w]
                                rfl
                              refine pure_ (i := 9) (N := some 38) (v := ?_) (a' := ?_) #[true, true, true, true, true, true, true, true, true, true, false, false, false, false, false, false, false, false, false, false, false, false, false, false, false, false, false, false, false, false, false, false, false, false, false, false, false, false, false, false, false, false, false, false, false, false, false, false, false, false, false, false, false, false, false, false, false, false, false, false, false, false, false, false, false, false, false, false, false, false, false, false, false, false, false] rfl rfl (any_of HT_.out (by kernel_rfl)) (fun _ _ _ h => h) (Or.inl ⟨by rfl, ?_⟩) ?_ ?_
                              rotate_left
                              · intro w'
                                go_simp
                                with_reducible rfl
                              rotate_left
                              · simp only [Act.put, List.setIfInBounds_toArray, List.set_cons_zero, List.set_cons_succ, i64_w, i32_w]
                                rfl
                              refine pure_ (i := 10) (N := some 39) (v := ?_) (a' := ?_) #[true, true, true, true, true, true, true, true, true, true, true, false, false, false, false, false, false, false, false, false, false, false, false, false, false, false, false, false, false, false, false, false, false, false, false, false, false, false, false, false, false, false, false, false, false, false, false, false, false, false, false, false, false, false, false, false, false, false, false, false, false, false, false, false, false, false, false, false, false, false, false, false, false, false, false] rfl rfl (any_of HT_.out (by kernel_rfl)) (fun _ _ _ h => h) (Or.inl ⟨by rfl, ?_⟩) ?_ ?_
                              rotate_left
                              · intro w'
                                go_simp
                                with_reducible rfl
                              rotate_left
                              · simp only [Act.put, List.setIfInBounds_toArray, List.set_cons_zero, List.set_cons_succ, i64_w, i32_w]
                                rfl
                              refine pure_ (i := 11) (N := some 40) (v := ?_) (a' := ?_) #[true, true, true, true, true, true, true, true, true, true, true, true, false, false, false, false, false, false, false, false, false, false, false, false, false, false, false, false, false, false, false, false, false, false, false, false, false, false, false, false, false, false, false, false, false, false, false, false, false, false, false, false, false, false, false, false, false, false, false, false, false, false, false, false, false, false, false, false, false, false, false, false, false, false, false] rfl rfl (any_of HT_.out (by kernel_rfl)) (fun _ _ _ h => h) (Or.inl ⟨by rfl, ?_⟩) ?_ ?_
                              rotate_left
                              · intro w'
                                go_simp
                                with_reducible rfl
                              rotate_left
                              · simp only [Act.put, List.setIfInBounds_toArray, List.set_cons_zero, List.set_cons_succ, i64_w, i32_w]
                                rfl
                              refine pure_ (i := 13) (N := some 42) (v := ?_) (a' := ?_) #[true, true, true, true, true, true, true, true, true, true, true, true, false, true, false, false, false, false, false, false, false, false, false, false, false, false, false, false, false, false, false, false, false, false, false, false, false, false, false, false, false, false, false, false, false, false, false, false, false, false, false, false, false, false, false, false, false, false, false, false, false, false, false, false, false, false, false, false, false, false, false, false, false, false, false] rfl rfl (any_of HT_.out (by kernel_rfl)) (fun _ _ _ h => h) (Or.inl ⟨by rfl, ?_⟩) ?_ ?_
                              rotate_left
                              · intro w'
                                go_simp
                                with_reducible rfl
                              rotate_left
                              · simp only [Act.put, List.setIfInBounds_toArray, List.set_cons_zero, List.set_cons_succ, i64_w, i32_w]
                                rfl
                              refine take_ (i := 12) (N := some 41) (v := ?_) (a' := ?_) #[true, true, true, true, true, true, true, true, true, true, true, true, true, true, false, false, false, false, false, false, false, false, false, false, false, false, false, false, false, false, false, false, false, false, false, false, false, false, false, false, false, false, false, false, false, false, false, false, false, false, false, false, false, false, false, false, false, false, false, false, false, false, false, false, false, false, false, false, false, false, false, false, false, false, false] rfl rfl (take_ofW HT_.out HW_.out (by kernel_rfl)) (fun _ _ _ h => h) (Or.inl ⟨by rfl, ?_⟩) hHeld ?_ ?_
                              rotate_left
                              · rintro w' ⟨s0, s1, s2, s3, s4, s5, s6, s7, s8, s9, s10, s11, s12⟩
                                go_simp
                                with_reducible rfl
                              rotate_left
                              · simp only [Act.put, List.setIfInBounds_toArray, List.set_cons_zero, List.set_cons_succ, i64_w, i32_w]
                                rfl
                              refine take_ (i := 14) (N := some 43) (v := ?_) (a' := ?_) #[true, true, true, true, true, true, true, true, true, true, true, true, true, true, true, false, false, false, false, false, false, false, false, false, false, false, false, false, false, false, false, false, false, false, false, false, false, false, false, false, false, false, false, false, false, false, false, false, false, false, false, false, false, false, false, false, false, false, false, false, false, false, false, false, false, false, false, false, false, false, false, false, false, false, false] rfl rfl (take_ofW HT_.out HW_.out (by kernel_rfl)) (fun _ _ _ h => h) (Or.inl ⟨by rfl, ?_⟩) hHeld ?_ ?_
                              rotate_left
                              · rintro w' ⟨s0, s1, s2, s3, s4, s5, s6, s7, s8, s9, s10, s11, s12⟩
                                go_simp
                                with_reducible rfl
                              rotate_left
                              · simp only [Act.put, List.setIfInBounds_toArray, List.set_cons_zero, List.set_cons_succ, i64_w, i32_w]
                                rfl
                              refine pure_ (i := 15) (N := some 44) (v := ?_) (a' := ?_) #[true, true, true, true, true, true, true, true, true, true, true, true, true, true, true, true, false, false, false, false, false, false, false, false, false, false, false, false, false, false, false, false, false, false, false, false, false, false, false, false, false, false, false, false, false, false, false, false, false, false, false, false, false, false, false, false, false, false, false, false, false, false, false, false, false, false, false, false, false, false, false, false, false, false, false] rfl rfl (any_of HT_.out (by kernel_rfl)) (fun _ _ _ h => h) (Or.inl ⟨by rfl, ?_⟩) ?_ ?_
                              rotate_left
                              · intro w'
                                go_simp
                                with_reducible rfl
                              rotate_left
                              · simp only [Act.put, List.setIfInBounds_toArray, List.set_cons_zero, List.set_cons_succ, i64_w, i32_w]
                                rfl
                              refine pure_ (i := 16) (N := some 45) (v := ?_) (a' := ?_) #[true, true, true, true, true, true, true, true, true, true, true, true, true, true, true, true, true, false, false, false, false, false, false, false, false, false, false, false, false, false, false, false, false, false, false, false, false, false, false, false, false, false, false, false, false, false, false, false, false, false, false, false, false, false, false, false, false, false, false, false, false, false, false, false, false, false, false, false, false, false, false, false, false, false, false] rfl rfl (any_of HT_.out (by kernel_rfl)) (fun _ _ _ h => h) (Or.inl ⟨by rfl, ?_⟩) ?_ ?_
                              rotate_left
                              · intro w'
                                go_simp
                                with_reducible rfl
                              rotate_left
                              · simp only [Act.put, List.setIfInBounds_toArray, List.set_cons_zero, List.set_cons_succ, i64_w, i32_w]
                                rfl
                              refine pure_ (i := 17) (N := some 46) (v := ?_) (a' := ?_) #[true, true, true, true, true, true, true, true, true, true, true, true, true, true, true, true, true, true, false, false, false, false, false, false, false, false, false, false, false, false, false, false, false, false, false, false, false, false, false, false, false, false, false, false, false, false, false, false, false, false, false, false, false, false, false, false, false, false, false, false, false, false, false, false, false, false, false, false, false, false, false, false, false, false, false] rfl rfl (any_of HT_.out (by kernel_rfl)) (fun _ _ _ h => h) (Or.inl ⟨by rfl, ?_⟩) ?_ ?_
                              rotate_left
                              · intro w'
                                go_simp
                                with_reducible rfl
                              rotate_left
                              · simp only [Act.put, List.setIfInBounds_toArray, List.set_cons_zero, List.set_cons_succ, i64_w, i32_w]
                                rfl
                              refine pure_ (i := 18) (N := some 47) (v := ?_) (a' := ?_) #[true, true, true, true, true, true, true, true, true, true, true, true, true, true, true, true, true, true, true, false, false, false, false, false, false, false, false, false, false, false, false, false, false, false, false, false, false, false, false, false, false, false, false, false, false, false, false, false, false, false, false, false, false, false, false, false, false, false, false, false, false, false, false, false, false, false, false, false, false, false, false, false, false, false, false] rfl rfl (any_of HT_.out (by kernel_rfl)) (fun _ _ _ h => h) (Or.inl ⟨by rfl, ?_⟩) ?_ ?_
                              rotate_left
                              · intro w'
                                go_simp
                                with_reducible rfl
                              rotate_left
                              · simp only [Act.put, List.setIfInBounds_toArray, List.set_cons_zero, List.set_cons_succ, i64_w, i32_w]
                                rfl
                              refine pure_ (i := 20) (N := some 49) (v := ?_) (a' := ?_) #[true, true, true, true, true, true, true, true, true, true, true, true, true, true, true, true, true, true, true, false, true, false, false, false, false, false, false, false, false, false, false, false, false, false, false, false, false, false, false, false, false, false, false, false, false, false, false, false, false, false, false, false, false, false, false, false, false, false, false, false, false, false, false, false, false, false, false, false, false, false, false, false, false, false, false] rfl rfl (any_of HT_.out (by kernel_rfl)) (fun _ _ _ h => h) (Or.inl ⟨by rfl, ?_⟩) ?_ ?_
                              rotate_left
                              · intro w'
                                go_simp
                                with_reducible rfl
                              rotate_left
                              · simp only [Act.put, List.setIfInBounds_toArray, List.set_cons_zero, List.set_cons_succ, i64_w, i32_w]
                                rfl
                              refine take_ (i := 19) (N := some 48) (v := ?_) (a' := ?_) #[true, true, true, true, true, true, true, true, true, true, true, true, true, true, true, true, true, true, true, true, true, false, false, false, false, false, false, false, false, false, false, false, false, false, false, false, false, false, false, false, false, false, false, false, false, false, false, false, false, false, false, false, false, false, false, false, false, false, false, false, false, false, false, false, false, false, false, false, false, false, false, false, false, false, false] rfl rfl (take_ofW HT_.out HW_.out (by kernel_rfl)) (fun _ _ _ h => h) (Or.inl ⟨by rfl, ?_⟩) hHeld ?_ ?_
                              rotate_left
                              · rintro w' ⟨s0, s1, s2, s3, s4, s5, s6, s7, s8, s9, s10, s11, s12⟩
                                go_simp
                                with_reducible rfl
                              rotate_left
                              · simp only [Act.put, List.setIfInBounds_toArray, List.set_cons_zero, List.set_cons_succ, i64_w, i32_w]
                                rfl
                              refine take_ (i := 21) (N := some 50) (v := ?_) (a' := ?_) #[true, true, true, true, true, true, true, true, true, true, true, true, true, true, true, true, true, true, true, true, true, true, false, false, false, false, false, false, false, false, false, false, false, false, false, false, false, false, false, false, false, false, false, false, false, false, false, false, false, false, false, false, false, false, false, false, false, false, false, false, false, false, false, false, false, false, false, false, false, false, false, false, false, false, false] rfl rfl (take_ofW HT_.out HW_.out (by kernel_rfl)) (fun _ _ _ h => h) (Or.inl ⟨by rfl, ?_⟩) hHeld ?_ ?_
                              rotate_left
                              · rintro w' ⟨s0, s1, s2, s3, s4, s5, s6, s7, s8, s9, s10, s11, s12⟩
                                go_simp
                                with_reducible rfl
                              rotate_left
                              · simp only [Act.put, List.setIfInBounds_toArray, List.set_cons_zero, List.set_cons_succ, i64_w, i32_w]
                                rfl
                              refine pure_ (i := 22) (N := some 51) (v := ?_) (a' := ?_) #[true, true, true, true, true, true, true, true, true, true, true, true, true, true, true, true, true, true, true, true, true, true, true, false, false, false, false, false, false, false, false, false, false, false, false, false, false, false, false, false, false, false, false, false, false, false, false, false, false, false, false, false, false, false, false, false, false, false, false, false, false, false, false, false, false, false, false, false, false, false, false, false, false, false, false] rfl rfl (any_of HT_.out (by kernel_rfl)) (fun _ _ _ h => h) (Or.inl ⟨by rfl, ?_⟩) ?_ ?_
                              rotate_left
                              · intro w'
                                go_simp
                                with_reducible rfl
                              rotate_left
                              · simp only [Act.put, List.setIfInBounds_toArray, List.set_cons_zero, List.set_cons_succ, i64_w, i32_w]
                                rfl
                              refine pure_ (i := 23) (N := some 52) (v := ?_) (a' := ?_) #[true, true, true, true, true, true, true, true, true, true, true, true, true, true, true, true, true, true, true, true, true, true, true, true, false, false, false, false, false, false, false, false, false, false, false, false, false, false, false, false, false, false, false, false, false, false, false, false, false, false, false, false, false, false, false, false, false, false, false, false, false, false, false, false, false, false, false, false, false, false, false, false, false, false, false] rfl rfl (any_of HT_.out (by kernel_rfl)) (fun _ _ _ h => h) (Or.inl ⟨by rfl, ?_⟩) ?_ ?_
                              rotate_left
                              · intro w'
                                go_simp
                                with_reducible rfl
                              rotate_left
                              · simp only [Act.put, List.setIfInBounds_toArray, List.set_cons_zero, List.set_cons_succ, i64_w, i32_w]
                                rfl
                              refine pure_ (i := 24) (N := some 53) (v := ?_) (a' := ?_) #[true, true, true, true, true, true, true, true, true, true, true, true, true, true, true, true, true, true, true, true, true, true, true, true, true, false, false, false, false, false, false, false, false, false, false, false, false, false, false, false, false, false, false, false, false, false, false, false, false, false, false, false, false, false, false, false, false, false, false, false, false, false, false, false, false, false, false, false, false, false, false, false, false, false, false] rfl rfl (any_of HT_.out (by kernel_rfl)) (fun _ _ _ h => h) (Or.inl ⟨by rfl, ?_⟩) ?_ ?_
                              rotate_left
                              · intro w'
                                go_simp
                                with_reducible rfl
                              rotate_left
                              · simp only [Act.put, List.setIfInBounds_toArray, List.set_cons_zero, List.set_cons_succ, i64_w, i32_w]
                                rfl
                              refine pure_ (i := 25) (N := some 54) (v := ?_) (a' := ?_) #[true, true, true, true, true, true, true, true, true, true, true, true, true, true, true, true, true, true, true, true, true, true, true, true, true, true, false, false, false, false, false, false, false, false, false, false, false, false, false, false, false, false, false, false, false, false, false, false, false, false, false, false, false, false, false, false, false, false, false, false, false, false, false, false, false, false, false, false, false, false, false, false, false, false, false] rfl rfl (any_of HT_.out (by kernel_rfl)) (fun _ _ _ h => h) (Or.inl ⟨by rfl, ?_⟩) ?_ ?_
                              rotate_left
                              · intro w'
                                go_simp
                                with_reducible rfl
                              rotate_left
                              · simp only [Act.put, List.setIfInBounds_toArray, List.set_cons_zero, List.set_cons_succ, i64_w, i32_w]
                                rfl
                              refine pure_ (i := 27) (N := some 56) (v := ?_) (a' := ?_) #[true, true, true, true, true, true, true, true, true, true, true, true, true, true, true, true, true, true, true, true, true, true, true, true, true, true, false, true, false, false, false, false, false, false, false, false, false, false, false, false, false, false, false, false, false, false, false, false, false, false, false, false, false, false, false, false, false, false, false, false, false, false, false, false, false, false, false, false, false, false, false, false, false, false, false] rfl rfl (any_of HT_.out (by kernel_rfl)) (fun _ _ _ h => h) (Or.inl ⟨by rfl, ?_⟩) ?_ ?_
                              rotate_left
                              · intro w'
                                go_simp
                                with_reducible rfl
                              rotate_left
                              · simp only [Act.put, List.setIfInBounds_toArray, List.set_cons_zero, List.set_cons_succ, i64_w, i32_w]
                                rfl
                              refine take_ (i := 26) (N := some 55) (v := ?_) (a' := ?_) #[true, true, true, true, true, true, true, true, true, true, true, true, true, true, true, true, true, true, true, true, true, true, true, true, true, true, true, true, false, false, false, false, false, false, false, false, false, false, false, false, false, false, false, false, false, false, false, false, false, false, false, false, false, false, false, false, false, false, false, false, false, false, false, false, false, false, false, false, false, false, false, false, false, false, false] rfl rfl (take_ofW HT_.out HW_.out (by kernel_rfl)) (fun _ _ _ h => h) (Or.inl ⟨by rfl, ?_⟩) hHeld ?_ ?_
                              rotate_left
                              · rintro w' ⟨s0, s1, s2, s3, s4, s5, s6, s7, s8, s9, s10, s11, s12⟩
                                go_simp
                                with_reducible rfl
                              rotate_left
                              · simp only [Act.put, List.setIfInBounds_toArray, List.set_cons_zero, List.set_cons_succ, i64_w, i32_w]
                                rfl
                              refine take_ (i := 28) (N := some 57) (v := ?_) (a' := ?_) #[true, true, true, true, true, true, true, true, true, true, true, true, true, true, true, true, true, true, true, true, true, true, true, true, true, true, true, true, true, false, false, false, false, false, false, false, false, false, false, false, false, false, false, false, false, false, false, false, false, false, false, false, false, false, false, false, false, false, false, false, false, false, false, false, false, false, false, false, false, false, false, false, false, false, false] rfl rfl (take_ofW HT_.out HW_.out (by kernel_rfl)) (fun _ _ _ h => h) (Or.inl ⟨by rfl, ?_⟩) hHeld ?_ ?_
                              rotate_left
                              · rintro w' ⟨s0, s1, s2, s3, s4, s5, s6, s7, s8, s9, s10, s11, s12⟩
                                go_simp
                                with_reducible rfl
                              rotate_left
                              · simp only [Act.put, List.setIfInBounds_toArray, List.set_cons_zero, List.set_cons_succ, i64_w, i32_w]
                                rfl
                              refine pure_ (i := 29) (N := some 58) (v := ?_) (a' := ?_) #[true, true, true, true, true, true, true, true, true, true, true, true, true, true, true, true, true, true, true, true, true, true, true, true, true, true, true, true, true, true, false, false, false, false, false, false, false, false, false, false, false, false, false, false, false, false, false, false, false, false, false, false, false, false, false, false, false, false, false, false, false, false, false, false, false, false, false, false, false, false, false, false, false, false, false] rfl rfl (any_of HT_.out (by kernel_rfl)) (fun _ _ _ h => h) (Or.inl ⟨by rfl, ?_⟩) ?_ ?_
                              rotate_left
                              · intro w'
                                go_simp
                                with_reducible rfl
                              rotate_left
                              · simp only [Act.put, List.setIfInBounds_toArray, List.set_cons_zero, List.set_cons_succ, i64_w, i32_w]
                                rfl
                              refine pure_ (i := 30) (N := some 59) (v := ?_) (a' := ?_) #[true, true, true, true, true, true, true, true, true, true, true, true, true, true, true, true, true, true, true, true, true, true, true, true, true, true, true, true, true, true, true, false, false, false, false, false, false, false, false, false, false, false, false, false, false, false, false, false, false, false, false, false, false, false, false, false, false, false, false, false, false, false, false, false, false, false, false, false, false, false, false, false, false, false, false] rfl rfl (any_of HT_.out (by kernel_rfl)) (fun _ _ _ h => h) (Or.inl ⟨by rfl, ?_⟩) ?_ ?_
                              rotate_left
                              · intro w'
                                go_simp
                                with_reducible rfl
                              rotate_left
                              · simp only [Act.put, List.setIfInBounds_toArray, List.set_cons_zero, List.set_cons_succ, i64_w, i32_w]
                                rfl
                              refine pure_ (i := 31) (N := some 60) (v := ?_) (a' := ?_) #[true, true, true, true, true, true, true, true, true, true, true, true, true, true, true, true, true, true, true, true, true, true, true, true, true, true, true, true, true, true, true, true, false, false, false, false, false, false, false, false, false, false, false, false, false, false, false, false, false, false, false, false, false, false, false, false, false, false, false, false, false, false, false, false, false, false, false, false, false, false, false, false, false, false, false] rfl rfl (any_of HT_.out (by kernel_rfl)) (fun _ _ _ h => h) (Or.inl ⟨by rfl, ?_⟩) ?_ ?_
                              rotate_left
                              · intro w'
                                go_simp
                                with_reducible rfl
                              rotate_left
                              · simp only [Act.put, List.setIfInBounds_toArray, List.set_cons_zero, List.set_cons_succ, i64_w, i32_w]
                                rfl
                              refine pure_ (i := 32) (N := some 61) (v := ?_) (a' := ?_) #[true, true, true, true, true, true, true, true, true, true, true, true, true, true, true, true, true, true, true, true, true, true, true, true, true, true, true, true, true, true, true, true, true, false, false, false, false, false, false, false, false, false, false, false, false, false, false, false, false, false, false, false, false, false, false, false, false, false, false, false, false, false, false, false, false, false, false, false, false, false, false, false, false, false, false] rfl rfl (any_of HT_.out (by kernel_rfl)) (fun _ _ _ h => h) (Or.inl ⟨by rfl, ?_⟩) ?_ ?_
                              rotate_left
                              · intro w'
                                go_simp
                                with_reducible rfl
                              rotate_left
                              · simp only [Act.put, List.setIfInBounds_toArray, List.set_cons_zero, List.set_cons_succ, i64_w, i32_w]
                                rfl
                              refine pure_ (i := 34) (N := some 63) (v := ?_) (a' := ?_) #[true, true, true, true, true, true, true, true, true, true, true, true, true, true, true, true, true, true, true, true, true, true, true, true, true, true, true, true, true, true, true, true, true, false, true, false, false, false, false, false, false, false, false, false, false, false, false, false, false, false, false, false, false, false, false, false, false, false, false, false, false, false, false, false, false, false, false, false, false, false, false, false, false, false, false] rfl rfl (any_of HT_.out (by kernel_rfl)) (fun _ _ _ h => h) (Or.inl ⟨by rfl, ?_⟩) ?_ ?_
                              rotate_left
                              · intro w'
                                go_simp
                                with_reducible rfl
                              rotate_left
                              · simp only [Act.put, List.setIfInBounds_toArray, List.set_cons_zero, List.set_cons_succ, i64_w, i32_w]
                                rfl
                              refine take_ (i := 33) (N := some 62) (v := ?_) (a' := ?_) #[true, true, true, true, true, true, true, true, true, true, true, true, true, true, true, true, true, true, true, true, true, true, true, true, true, true, true, true, true, true, true, true, true, true, true, false, false, false, false, false, false, false, false, false, false, false, false, false, false, false, false, false, false, false, false, false, false, false, false, false, false, false, false, false, false, false, false, false, false, false, false, false, false, false, false] rfl rfl (take_ofW HT_.out HW_.out (by kernel_rfl)) (fun _ _ _ h => h) (Or.inl ⟨by rfl, ?_⟩) hHeld ?_ ?_
                              rotate_left
                              · rintro w' ⟨s0, s1, s2, s3, s4, s5, s6, s7, s8, s9, s10, s11, s12⟩
                                go_simp
                                with_reducible rfl
                              rotate_left
                              · simp only [Act.put, List.setIfInBounds_toArray, List.set_cons_zero, List.set_cons_succ, i64_w, i32_w]
                                rfl
                              refine take_ (i := 35) (N := some 64) (v := ?_) (a' := ?_) #[true, true, true, true, true, true, true, true, true, true, true, true, true, true, true, true, true, true, true, true, true, true, true, true, true, true, true, true, true, true, true, true, true, true, true, true, false, false, false, false, false, false, false, false, false, false, false, false, false, false, false, false, false, false, false, false, false, false, false, false, false, false, false, false, false, false, false, false, false, false, false, false, false, false, false] rfl rfl (take_ofW HT_.out HW_.out (by kernel_rfl)) (fun _ _ _ h => h) (Or.inl ⟨by rfl, ?_⟩) hHeld ?_ ?_
                              rotate_left
                              · rintro w' ⟨s0, s1, s2, s3, s4, s5, s6, s7, s8, s9, s10, s11, s12⟩
                                go_simp
                                with_reducible rfl
                              rotate_left
                              · simp only [Act.put, List.setIfInBounds_toArray, List.set_cons_zero, List.set_cons_succ, i64_w, i32_w]
                                rfl
                              refine pure_ (i := 36) (N := some 65) (v := ?_) (a' := ?_) #[true, true, true, true, true, true, true, true, true, true, true, true, true, true, true, true, true, true, true, true, true, true, true, true, true, true, true, true, true, true, true, true, true, true, true, true, true, false, false, false, false, false, false, false, false, false, false, false, false, false, false, false, false, false, false, false, false, false, false, false, false, false, false, false, false, false, false, false, false, false, false, false, false, false, false] rfl rfl (any_of HT_.out (by kernel_rfl)) (fun _ _ _ h => h) (Or.inl ⟨by rfl, ?_⟩) ?_ ?_
                              rotate_left
                              · intro w'
                                go_simp
                                with_reducible rfl
                              rotate_left
                              · simp only [Act.put, List.setIfInBounds_toArray, List.set_cons_zero, List.set_cons_succ, i64_w, i32_w]
                                rfl
                              refine pure_ (i := 37) (N := some 66) (v := ?_) (a' := ?_) #[true, true, true, true, true, true, true, true, true, true, true, true, true, true, true, true, true, true, true, true, true, true, true, true, true, true, true, true, true, true, true, true, true, true, true, true, true, true, false, false, false, false, false, false, false, false, false, false, false, false, false, false, false, false, false, false, false, false, false, false, false, false, false, false, false, false, false, false, false, false, false, false, false, false, false] rfl rfl (any_of HT_.out (by kernel_rfl)) (fun _ _ _ h => h) (Or.inl ⟨by rfl, ?_⟩) ?_ ?_
                              rotate_left
                              · intro w'
                                go_simp
                                with_reducible rfl
                              rotate_left
                              · simp only [Act.put, List.setIfInBounds_toArray, List.set_cons_zero, List.set_cons_succ, i64_w, i32_w]
                                rfl
                              refine pure_ (i := 38) (N := some 67) (v := ?_) (a' := ?_) #[true, true, true, true, true, true, true, true, true, true, true, true, true, true, true, true, true, true, true, true, true, true, true, true, true, true, true, true, true, true, true, true, true, true, true, true, true, true, true, false, false, false, false, false, false, false, false, false, false, false, false, false, false, false, false, false, false, false, false, false, false, false, false, false, false, false, false, false, false, false, false, false, false, false, false] rfl rfl (any_of HT_.out (by kernel_rfl)) (fun _ _ _ h => h) (Or.inl ⟨by rfl, ?_⟩) ?_ ?_
                              rotate_left
                              · intro w'
                                go_simp
                                with_reducible rfl
                              rotate_left
                              · simp only [Act.put, List.setIfInBounds_toArray, List.set_cons_zero, List.set_cons_succ, i64_w, i32_w]
                                rfl
                              refine take_ (i := 39) (N := some 68) (v := ?_) (a' := ?_) #[true, true, true, true, true, true, true, true, true, true, true, true, true, true, true, true, true, true, true, true, true, true, true, true, true, true, true, true, true, true, true, true, true, true, true, true, true, true, true, true, false, false, false, false, false, false, false, false, false, false, false, false, false, false, false, false, false, false, false, false, false, false, false, false, false, false, false, false, false, false, false, false, false, false, false] rfl rfl (take_ofW HT_.out HW_.out (by kernel_rfl)) (fun _ _ _ h => h) (Or.inl ⟨by rfl, ?_⟩) hHeld ?_ ?_
                              rotate_left
                              · rintro w' ⟨s0, s1, s2, s3, s4, s5, s6, s7, s8, s9, s10, s11, s12⟩
                                go_simp
                                with_reducible rfl
                              rotate_left
                              · simp only [Act.put, List.setIfInBounds_toArray, List.set_cons_zero, List.set_cons_succ, i64_w, i32_w]
                                rfl
                              refine take_ (i := 41) (N := some 70) (v := ?_) (a' := ?_) #[true, true, true, true, true, true, true, true, true, true, true, true, true, true, true, true, true, true, true, true, true, true, true, true, true, true, true, true, true, true, true, true, true, true, true, true, true, true, true, true, false, true, false, false, false, false, false, false, false, false, false, false, false, false, false, false, false, false, false, false, false, false, false, false, false, false, false, false, false, false, false, false, false, false, false] rfl rfl (take_ofW HT_.out HW_.out (by kernel_rfl)) (fun _ _ _ h => h) (Or.inl ⟨by rfl, ?_⟩) hHeld ?_ ?_
                              rotate_left
                              · rintro w' ⟨s0, s1, s2, s3, s4, s5, s6, s7, s8, s9, s10, s11, s12⟩
                                go_simp
                                with_reducible rfl
                              rotate_left
                              · simp only [Act.put, List.setIfInBounds_toArray, List.set_cons_zero, List.set_cons_succ, i64_w, i32_w]
                                rfl
                              refine one_ (i := 40) (N := some 69) #[true, true, true, true, true, true, true, true, true, true, true, true, true, true, true, true, true, true, true, true, true, true, true, true, true, true, true, true, true, true, true, true, true, true, true, true, true, true, true, true, true, true, false, false, false, false, false, false, false, false, false, false, false, false, false, false, false, false, false, false, false, false, false, false, false, false, false, false, false, false, false, false, false, false, false] rfl rfl (one_of HT_.out (by kernel_rfl)) (by decide) (fun K hK => ?_)
                              refine goes_ Try.func41 (by kernel_rfl) rfl #[.agg #[.int .i64 t255, .int .i64 t256, .int .i64 t257, .int .i64 t258], .int .i64 255] (by rfl) rfl rfl (by (try simp only [List.map_toArray, List.map_cons, List.map_nil]); first | done | rfl | (simp only [List.length_drop, List.length_take]; rfl)) ?_
                              with_reducible refine (impl_Fade.calls t255 t256 t257 t258 255 t283 t284 t285 t286 _ A20.out).mono ?_
                              rintro e w61 ⟨rfl, hb⟩
                              have HS12_ := (hb.cell (World.block_lt_of_cell? _ _ (hHeld.2.2.2.2.2.2.2.2.2.2.2.2))).trans (hHeld.2.2.2.2.2.2.2.2.2.2.2.2)
                              refine ⟨_, rfl, ?_⟩
                              have n0_ := Aside0.mk (Kd.R_below (by (with_reducible repeat (first | apply Kd.R_alloc | apply Kd.R_drewN | apply Kd.R_drew)); exact HO267.out) hb)
                              have n1_ := Aside0.mk (blk_below (g := gb263) (o := .cells #[.int .i64 t255, .int .i64 t256, .int .i64 t257, .int .i64 t258] 27 (0, 0)) (by (with_reducible repeat (first | refine blk_drewN ?_ _ | refine blk_drew ?_ | refine blk_alloc ?_ _)); exact BK263.out) hb)
                              have n2_ := Aside0.mk (blk_below (g := gb264) (o := .cells #[.int .i64 t259, .int .i64 t260, .int .i64 t261, .int .i64 t262] 27 (0, 0)) (by (with_reducible repeat (first | refine blk_drewN ?_ _ | refine blk_drew ?_ | refine blk_alloc ?_ _)); exact BK264.out) hb)
                              have n3_ := Aside0.mk (blk_below (g := gb273) (o := .cells #[.int .i64 t269, .int .i64 t270, .int .i64 t271, .int .i64 t272] 27 (0, 0)) (by (with_reducible repeat (first | refine blk_drewN ?_ _ | refine blk_drew ?_ | refine blk_alloc ?_ _)); exact BK273.out) hb)
                              have n4_ := Aside0.mk (blk_below (g := gb279) (o := .cells #[.int .i64 t275, .int .i64 t276, .int .i64 t277, .int .i64 t278] 27 (0, 0)) (by (with_reducible repeat (first | refine blk_drewN ?_ _ | refine blk_drew ?_ | refine blk_alloc ?_ _)); exact BK279.out) hb)
                              have n5_ := Aside0.mk (below_step (by repeat (first | (with_reducible first | exact HB.out | apply below_alloc | apply pw_below_drewN | apply below_drew1 | refine below_set ?_ GE263.out | refine below_set ?_ GE264.out | refine below_set ?_ GE273.out | refine below_set ?_ GE279.out) | exact HB.out)) hb)
                              clear HO267
                              clear BK263
                              clear BK264
                              clear BK273
                              clear BK279
                              clear HB
                              have HO267 := n0_
                              have BK263 := n1_
                              have BK264 := n2_
                              have BK273 := n3_
                              have BK279 := n4_
                              have HB := n5_
                              clear n0_ n1_ n2_ n3_ n4_ n5_
                              (try clear hb)
                              (try clear hb2)
                              (try clear hk)
                              (try clear hi)
                              refine hK.out _ _ ⟨(blk_cell BK263.out 0).trans rfl, (blk_cell BK263.out 1).trans rfl, (blk_cell BK263.out 2).trans rfl, (blk_cell BK263.out 3).trans rfl, (blk_cell BK273.out 0).trans rfl, (blk_cell BK273.out 1).trans rfl, (blk_cell BK273.out 2).trans rfl, (blk_cell BK273.out 3).trans rfl, (blk_cell BK279.out 0).trans rfl, (blk_cell BK279.out 1).trans rfl, (blk_cell BK279.out 2).trans rfl, (blk_cell BK279.out 3).trans rfl, HS12_⟩ (fun hHeld => ?_)
                              clear hK K
                              refine norm_ (a' := ?_) ?_ ?_
                              rotate_left
                              · show Act.put _ (some 69) _ = _
                                simp only [Act.put, List.setIfInBounds_toArray, List.set_cons_zero, List.set_cons_succ, i64_w, i32_w]
                                rfl
                              refine pure_ (i := 42) (N := some 71) (v := ?_) (a' := ?_) #[true, true, true, true, true, true, true, true, true, true, true, true, true, true, true, true, true, true, true, true, true, true, true, true, true, true, true, true, true, true, true, true, true, true, true, true, true, true, true, true, true, true, true, false, false, false, false, false, false, false, false, false, false, false, false, false, false, false, false, false, false, false, false, false, false, false, false, false, false, false, false, false, false, false, false] rfl rfl (any_of HT_.out (by kernel_rfl)) (fun _ _ _ h => h) (Or.inl ⟨by rfl, ?_⟩) ?_ ?_
                              rotate_left
                              · intro w'
                                go_simp
                                with_reducible rfl
                              rotate_left
                              · simp only [Act.put, List.setIfInBounds_toArray, List.set_cons_zero, List.set_cons_succ, i64_w, i32_w]
                                rfl
                              refine pure_ (i := 43) (N := some 72) (v := ?_) (a' := ?_) #[true, true, true, true, true, true, true, true, true, true, true, true, true, true, true, true, true, true, true, true, true, true, true, true, true, true, true, true, true, true, true, true, true, true, true, true, true, true, true, true, true, true, true, true, false, false, false, false, false, false, false, false, false, false, false, false, false, false, false, false, false, false, false, false, false, false, false, false, false, false, false, false, false, false, false] rfl rfl (any_of HT_.out (by kernel_rfl)) (fun _ _ _ h => h) (Or.inl ⟨by rfl, ?_⟩) ?_ ?_
                              rotate_left
                              · intro w'
                                go_simp
                                with_reducible rfl
                              rotate_left
                              · simp only [Act.put, List.setIfInBounds_toArray, List.set_cons_zero, List.set_cons_succ, i64_w, i32_w]
                                rfl
                              refine pure_ (i := 44) (N := some 73) (v := ?_) (a' := ?_) #[true, true, true, true, true, true, true, true, true, true, true, true, true, true, true, true, true, true, true, true, true, true, true, true, true, true, true, true, true, true, true, true, true, true, true, true, true, true, true, true, true, true, true, true, true, false, false, false, false, false, false, false, false, false, false, false, false, false, false, false, false, false, false, false, false, false, false, false, false, false, false, false, false, false, false] rfl rfl (any_of HT_.out (by kernel_rfl)) (fun _ _ _ h => h) (Or.inl ⟨by rfl, ?_⟩) ?_ ?_
                              rotate_left
                              · intro w'
                                go_simp
                                with_reducible rfl
                              rotate_left
                              · simp only [Act.put, List.setIfInBounds_toArray, List.set_cons_zero, List.set_cons_succ, i64_w, i32_w]
                                rfl
                              refine take_ (i := 45) (N := some 74) (v := ?_) (a' := ?_) #[true, true, true, true, true, true, true, true, true, true, true, true, true, true, true, true, true, true, true, true, true, true, true, true, true, true, true, true, true, true, true, true, true, true, true, true, true, true, true, true, true, true, true, true, true, true, false, false, false, false, false, false, false, false, false, false, false, false, false, false, false, false, false, false, false, false, false, false, false, false, false, false, false, false, false] rfl rfl (take_ofW HT_.out HW_.out (by kernel_rfl)) (fun _ _ _ h => h) (Or.inl ⟨by rfl, ?_⟩) hHeld ?_ ?_
                              rotate_left
                              · rintro w' ⟨s0, s1, s2, s3, s4, s5, s6, s7, s8, s9, s10, s11, s12⟩
                                go_simp
                                with_reducible rfl
                              rotate_left
                              · simp only [Act.put, List.setIfInBounds_toArray, List.set_cons_zero, List.set_cons_succ, i64_w, i32_w]
                                rfl
                              refine take_ (i := 47) (N := some 76) (v := ?_) (a' := ?_) #[true, true, true, true, true, true, true, true, true, true, true, true, true, true, true, true, true, true, true, true, true, true, true, true, true, true, true, true, true, true, true, true, true, true, true, true, true, true, true, true, true, true, true, true, true, true, false, true, false, false, false, false, false, false, false, false, false, false, false, false, false, false, false, false, false, false, false, false, false, false, false, false, false, false, false] rfl rfl (take_ofW HT_.out HW_.out (by kernel_rfl)) (fun _ _ _ h => h) (Or.inl ⟨by rfl, ?_⟩) hHeld ?_ ?_
                              rotate_left
                              · rintro w' ⟨s0, s1, s2, s3, s4, s5, s6, s7, s8, s9, s10, s11, s12⟩
                                go_simp
                                with_reducible rfl
                              rotate_left
                              · simp only [Act.put, List.setIfInBounds_toArray, List.set_cons_zero, List.set_cons_succ, i64_w, i32_w]
                                rfl
                              refine one_ (i := 46) (N := some 75) #[true, true, true, true, true, true, true, true, true, true, true, true, true, true, true, true, true, true, true, true, true, true, true, true, true, true, true, true, true, true, true, true, true, true, true, true, true, true, true, true, true, true, true, true, true, true, true, true, false, false, false, false, false, false, false, false, false, false, false, false, false, false, false, false, false, false, false, false, false, false, false, false, false, false, false] rfl rfl (one_of HT_.out (by kernel_rfl)) (by decide) (fun K hK => ?_)
                              refine goes_ Try.func42 (by kernel_rfl) rfl #[.agg #[.int .i64 t255, .int .i64 t256, .int .i64 t257, .int .i64 t258], .int .i64 4] (by rfl) rfl rfl (by (try simp only [List.map_toArray, List.map_cons, List.map_nil]); first | done | rfl | (simp only [List.length_drop, List.length_take]; rfl)) ?_
                              with_reducible refine (impl_Thin.calls t255 t256 t257 t258 4 t287 t288 t289 t290 _ A22.out).mono ?_
                              rintro e w62 ⟨rfl, hb⟩
                              have HS12_ := (hb.cell (World.block_lt_of_cell? _ _ (hHeld.2.2.2.2.2.2.2.2.2.2.2.2))).trans (hHeld.2.2.2.2.2.2.2.2.2.2.2.2)
                              refine ⟨_, rfl, ?_⟩
                              have n0_ := Aside0.mk (Kd.R_below (by (with_reducible repeat (first | apply Kd.R_alloc | apply Kd.R_drewN | apply Kd.R_drew)); exact HO267.out) hb)
                              have n1_ := Aside0.mk (blk_below (g := gb263) (o := .cells #[.int .i64 t255, .int .i64 t256, .int .i64 t257, .int .i64 t258] 27 (0, 0)) (by (with_reducible repeat (first | refine blk_drewN ?_ _ | refine blk_drew ?_ | refine blk_alloc ?_ _)); exact BK263.out) hb)
                              have n2_ := Aside0.mk (blk_below (g := gb264) (o := .cells #[.int .i64 t259, .int .i64 t260, .int .i64 t261, .int .i64 t262] 27 (0, 0)) (by (with_reducible repeat (first | refine blk_drewN ?_ _ | refine blk_drew ?_ | refine blk_alloc ?_ _)); exact BK264.out) hb)
                              have n3_ := Aside0.mk (blk_below (g := gb273) (o := .cells #[.int .i64 t269, .int .i64 t270, .int .i64 t271, .int .i64 t272] 27 (0, 0)) (by (with_reducible repeat (first | refine blk_drewN ?_ _ | refine blk_drew ?_ | refine blk_alloc ?_ _)); exact BK273.out) hb)
                              have n4_ := Aside0.mk (blk_below (g := gb279) (o := .cells #[.int .i64 t275, .int .i64 t276, .int .i64 t277, .int .i64 t278] 27 (0, 0)) (by (with_reducible repeat (first | refine blk_drewN ?_ _ | refine blk_drew ?_ | refine blk_alloc ?_ _)); exact BK279.out) hb)
                              have n5_ := Aside0.mk (below_step (by repeat (first | (with_reducible first | exact HB.out | apply below_alloc | apply pw_below_drewN | apply below_drew1 | refine below_set ?_ GE263.out | refine below_set ?_ GE264.out | refine below_set ?_ GE273.out | refine below_set ?_ GE279.out) | exact HB.out)) hb)
                              clear HO267
                              clear BK263
                              clear BK264
                              clear BK273
                              clear BK279
                              clear HB
                              have HO267 := n0_
                              have BK263 := n1_
                              have BK264 := n2_
                              have BK273 := n3_
                              have BK279 := n4_
                              have HB := n5_
                              clear n0_ n1_ n2_ n3_ n4_ n5_
                              (try clear hb)
                              (try clear hb2)
                              (try clear hk)
                              (try clear hi)
                              refine hK.out _ _ ⟨(blk_cell BK263.out 0).trans rfl, (blk_cell BK263.out 1).trans rfl, (blk_cell BK263.out 2).trans rfl, (blk_cell BK263.out 3).trans rfl, (blk_cell BK273.out 0).trans rfl, (blk_cell BK273.out 1).trans rfl, (blk_cell BK273.out 2).trans rfl, (blk_cell BK273.out 3).trans rfl, (blk_cell BK279.out 0).trans rfl, (blk_cell BK279.out 1).trans rfl, (blk_cell BK279.out 2).trans rfl, (blk_cell BK279.out 3).trans rfl, HS12_⟩ (fun hHeld => ?_)
                              clear hK K
                              refine norm_ (a' := ?_) ?_ ?_
                              rotate_left
                              · show Act.put _ (some 75) _ = _
                                simp only [Act.put, List.setIfInBounds_toArray, List.set_cons_zero, List.set_cons_succ, i64_w, i32_w]
                                rfl
                              refine pure_ (i := 48) (N := some 77) (v := ?_) (a' := ?_) #[true, true, true, true, true, true, true, true, true, true, true, true, true, true, true, true, true, true, true, true, true, true, true, true, true, true, true, true, true, true, true, true, true, true, true, true, true, true, true, true, true, true, true, true, true, true, true, true, true, false, false, false, false, false, false, false, false, false, false, false, false, false, false, false, false, false, false, false, false, false, false, false, false, false, false] rfl rfl (any_of HT_.out (by kernel_rfl)) (fun _ _ _ h => h) (Or.inl ⟨by rfl, ?_⟩) ?_ ?_
                              rotate_left
                              · intro w'
                                go_simp
                                with_reducible rfl
                              rotate_left
                              · simp only [Act.put, List.setIfInBounds_toArray, List.set_cons_zero, List.set_cons_succ, i64_w, i32_w]
                                rfl
                              refine pure_ (i := 49) (N := some 78) (v := ?_) (a' := ?_) #[true, true, true, true, true, true, true, true, true, true, true, true, true, true, true, true, true, true, true, true, true, true, true, true, true, true, true, true, true, true, true, true, true, true, true, true, true, true, true, true, true, true, true, true, true, true, true, true, true, true, false, false, false, false, false, false, false, false, false, false, false, false, false, false, false, false, false, false, false, false, false, false, false, false, false] rfl rfl (any_of HT_.out (by kernel_rfl)) (fun _ _ _ h => h) (Or.inl ⟨by rfl, ?_⟩) ?_ ?_
                              rotate_left
                              · intro w'
                                go_simp
                                with_reducible rfl
                              rotate_left
                              · simp only [Act.put, List.setIfInBounds_toArray, List.set_cons_zero, List.set_cons_succ, i64_w, i32_w]
                                rfl
                              refine pure_ (i := 50) (N := some 79) (v := ?_) (a' := ?_) #[true, true, true, true, true, true, true, true, true, true, true, true, true, true, true, true, true, true, true, true, true, true, true, true, true, true, true, true, true, true, true, true, true, true, true, true, true, true, true, true, true, true, true, true, true, true, true, true, true, true, true, false, false, false, false, false, false, false, false, false, false, false, false, false, false, false, false, false, false, false, false, false, false, false, false] rfl rfl (any_of HT_.out (by kernel_rfl)) (fun _ _ _ h => h) (Or.inl ⟨by rfl, ?_⟩) ?_ ?_
                              rotate_left
                              · intro w'
                                go_simp
                                with_reducible rfl
                              rotate_left
                              · simp only [Act.put, List.setIfInBounds_toArray, List.set_cons_zero, List.set_cons_succ, i64_w, i32_w]
                                rfl
                              refine take_ (i := 51) (N := some 80) (v := ?_) (a' := ?_) #[true, true, true, true, true, true, true, true, true, true, true, true, true, true, true, true, true, true, true, true, true, true, true, true, true, true, true, true, true, true, true, true, true, true, true, true, true, true, true, true, true, true, true, true, true, true, true, true, true, true, true, true, false, false, false, false, false, false, false, false, false, false, false, false, false, false, false, false, false, false, false, false, false, false, false] rfl rfl (take_ofW HT_.out HW_.out (by kernel_rfl)) (fun _ _ _ h => h) (Or.inl ⟨by rfl, ?_⟩) hHeld ?_ ?_
                              rotate_left
                              · rintro w' ⟨s0, s1, s2, s3, s4, s5, s6, s7, s8, s9, s10, s11, s12⟩
                                go_simp
                                with_reducible rfl
                              rotate_left
                              · simp only [Act.put, List.setIfInBounds_toArray, List.set_cons_zero, List.set_cons_succ, i64_w, i32_w]
                                rfl
                              refine take_ (i := 53) (N := some 82) (v := ?_) (a' := ?_) #[true, true, true, true, true, true, true, true, true, true, true, true, true, true, true, true, true, true, true, true, true, true, true, true, true, true, true, true, true, true, true, true, true, true, true, true, true, true, true, true, true, true, true, true, true, true, true, true, true, true, true, true, false, true, false, false, false, false, false, false, false, false, false, false, false, false, false, false, false, false, false, false, false, false, false] rfl rfl (take_ofW HT_.out HW_.out (by kernel_rfl)) (fun _ _ _ h => h) (Or.inl ⟨by rfl, ?_⟩) hHeld ?_ ?_
                              rotate_left
                              · rintro w' ⟨s0, s1, s2, s3, s4, s5, s6, s7, s8, s9, s10, s11, s12⟩
                                go_simp
                                with_reducible rfl
                              rotate_left
                              · simp only [Act.put, List.setIfInBounds_toArray, List.set_cons_zero, List.set_cons_succ, i64_w, i32_w]
                                rfl
                              refine one_ (i := 52) (N := some 81) #[true, true, true, true, true, true, true, true, true, true, true, true, true, true, true, true, true, true, true, true, true, true, true, true, true, true, true, true, true, true, true, true, true, true, true, true, true, true, true, true, true, true, true, true, true, true, true, true, true, true, true, true, true, true, false, false, false, false, false, false, false, false, false, false, false, false, false, false, false, false, false, false, false, false, false] rfl rfl (one_of HT_.out (by kernel_rfl)) (by decide) (fun K hK => ?_)
                              refine goes_ Try.func41 (by kernel_rfl) rfl #[.agg #[.int .i64 t255, .int .i64 t256, .int .i64 t257, .int .i64 t258], .int .i64 0] (by rfl) rfl rfl (by (try simp only [List.map_toArray, List.map_cons, List.map_nil]); first | done | rfl | (simp only [List.length_drop, List.length_take]; rfl)) ?_
                              with_reducible refine (impl_Fade.calls t255 t256 t257 t258 0 t291 t292 t293 t294 _ A24.out).mono ?_
                              rintro e w63 ⟨rfl, hb⟩
                              have HS12_ := (hb.cell (World.block_lt_of_cell? _ _ (hHeld.2.2.2.2.2.2.2.2.2.2.2.2))).trans (hHeld.2.2.2.2.2.2.2.2.2.2.2.2)
                              refine ⟨_, rfl, ?_⟩
                              have n0_ := Aside0.mk (Kd.R_below (by (with_reducible repeat (first | apply Kd.R_alloc | apply Kd.R_drewN | apply Kd.R_drew)); exact HO267.out) hb)
                              have n1_ := Aside0.mk (blk_below (g := gb263) (o := .cells #[.int .i64 t255, .int .i64 t256, .int .i64 t257, .int .i64 t258] 27 (0, 0)) (by (with_reducible repeat (first | refine blk_drewN ?_ _ | refine blk_drew ?_ | refine blk_alloc ?_ _)); exact BK263.out) hb)
                              have n2_ := Aside0.mk (blk_below (g := gb264) (o := .cells #[.int .i64 t259, .int .i64 t260, .int .i64 t261, .int .i64 t262] 27 (0, 0)) (by (with_reducible repeat (first | refine blk_drewN ?_ _ | refine blk_drew ?_ | refine blk_alloc ?_ _)); exact BK264.out) hb)
                              have n3_ := Aside0.mk (blk_below (g := gb273) (o := .cells #[.int .i64 t269, .int .i64 t270, .int .i64 t271, .int .i64 t272] 27 (0, 0)) (by (with_reducible repeat (first | refine blk_drewN ?_ _ | refine blk_drew ?_ | refine blk_alloc ?_ _)); exact BK273.out) hb)
                              have n4_ := Aside0.mk (blk_below (g := gb279) (o := .cells #[.int .i64 t275, .int .i64 t276, .int .i64 t277, .int .i64 t278] 27 (0, 0)) (by (with_reducible repeat (first | refine blk_drewN ?_ _ | refine blk_drew ?_ | refine blk_alloc ?_ _)); exact BK279.out) hb)
                              have n5_ := Aside0.mk (below_step (by repeat (first | (with_reducible first | exact HB.out | apply below_alloc | apply pw_below_drewN | apply below_drew1 | refine below_set ?_ GE263.out | refine below_set ?_ GE264.out | refine below_set ?_ GE273.out | refine below_set ?_ GE279.out) | exact HB.out)) hb)
                              clear HO267
                              clear BK263
                              clear BK264
                              clear BK273
                              clear BK279
                              clear HB
                              have HO267 := n0_
                              have BK263 := n1_
                              have BK264 := n2_
                              have BK273 := n3_
                              have BK279 := n4_
                              have HB := n5_
                              clear n0_ n1_ n2_ n3_ n4_ n5_
                              (try clear hb)
                              (try clear hb2)
                              (try clear hk)
                              (try clear hi)
                              refine hK.out _ _ ⟨(blk_cell BK263.out 0).trans rfl, (blk_cell BK263.out 1).trans rfl, (blk_cell BK263.out 2).trans rfl, (blk_cell BK263.out 3).trans rfl, (blk_cell BK273.out 0).trans rfl, (blk_cell BK273.out 1).trans rfl, (blk_cell BK273.out 2).trans rfl, (blk_cell BK273.out 3).trans rfl, (blk_cell BK279.out 0).trans rfl, (blk_cell BK279.out 1).trans rfl, (blk_cell BK279.out 2).trans rfl, (blk_cell BK279.out 3).trans rfl, HS12_⟩ (fun hHeld => ?_)
                              clear hK K
                              refine norm_ (a' := ?_) ?_ ?_
                              rotate_left
                              · show Act.put _ (some 81) _ = _
                                simp only [Act.put, List.setIfInBounds_toArray, List.set_cons_zero, List.set_cons_succ, i64_w, i32_w]
                                rfl
                              refine one_ (i := 54) (N := some 83) #[true, true, true, true, true, true, true, true, true, true, true, true, true, true, true, true, true, true, true, true, true, true, true, true, true, true, true, true, true, true, true, true, true, true, true, true, true, true, true, true, true, true, true, true, true, true, true, true, true, true, true, true, true, true, true, false, false, false, false, false, false, false, false, false, false, false, false, false, false, false, false, false, false, false, false] rfl rfl (one_of HT_.out (by kernel_rfl)) (by decide) (fun K hK => ?_)
                              refine goes_ Try.func42 (by kernel_rfl) rfl #[.agg #[.int .i64 t255, .int .i64 t256, .int .i64 t257, .int .i64 t258], .int .i64 0] (by rfl) rfl rfl (by (try simp only [List.map_toArray, List.map_cons, List.map_nil]); first | done | rfl | (simp only [List.length_drop, List.length_take]; rfl)) ?_
                              with_reducible refine (impl_Thin.calls t255 t256 t257 t258 0 t295 t296 t297 t298 _ A25.out).mono ?_
                              rintro e w64 ⟨rfl, hb⟩
                              have HS12_ := (hb.cell (World.block_lt_of_cell? _ _ (hHeld.2.2.2.2.2.2.2.2.2.2.2.2))).trans (hHeld.2.2.2.2.2.2.2.2.2.2.2.2)
                              refine ⟨_, rfl, ?_⟩
                              have n0_ := Aside0.mk (Kd.R_below (by (with_reducible repeat (first | apply Kd.R_alloc | apply Kd.R_drewN | apply Kd.R_drew)); exact HO267.out) hb)
                              have n1_ := Aside0.mk (blk_below (g := gb263) (o := .cells #[.int .i64 t255, .int .i64 t256, .int .i64 t257, .int .i64 t258] 27 (0, 0)) (by (with_reducible repeat (first | refine blk_drewN ?_ _ | refine blk_drew ?_ | refine blk_alloc ?_ _)); exact BK263.out) hb)
                              have n2_ := Aside0.mk (blk_below (g := gb264) (o := .cells #[.int .i64 t259, .int .i64 t260, .int .i64 t261, .int .i64 t262] 27 (0, 0)) (by (with_reducible repeat (first | refine blk_drewN ?_ _ | refine blk_drew ?_ | refine blk_alloc ?_ _)); exact BK264.out) hb)
                              have n3_ := Aside0.mk (blk_below (g := gb273) (o := .cells #[.int .i64 t269, .int .i64 t270, .int .i64 t271, .int .i64 t272] 27 (0, 0)) (by (with_reducible repeat (first | refine blk_drewN ?_ _ | refine blk_drew ?_ | refine blk_alloc ?_ _)); exact BK273.out) hb)
                              have n4_ := Aside0.mk (blk_below (g := gb279) (o := .cells #[.int .i64 t275, .int .i64 t276, .int .i64 t277, .int .i64 t278] 27 (0, 0)) (by (with_reducible repeat (first | refine blk_drewN ?_ _ | refine blk_drew ?_ | refine blk_alloc ?_ _)); exact BK279.out) hb)
                              have n5_ := Aside0.mk (below_step (by repeat (first | (with_reducible first | exact HB.out | apply below_alloc | apply pw_below_drewN | apply below_drew1 | refine below_set ?_ GE263.out | refine below_set ?_ GE264.out | refine below_set ?_ GE273.out | refine below_set ?_ GE279.out) | exact HB.out)) hb)
                              clear HO267
                              clear BK263
                              clear BK264
                              clear BK273
                              clear BK279
                              clear HB
                              have HO267 := n0_
                              have BK263 := n1_
                              have BK264 := n2_
                              have BK273 := n3_
                              have BK279 := n4_
                              have HB := n5_
                              clear n0_ n1_ n2_ n3_ n4_ n5_
                              (try clear hb)
                              (try clear hb2)
                              (try clear hk)
                              (try clear hi)
                              refine hK.out _ _ ⟨(blk_cell BK263.out 0).trans rfl, (blk_cell BK263.out 1).trans rfl, (blk_cell BK263.out 2).trans rfl, (blk_cell BK263.out 3).trans rfl, (blk_cell BK273.out 0).trans rfl, (blk_cell BK273.out 1).trans rfl, (blk_cell BK273.out 2).trans rfl, (blk_cell BK273.out 3).trans rfl, (blk_cell BK279.out 0).trans rfl, (blk_cell BK279.out 1).trans rfl, (blk_cell BK279.out 2).trans rfl, (blk_cell BK279.out 3).trans rfl, HS12_⟩ (fun hHeld => ?_)
                              clear hK K
                              refine norm_ (a' := ?_) ?_ ?_
                              rotate_left
                              · show Act.put _ (some 83) _ = _
                                simp only [Act.put, List.setIfInBounds_toArray, List.set_cons_zero, List.set_cons_succ, i64_w, i32_w]
                                rfl
                              refine pure_ (i := 55) (N := some 84) (v := ?_) (a' := ?_) #[true, true, true, true, true, true, true, true, true, true, true, true, true, true, true, true, true, true, true, true, true, true, true, true, true, true, true, true, true, true, true, true, true, true, true, true, true, true, true, true, true, true, true, true, true, true, true, true, true, true, true, true, true, true, true, true, false, false, false, false, false, false, false, false, false, false, false, false, false, false, false, false, false, false, false] rfl rfl (any_of HT_.out (by kernel_rfl)) (fun _ _ _ h => h) (Or.inl ⟨by rfl, ?_⟩) ?_ ?_
                              rotate_left
                              · intro w'
                                go_simp
                                with_reducible rfl
                              rotate_left
                              · simp only [Act.put, List.setIfInBounds_toArray, List.set_cons_zero, List.set_cons_succ, i64_w, i32_w]
                                rfl
                              refine pure_ (i := 56) (N := some 85) (v := ?_) (a' := ?_) #[true, true, true, true, true, true, true, true, true, true, true, true, true, true, true, true, true, true, true, true, true, true, true, true, true, true, true, true, true, true, true, true, true, true, true, true, true, true, true, true, true, true, true, true, true, true, true, true, true, true, true, true, true, true, true, true, true, false, false, false, false, false, false, false, false, false, false, false, false, false, false, false, false, false, false] rfl rfl (any_of HT_.out (by kernel_rfl)) (fun _ _ _ h => h) (Or.inl ⟨by rfl, ?_⟩) ?_ ?_
                              rotate_left
                              · intro w'
                                go_simp
                                with_reducible rfl
                              rotate_left
                              · simp only [Act.put, List.setIfInBounds_toArray, List.set_cons_zero, List.set_cons_succ, i64_w, i32_w]
                                rfl
                              refine pure_ (i := 57) (N := some 86) (v := ?_) (a' := ?_) #[true, true, true, true, true, true, true, true, true, true, true, true, true, true, true, true, true, true, true, true, true, true, true, true, true, true, true, true, true, true, true, true, true, true, true, true, true, true, true, true, true, true, true, true, true, true, true, true, true, true, true, true, true, true, true, true, true, true, false, false, false, false, false, false, false, false, false, false, false, false, false, false, false, false, false] rfl rfl (any_of HT_.out (by kernel_rfl)) (fun _ _ _ h => h) (Or.inl ⟨by rfl, ?_⟩) ?_ ?_
                              rotate_left
                              · intro w'
                                go_simp
                                with_reducible rfl
                              rotate_left
                              · simp only [Act.put, List.setIfInBounds_toArray, List.set_cons_zero, List.set_cons_succ, i64_w, i32_w]
                                rfl
                              refine take_ (i := 58) (N := some 87) (v := ?_) (a' := ?_) #[true, true, true, true, true, true, true, true, true, true, true, true, true, true, true, true, true, true, true, true, true, true, true, true, true, true, true, true, true, true, true, true, true, true, true, true, true, true, true, true, true, true, true, true, true, true, true, true, true, true, true, true, true, true, true, true, true, true, true, false, false, false, false, false, false, false, false, false, false, false, false, false, false, false, false] rfl rfl (take_ofW HT_.out HW_.out (by kernel_rfl)) (fun _ _ _ h => h) (Or.inl ⟨by rfl, ?_⟩) hHeld ?_ ?_
                              rotate_left
                              · rintro w' ⟨s0, s1, s2, s3, s4, s5, s6, s7, s8, s9, s10, s11, s12⟩
                                go_simp
                                with_reducible rfl
                              rotate_left
                              · simp only [Act.put, List.setIfInBounds_toArray, List.set_cons_zero, List.set_cons_succ, i64_w, i32_w]
                                rfl
                              refine take_ (i := 60) (N := some 89) (v := ?_) (a' := ?_) #[true, true, true, true, true, true, true, true, true, true, true, true, true, true, true, true, true, true, true, true, true, true, true, true, true, true, true, true, true, true, true, true, true, true, true, true, true, true, true, true, true, true, true, true, true, true, true, true, true, true, true, true, true, true, true, true, true, true, true, false, true, false, false, false, false, false, false, false, false, false, false, false, false, false, false] rfl rfl (take_ofW HT_.out HW_.out (by kernel_rfl)) (fun _ _ _ h => h) (Or.inl ⟨by rfl, ?_⟩) hHeld ?_ ?_
                              rotate_left
                              · rintro w' ⟨s0, s1, s2, s3, s4, s5, s6, s7, s8, s9, s10, s11, s12⟩
                                go_simp
                                with_reducible rfl
                              rotate_left
                              · simp only [Act.put, List.setIfInBounds_toArray, List.set_cons_zero, List.set_cons_succ, i64_w, i32_w]
                                rfl
                              refine one_ (i := 59) (N := some 88) #[true, true, true, true, true, true, true, true, true, true, true, true, true, true, true, true, true, true, true, true, true, true, true, true, true, true, true, true, true, true, true, true, true, true, true, true, true, true, true, true, true, true, true, true, true, true, true, true, true, true, true, true, true, true, true, true, true, true, true, true, true, false, false, false, false, false, false, false, false, false, false, false, false, false, false] rfl rfl (one_of HT_.out (by kernel_rfl)) (by decide) (fun K hK => ?_)
                              refine goes_ Try.func41 (by kernel_rfl) rfl #[.agg #[.int .i64 t255, .int .i64 t256, .int .i64 t257, .int .i64 t258], .int .i64 256] (by rfl) rfl rfl (by (try simp only [List.map_toArray, List.map_cons, List.map_nil]); first | done | rfl | (simp only [List.length_drop, List.length_take]; rfl)) ?_
                              with_reducible refine (impl_Fade.calls t255 t256 t257 t258 256 t299 t300 t301 t302 _ A27.out).mono ?_
                              rintro e w65 ⟨rfl, hb⟩
                              have HS12_ := (hb.cell (World.block_lt_of_cell? _ _ (hHeld.2.2.2.2.2.2.2.2.2.2.2.2))).trans (hHeld.2.2.2.2.2.2.2.2.2.2.2.2)
                              refine ⟨_, rfl, ?_⟩
                              have n0_ := Aside0.mk (Kd.R_below (by (with_reducible repeat (first | apply Kd.R_alloc | apply Kd.R_drewN | apply Kd.R_drew)); exact HO267.out) hb)
                              have n1_ := Aside0.mk (blk_below (g := gb263) (o := .cells #[.int .i64 t255, .int .i64 t256, .int .i64 t257, .int .i64 t258] 27 (0, 0)) (by (with_reducible repeat (first | refine blk_drewN ?_ _ | refine blk_drew ?_ | refine blk_alloc ?_ _)); exact BK263.out) hb)
                              have n2_ := Aside0.mk (blk_below (g := gb264) (o := .cells #[.int .i64 t259, .int .i64 t260, .int .i64 t261, .int .i64 t262] 27 (0, 0)) (by (with_reducible repeat (first | refine blk_drewN ?_ _ | refine blk_drew ?_ | refine blk_alloc ?_ _)); exact BK264.out) hb)
                              have n3_ := Aside0.mk (blk_below (g := gb273) (o := .cells #[.int .i64 t269, .int .i64 t270, .int .i64 t271, .int .i64 t272] 27 (0, 0)) (by (with_reducible repeat (first | refine blk_drewN ?_ _ | refine blk_drew ?_ | refine blk_alloc ?_ _)); exact BK273.out) hb)
                              have n4_ := Aside0.mk (blk_below (g := gb279) (o := .cells #[.int .i64 t275, .int .i64 t276, .int .i64 t277, .int .i64 t278] 27 (0, 0)) (by (with_reducible repeat (first | refine blk_drewN ?_ _ | refine blk_drew ?_ | refine blk_alloc ?_ _)); exact BK279.out) hb)
                              have n5_ := Aside0.mk (below_step (by repeat (first | (with_reducible first | exact HB.out | apply below_alloc | apply pw_below_drewN | apply below_drew1 | refine below_set ?_ GE263.out | refine below_set ?_ GE264.out | refine below_set ?_ GE273.out | refine below_set ?_ GE279.out) | exact HB.out)) hb)
                              clear HO267
                              clear BK263
                              clear BK264
                              clear BK273
                              clear BK279
                              clear HB
                              have HO267 := n0_
                              have BK263 := n1_
                              have BK264 := n2_
                              have BK273 := n3_
                              have BK279 := n4_
                              have HB := n5_
                              clear n0_ n1_ n2_ n3_ n4_ n5_
                              (try clear hb)
                              (try clear hb2)
                              (try clear hk)
                              (try clear hi)
                              refine hK.out _ _ ⟨(blk_cell BK263.out 0).trans rfl, (blk_cell BK263.out 1).trans rfl, (blk_cell BK263.out 2).trans rfl, (blk_cell BK263.out 3).trans rfl, (blk_cell BK273.out 0).trans rfl, (blk_cell BK273.out 1).trans rfl, (blk_cell BK273.out 2).trans rfl, (blk_cell BK273.out 3).trans rfl, (blk_cell BK279.out 0).trans rfl, (blk_cell BK279.out 1).trans rfl, (blk_cell BK279.out 2).trans rfl, (blk_cell BK279.out 3).trans rfl, HS12_⟩ (fun hHeld => ?_)
                              clear hK K
                              refine norm_ (a' := ?_) ?_ ?_
                              rotate_left
                              · show Act.put _ (some 88) _ = _
                                simp only [Act.put, List.setIfInBounds_toArray, List.set_cons_zero, List.set_cons_succ, i64_w, i32_w]
                                rfl
                              refine one_ (i := 61) (N := some 90) #[true, true, true, true, true, true, true, true, true, true, true, true, true, true, true, true, true, true, true, true, true, true, true, true, true, true, true, true, true, true, true, true, true, true, true, true, true, true, true, true, true, true, true, true, true, true, true, true, true, true, true, true, true, true, true, true, true, true, true, true, true, true, false, false, false, false, false, false, false, false, false, false, false, false, false] rfl rfl (one_of HT_.out (by kernel_rfl)) (by decide) (fun K hK => ?_)
                              refine goes_ Try.func42 (by kernel_rfl) rfl #[.agg #[.int .i64 t255, .int .i64 t256, .int .i64 t257, .int .i64 t258], .int .i64 5] (by rfl) rfl rfl (by (try simp only [List.map_toArray, List.map_cons, List.map_nil]); first | done | rfl | (simp only [List.length_drop, List.length_take]; rfl)) ?_
                              with_reducible refine (impl_Thin.calls t255 t256 t257 t258 5 t303 t304 t305 t306 _ A28.out).mono ?_
                              rintro e w66 ⟨rfl, hb⟩
                              have HS12_ := (hb.cell (World.block_lt_of_cell? _ _ (hHeld.2.2.2.2.2.2.2.2.2.2.2.2))).trans (hHeld.2.2.2.2.2.2.2.2.2.2.2.2)
                              refine ⟨_, rfl, ?_⟩
                              have n0_ := Aside0.mk (Kd.R_below (by (with_reducible repeat (first | apply Kd.R_alloc | apply Kd.R_drewN | apply Kd.R_drew)); exact HO267.out) hb)
                              have n1_ := Aside0.mk (blk_below (g := gb263) (o := .cells #[.int .i64 t255, .int .i64 t256, .int .i64 t257, .int .i64 t258] 27 (0, 0)) (by (with_reducible repeat (first | refine blk_drewN ?_ _ | refine blk_drew ?_ | refine blk_alloc ?_ _)); exact BK263.out) hb)
                              have n2_ := Aside0.mk (blk_below (g := gb264) (o := .cells #[.int .i64 t259, .int .i64 t260, .int .i64 t261, .int .i64 t262] 27 (0, 0)) (by (with_reducible repeat (first | refine blk_drewN ?_ _ | refine blk_drew ?_ | refine blk_alloc ?_ _)); exact BK264.out) hb)
                              have n3_ := Aside0.mk (blk_below (g := gb273) (o := .cells #[.int .i64 t269, .int .i64 t270, .int .i64 t271, .int .i64 t272] 27 (0, 0)) (by (with_reducible repeat (first | refine blk_drewN ?_ _ | refine blk_drew ?_ | refine blk_alloc ?_ _)); exact BK273.out) hb)
                              have n4_ := Aside0.mk (blk_below (g := gb279) (o := .cells #[.int .i64 t275, .int .i64 t276, .int .i64 t277, .int .i64 t278] 27 (0, 0)) (by (with_reducible repeat (first | refine blk_drewN ?_ _ | refine blk_drew ?_ | refine blk_alloc ?_ _)); exact BK279.out) hb)
                              have n5_ := Aside0.mk (below_step (by repeat (first | (with_reducible first | exact HB.out | apply below_alloc | apply pw_below_drewN | apply below_drew1 | refine below_set ?_ GE263.out | refine below_set ?_ GE264.out | refine below_set ?_ GE273.out | refine below_set ?_ GE279.out) | exact HB.out)) hb)
                              clear HO267
                              clear BK263
                              clear BK264
                              clear BK273
                              clear BK279
                              clear HB
                              have HO267 := n0_
                              have BK263 := n1_
                              have BK264 := n2_
                              have BK273 := n3_
                              have BK279 := n4_
                              have HB := n5_
                              clear n0_ n1_ n2_ n3_ n4_ n5_
                              (try clear hb)
                              (try clear hb2)
                              (try clear hk)
                              (try clear hi)
                              refine hK.out _ _ ⟨(blk_cell BK263.out 0).trans rfl, (blk_cell BK263.out 1).trans rfl, (blk_cell BK263.out 2).trans rfl, (blk_cell BK263.out 3).trans rfl, (blk_cell BK273.out 0).trans rfl, (blk_cell BK273.out 1).trans rfl, (blk_cell BK273.out 2).trans rfl, (blk_cell BK273.out 3).trans rfl, (blk_cell BK279.out 0).trans rfl, (blk_cell BK279.out 1).trans rfl, (blk_cell BK279.out 2).trans rfl, (blk_cell BK279.out 3).trans rfl, HS12_⟩ (fun hHeld => ?_)
                              clear hK K
                              refine norm_ (a' := ?_) ?_ ?_
                              rotate_left
                              · show Act.put _ (some 90) _ = _
                                simp only [Act.put, List.setIfInBounds_toArray, List.set_cons_zero, List.set_cons_succ, i64_w, i32_w]
                                rfl
                              refine pure_ (i := 62) (N := some 91) (v := ?_) (a' := ?_) #[true, true, true, true, true, true, true, true, true, true, true, true, true, true, true, true, true, true, true, true, true, true, true, true, true, true, true, true, true, true, true, true, true, true, true, true, true, true, true, true, true, true, true, true, true, true, true, true, true, true, true, true, true, true, true, true, true, true, true, true, true, true, true, false, false, false, false, false, false, false, false, false, false, false, false] rfl rfl (any_of HT_.out (by kernel_rfl)) (fun _ _ _ h => h) (Or.inl ⟨by rfl, ?_⟩) ?_ ?_
                              rotate_left
                              · intro w'
                                go_simp
                                with_reducible rfl
                              rotate_left
                              · simp only [Act.put, List.setIfInBounds_toArray, List.set_cons_zero, List.set_cons_succ, i64_w, i32_w]
                                rfl
                              refine pure_ (i := 63) (N := some 92) (v := ?_) (a' := ?_) #[true, true, true, true, true, true, true, true, true, true, true, true, true, true, true, true, true, true, true, true, true, true, true, true, true, true, true, true, true, true, true, true, true, true, true, true, true, true, true, true, true, true, true, true, true, true, true, true, true, true, true, true, true, true, true, true, true, true, true, true, true, true, true, true, false, false, false, false, false, false, false, false, false, false, false] rfl rfl (any_of HT_.out (by kernel_rfl)) (fun _ _ _ h => h) (Or.inl ⟨by rfl, ?_⟩) ?_ ?_
                              rotate_left
                              · intro w'
                                go_simp
                                with_reducible rfl
                              rotate_left
                              · simp only [Act.put, List.setIfInBounds_toArray, List.set_cons_zero, List.set_cons_succ, i64_w, i32_w]
                                rfl
                              refine pure_ (i := 64) (N := some 93) (v := ?_) (a' := ?_) #[true, true, true, true, true, true, true, true, true, true, true, true, true, true, true, true, true, true, true, true, true, true, true, true, true, true, true, true, true, true, true, true, true, true, true, true, true, true, true, true, true, true, true, true, true, true, true, true, true, true, true, true, true, true, true, true, true, true, true, true, true, true, true, true, true, false, false, false, false, false, false, false, false, false, false] rfl rfl (any_of HT_.out (by kernel_rfl)) (fun _ _ _ h => h) (Or.inl ⟨by rfl, ?_⟩) ?_ ?_
                              rotate_left
                              · intro w'
                                go_simp
                                with_reducible rfl
                              rotate_left
                              · simp only [Act.put, List.setIfInBounds_toArray, List.set_cons_zero, List.set_cons_succ, i64_w, i32_w]
                                rfl
                              refine pure_ (i := 67) (N := some 96) (v := ?_) (a' := ?_) #[true, true, true, true, true, true, true, true, true, true, true, true, true, true, true, true, true, true, true, true, true, true, true, true, true, true, true, true, true, true, true, true, true, true, true, true, true, true, true, true, true, true, true, true, true, true, true, true, true, true, true, true, true, true, true, true, true, true, true, true, true, true, true, true, true, false, false, true, false, false, false, false, false, false, false] rfl rfl (any_of HT_.out (by kernel_rfl)) (fun _ _ _ h => h) (Or.inl ⟨by rfl, ?_⟩) ?_ ?_
                              rotate_left
                              · intro w'
                                go_simp
                                with_reducible rfl
                              rotate_left
                              · simp only [Act.put, List.setIfInBounds_toArray, List.set_cons_zero, List.set_cons_succ, i64_w, i32_w]
                                rfl
                              refine pure_ (i := 68) (N := some 97) (v := ?_) (a' := ?_) #[true, true, true, true, true, true, true, true, true, true, true, true, true, true, true, true, true, true, true, true, true, true, true, true, true, true, true, true, true, true, true, true, true, true, true, true, true, true, true, true, true, true, true, true, true, true, true, true, true, true, true, true, true, true, true, true, true, true, true, true, true, true, true, true, true, false, false, true, true, false, false, false, false, false, false] rfl rfl (any_of HT_.out (by kernel_rfl)) (fun _ _ _ h => h) (Or.inl ⟨by rfl, ?_⟩) ?_ ?_
                              rotate_left
                              · intro w'
                                go_simp
                                with_reducible rfl
                              rotate_left
                              · simp only [Act.put, List.setIfInBounds_toArray, List.set_cons_zero, List.set_cons_succ, i64_w, i32_w]
                                rfl
                              refine take_ (i := 65) (N := some 94) (v := ?_) (a' := ?_) #[true, true, true, true, true, true, true, true, true, true, true, true, true, true, true, true, true, true, true, true, true, true, true, true, true, true, true, true, true, true, true, true, true, true, true, true, true, true, true, true, true, true, true, true, true, true, true, true, true, true, true, true, true, true, true, true, true, true, true, true, true, true, true, true, true, true, false, true, true, false, false, false, false, false, false] rfl rfl (take_ofW HT_.out HW_.out (by kernel_rfl)) (fun _ _ _ h => h) (Or.inl ⟨by rfl, ?_⟩) hHeld ?_ ?_
                              rotate_left
                              · rintro w' ⟨s0, s1, s2, s3, s4, s5, s6, s7, s8, s9, s10, s11, s12⟩
                                go_simp
                                with_reducible rfl
                              rotate_left
                              · simp only [Act.put, List.setIfInBounds_toArray, List.set_cons_zero, List.set_cons_succ, i64_w, i32_w]
                                rfl
                              refine take_ (i := 66) (N := some 95) (v := ?_) (a' := ?_) #[true, true, true, true, true, true, true, true, true, true, true, true, true, true, true, true, true, true, true, true, true, true, true, true, true, true, true, true, true, true, true, true, true, true, true, true, true, true, true, true, true, true, true, true, true, true, true, true, true, true, true, true, true, true, true, true, true, true, true, true, true, true, true, true, true, true, true, true, true, false, false, false, false, false, false] rfl rfl (take_ofW HT_.out HW_.out (by kernel_rfl)) (fun _ _ _ h => h) (Or.inl ⟨by rfl, ?_⟩) hHeld ?_ ?_
                              rotate_left
                              · rintro w' ⟨s0, s1, s2, s3, s4, s5, s6, s7, s8, s9, s10, s11, s12⟩
                                go_simp
                                with_reducible rfl
                              rotate_left
                              · simp only [Act.put, List.setIfInBounds_toArray, List.set_cons_zero, List.set_cons_succ, i64_w, i32_w]
                                rfl
                              refine take_ (i := 69) (N := some 98) (v := ?_) (a' := ?_) #[true, true, true, true, true, true, true, true, true, true, true, true, true, true, true, true, true, true, true, true, true, true, true, true, true, true, true, true, true, true, true, true, true, true, true, true, true, true, true, true, true, true, true, true, true, true, true, true, true, true, true, true, true, true, true, true, true, true, true, true, true, true, true, true, true, true, true, true, true, true, false, false, false, false, false] rfl rfl (take_ofW HT_.out HW_.out (by kernel_rfl)) (fun _ _ _ h => h) (Or.inl ⟨by rfl, ?_⟩) hHeld ?_ ?_
                              rotate_left
                              · rintro w' ⟨s0, s1, s2, s3, s4, s5, s6, s7, s8, s9, s10, s11, s12⟩
                                go_simp
                                with_reducible rfl
                              rotate_left
                              · simp only [Act.put, List.setIfInBounds_toArray, List.set_cons_zero, List.set_cons_succ, i64_w, i32_w]
                                rfl
                              refine pure_ (i := 70) (N := some 99) (v := ?_) (a' := ?_) #[true, true, true, true, true, true, true, true, true, true, true, true, true, true, true, true, true, true, true, true, true, true, true, true, true, true, true, true, true, true, true, true, true, true, true, true, true, true, true, true, true, true, true, true, true, true, true, true, true, true, true, true, true, true, true, true, true, true, true, true, true, true, true, true, true, true, true, true, true, true, true, false, false, false, false] rfl rfl (any_of HT_.out (by kernel_rfl)) (fun _ _ _ h => h) (Or.inl ⟨by rfl, ?_⟩) ?_ ?_
                              rotate_left
                              · intro w'
                                go_simp
                                with_reducible rfl
                              rotate_left
                              · simp only [Act.put, List.setIfInBounds_toArray, List.set_cons_zero, List.set_cons_succ, i64_w, i32_w]
                                rfl
                              refine one_ (i := 71) (N := some 100) #[true, true, true, true, true, true, true, true, true, true, true, true, true, true, true, true, true, true, true, true, true, true, true, true, true, true, true, true, true, true, true, true, true, true, true, true, true, true, true, true, true, true, true, true, true, true, true, true, true, true, true, true, true, true, true, true, true, true, true, true, true, true, true, true, true, true, true, true, true, true, true, true, false, false, false] rfl rfl (one_of HT_.out (by kernel_rfl)) (by decide) (fun K hK => ?_)
                              refine goes_ Try.func44 (by kernel_rfl) rfl #[.agg #[.int .i64 t255, .int .i64 t256, .int .i64 t257, .int .i64 t258], .int .i64 (Int.tmod (rd t265 1) 5)] (by rfl) rfl rfl (by (try simp only [List.map_toArray, List.map_cons, List.map_nil]); first | done | rfl | (simp only [List.length_drop, List.length_take]; rfl)) ?_
                              with_reducible refine (spec_Thin.calls k t255 t256 t257 t258 (Int.tmod (rd t265 1) 5) t308 t309 t310 t311 _ A30.out).mono ?_
                              rintro e w67 ⟨rfl, hb⟩
                              have HS12_ := (hb.cell (World.block_lt_of_cell? _ _ (hHeld.2.2.2.2.2.2.2.2.2.2.2.2))).trans (hHeld.2.2.2.2.2.2.2.2.2.2.2.2)
                              refine ⟨_, rfl, ?_⟩
                              have n0_ := Aside0.mk (Kd.R_below (by (with_reducible repeat (first | apply Kd.R_alloc | apply Kd.R_drewN | apply Kd.R_drew)); exact HO267.out) hb)
                              have n1_ := Aside0.mk (blk_below (g := gb263) (o := .cells #[.int .i64 t255, .int .i64 t256, .int .i64 t257, .int .i64 t258] 27 (0, 0)) (by (with_reducible repeat (first | refine blk_drewN ?_ _ | refine blk_drew ?_ | refine blk_alloc ?_ _)); exact BK263.out) hb)
                              have n2_ := Aside0.mk (blk_below (g := gb264) (o := .cells #[.int .i64 t259, .int .i64 t260, .int .i64 t261, .int .i64 t262] 27 (0, 0)) (by (with_reducible repeat (first | refine blk_drewN ?_ _ | refine blk_drew ?_ | refine blk_alloc ?_ _)); exact BK264.out) hb)
                              have n3_ := Aside0.mk (blk_below (g := gb273) (o := .cells #[.int .i64 t269, .int .i64 t270, .int .i64 t271, .int .i64 t272] 27 (0, 0)) (by (with_reducible repeat (first | refine blk_drewN ?_ _ | refine blk_drew ?_ | refine blk_alloc ?_ _)); exact BK273.out) hb)
                              have n4_ := Aside0.mk (blk_below (g := gb279) (o := .cells #[.int .i64 t275, .int .i64 t276, .int .i64 t277, .int .i64 t278] 27 (0, 0)) (by (with_reducible repeat (first | refine blk_drewN ?_ _ | refine blk_drew ?_ | refine blk_alloc ?_ _)); exact BK279.out) hb)
                              have n5_ := Aside0.mk (below_step (by repeat (first | (with_reducible first | exact HB.out | apply below_alloc | apply pw_below_drewN | apply below_drew1 | refine below_set ?_ GE263.out | refine below_set ?_ GE264.out | refine below_set ?_ GE273.out | refine below_set ?_ GE279.out) | exact HB.out)) hb)
                              clear HO267
                              clear BK263
                              clear BK264
                              clear BK273
                              clear BK279
                              clear HB
                              have HO267 := n0_
                              have BK263 := n1_
                              have BK264 := n2_
                              have BK273 := n3_
                              have BK279 := n4_
                              have HB := n5_
                              clear n0_ n1_ n2_ n3_ n4_ n5_
                              (try clear hb)
                              (try clear hb2)
                              (try clear hk)
                              (try clear hi)
                              refine hK.out _ _ ⟨(blk_cell BK263.out 0).trans rfl, (blk_cell BK263.out 1).trans rfl, (blk_cell BK263.out 2).trans rfl, (blk_cell BK263.out 3).trans rfl, (blk_cell BK273.out 0).trans rfl, (blk_cell BK273.out 1).trans rfl, (blk_cell BK273.out 2).trans rfl, (blk_cell BK273.out 3).trans rfl, (blk_cell BK279.out 0).trans rfl, (blk_cell BK279.out 1).trans rfl, (blk_cell BK279.out 2).trans rfl, (blk_cell BK279.out 3).trans rfl, HS12_⟩ (fun hHeld => ?_)
                              clear hK K
                              refine norm_ (a' := ?_) ?_ ?_
                              rotate_left
                              · show Act.put _ (some 100) _ = _
                                simp only [Act.put, List.setIfInBounds_toArray, List.set_cons_zero, List.set_cons_succ, i64_w, i32_w]
                                rfl
                              refine pure_ (i := 72) (N := some 101) (v := ?_) (a' := ?_) #[true, true, true, true, true, true, true, true, true, true, true, true, true, true, true, true, true, true, true, true, true, true, true, true, true, true, true, true, true, true, true, true, true, true, true, true, true, true, true, true, true, true, true, true, true, true, true, true, true, true, true, true, true, true, true, true, true, true, true, true, true, true, true, true, true, true, true, true, true, true, true, true, true, false, false] rfl rfl (any_of HT_.out (by kernel_rfl)) (fun _ _ _ h => h) (Or.inl ⟨by rfl, ?_⟩) ?_ ?_
                              rotate_left
                              · intro w'
                                go_simp
                                with_reducible rfl
                              rotate_left
                              · simp only [Act.put, List.setIfInBounds_toArray, List.set_cons_zero, List.set_cons_succ, i64_w, i32_w]
                                rfl
                              refine pure_ (i := 73) (N := some 102) (v := ?_) (a' := ?_) #[true, true, true, true, true, true, true, true, true, true, true, true, true, true, true, true, true, true, true, true, true, true, true, true, true, true, true, true, true, true, true, true, true, true, true, true, true, true, true, true, true, true, true, true, true, true, true, true, true, true, true, true, true, true, true, true, true, true, true, true, true, true, true, true, true, true, true, true, true, true, true, true, true, true, false] rfl rfl (any_of HT_.out (by kernel_rfl)) (fun _ _ _ h => h) (Or.inl ⟨by rfl, ?_⟩) ?_ ?_
                              rotate_left
                              · intro w'
                                go_simp
                                with_reducible rfl
                              rotate_left
                              · simp only [Act.put, List.setIfInBounds_toArray, List.set_cons_zero, List.set_cons_succ, i64_w, i32_w]
                                rfl
                              refine pure_ (i := 74) (N := some 2) (v := ?_) (a' := ?_) #[true, true, true, true, true, true, true, true, true, true, true, true, true, true, true, true, true, true, true, true, true, true, true, true, true, true, true, true, true, true, true, true, true, true, true, true, true, true, true, true, true, true, true, true, true, true, true, true, true, true, true, true, true, true, true, true, true, true, true, true, true, true, true, true, true, true, true, true, true, true, true, true, true, true, true] rfl rfl (any_of HT_.out (by kernel_rfl)) (fun _ _ _ h => h) (Or.inl ⟨by rfl, ?_⟩) ?_ ?_
                              rotate_left
                              · intro w'
                                go_simp
                                with_reducible rfl
                              rotate_left
                              · simp only [Act.put, List.setIfInBounds_toArray, List.set_cons_zero, List.set_cons_succ, i64_w, i32_w]
                                rfl
                              refine done_ (done_of HT_.out (by kernel_rfl)) ?_
                              try go_wp2
                              go_ret
                              exact ⟨by first | rfl | (simp [errW_none, errW_some] <;> rfl) | (simp [*, errW_none, errW_some] <;> rfl), by repeat (first | (with_reducible first | exact HB.out | apply below_alloc | apply pw_below_drewN | apply below_drew1 | refine below_set ?_ GE263.out | refine below_set ?_ GE264.out | refine below_set ?_ GE273.out | refine below_set ?_ GE279.out) | exact HB.out)⟩
                            · rw [if_neg c29] at H
                              have c29b0 : (t299 == t303 && (t300 == t304 && (t301 == t305 && (t302 == t306)))) = false := by simpa using c29
                              (try (have c29b1 : decide (t299 = t303 && (t300 == t304 && (t301 == t305 && (t302 == t306)))) = false := by simpa using c29))
                              (try (have c29b2 : (t299 == t303 && (t300 == t304 && (t301 == t305 && (t302 == t306)))) = false := by simpa using c29))
                              (try (have c29b3 : ¬ (t299 = t303 && (t300 == t304 && (t301 == t305 && (t302 == t306)))) := by simpa using c29))
                              clear c29
                              obtain rfl := Option.some.inj H
                              exact absurd hT Bool.false_ne_true
                          · rw [if_neg c26] at H
                            have c26b0 : (t291 == t295 && (t292 == t296 && (t293 == t297 && (t294 == t298)))) = false := by simpa using c26
                            (try (have c26b1 : decide (t291 = t295 && (t292 == t296 && (t293 == t297 && (t294 == t298)))) = false := by simpa using c26))
                            (try (have c26b2 : (t291 == t295 && (t292 == t296 && (t293 == t297 && (t294 == t298)))) = false := by simpa using c26))
                            (try (have c26b3 : ¬ (t291 = t295 && (t292 == t296 && (t293 == t297 && (t294 == t298)))) := by simpa using c26))
                            clear c26
                            obtain rfl := Option.some.inj H
                            exact absurd hT Bool.false_ne_true
                        · rw [if_neg c23] at H
                          have c23b0 : (t287 == t255 && (t288 == t256 && (t289 == t257 && (t290 == t258)))) = false := by simpa using c23
                          (try (have c23b1 : decide (t287 = t255 && (t288 == t256 && (t289 == t257 && (t290 == t258)))) = false := by simpa using c23))
                          (try (have c23b2 : (t287 == t255 && (t288 == t256 && (t289 == t257 && (t290 == t258)))) = false := by simpa using c23))
                          (try (have c23b3 : ¬ (t287 = t255 && (t288 == t256 && (t289 == t257 && (t290 == t258)))) := by simpa using c23))
                          clear c23
                          obtain rfl := Option.some.inj H
                          exact absurd hT Bool.false_ne_true
                      · rw [if_neg c21] at H
                        have c21b0 : (t283 == t255 && (t284 == t256 && (t285 == t257 && (t286 == t258)))) = false := by simpa using c21
                        (try (have c21b1 : decide (t283 = t255 && (t284 == t256 && (t285 == t257 && (t286 == t258)))) = false := by simpa using c21))
                        (try (have c21b2 : (t283 == t255 && (t284 == t256 && (t285 == t257 && (t286 == t258)))) = false := by simpa using c21))
                        (try (have c21b3 : ¬ (t283 = t255 && (t284 == t256 && (t285 == t257 && (t286 == t258)))) := by simpa using c21))
                        clear c21
                        obtain rfl := Option.some.inj H
                        exact absurd hT Bool.false_ne_true
                    · rw [if_neg c19] at H
                      have c19b0 : decide (t277 ≤ t257) = false := decide_eq_false c19
                      clear c19
                      obtain rfl := Option.some.inj H
                      exact absurd hT Bool.false_ne_true
                  · rw [if_neg c18] at H
                    have c18b0 : decide (t278 ≤ t258) = false := decide_eq_false c18
                    clear c18
                    obtain rfl := Option.some.inj H
                    exact absurd hT Bool.false_ne_true
                · rw [if_neg c17] at H
                  have c17b0 : decide (t269 ≤ t255) = false := decide_eq_false c17
                  clear c17
                  obtain rfl := Option.some.inj H
                  exact absurd hT Bool.false_ne_true
              · rw [if_neg c16] at H
                have c16b0 : decide (t272 ≤ t258) = false := decide_eq_false c16
                clear c16
                obtain rfl := Option.some.inj H
                exact absurd hT Bool.false_ne_true
            · replace c15 := Bool.eq_false_iff.mpr c15
              subst c15
              have H1 : (some false) = some r := by rw [if_neg (show ¬ (false = true) by decide)] at H; exact H
              clear H
              have H := H1
              clear H1
              obtain rfl := Option.some.inj H
              exact absurd hT Bool.false_ne_true
          · replace c13 := Bool.eq_false_iff.mpr c13
            subst c13
            have H1 : (some false) = some r := by rw [if_neg (show ¬ (false = true) by decide)] at H; exact H
            clear H
            have H := H1
            clear H1
            obtain rfl := Option.some.inj H
            exact absurd hT Bool.false_ne_true
        · replace c11 := Bool.eq_false_iff.mpr c11
          subst c11
          have H1 : (some false) = some r := by rw [if_neg (show ¬ (false = true) by decide)] at H; exact H
          clear H
          have H := H1
          clear H1
          obtain rfl := Option.some.inj H
          exact absurd hT Bool.false_ne_true
      · rw [if_neg c8] at H
        exact absurd H (by simp)
    · rw [if_neg c6] at H
      exact absurd H (by simp)

/-- THE ONE PURE STATEMENT of laws_FnFades: yours. -/
def laws_FnFades.Pure : Prop := ∀ (l0 : List Int), l0.length ≤ maxLen → l0.length * 1 ≤ 140737488351232 → (∀ x ∈ l0, (Lit.int .u8 x).wf = true) → ∃ k, laws_FnFades.f k l0 = some true
theorem laws_FnFades.walk (P : laws_FnFades.Pure) (a0 : Option Addr) (len0 cap0 : Nat) (z0 : List Int) (w : World) (w0 : (a0 = none ∧ len0 = 0 ∧ cap0 = 0 ∧ z0 = []) ∨ ∃ x, a0 = some x ∧ len0 ≤ cap0 ∧ cap0 ≤ maxLen ∧ z0.length = cap0 ∧ (∀ i, i < z0.length → w.cell? (x.add i) = some (.int .u8 (z0.getD i 0))) ∧ ∀ n ∈ z0, (Lit.int .u8 n).wf = true) (y0 : len0 * 1 ≤ 140737488351232) :
    Calls Try.prog 8 #[.slice a0 len0 cap0] w fun e w' => e = .returned (.bool true) ∧ Below w.heap.size w w' := by
  obtain ⟨l0, rfl, hr0, hm0, hw0, hc0⟩ := ReadsInt.ofRowC w0
  obtain ⟨k, h⟩ := P l0 hm0 y0 hw0
  refine (laws_FnFades.calls k _ _ l0 true w (Kd.C_of_reads (d := (0 : Int)) (h1 := fun _ => rfl) hr0) hc0 rfl h).mono ?_
  rintro e w' ⟨rfl, hd⟩
  exact ⟨rfl, hd⟩

end Go.Proofs.Ytndeonfbolookaa.MFnFades
