/- Functions of the program as Lean functions, and the proof that a call comes to just these: machine text of this session's own program (myprint.py). -/
import Derived.Test.YtgdlbilpfmjeaaaMFnCoversx0
import Derived.Test.YtgdlbilpfmjeaaaMFnCoversx2
namespace Go.Proofs.Ytgdlbilpfmjeaaa.MFnCovers
open Go.RowKit Go.Proofs.YtgdlbilpfmjeaaaW.PrintWords Go.Proofs.YtgdlbilpfmjeaaaW.PrintLast Go.Proofs.YtgdlbilpfmjeaaaW.PrintMore
attribute [local go_sem] max2_int min2_int max_two min_two max_three min_three max_four min_four   -- for this text's walks alone
set_option linter.unusedVariables false
set_option linter.unusedSimpArgs false

/-! ### spec_DrawBoxes: function 22 -/
def spec_DrawBoxes.f (k : Nat) (l0 : List Int) : Option (Int × Int × Int × Int × Int × Int × Int × Int × Int × Int) := (spec_l01New.f k l0).bind fun bt163 => ((spec_l01Below.f bt163.1 bt163.2.1 bt163.2.2 9).bind fun bt167 => ((spec_l01Below.f bt163.1 bt167.2.1 bt167.2.2 9).bind fun bt170 => ((spec_l01Below.f bt163.1 bt170.2.1 bt170.2.2 9).bind fun bt174 => ((spec_l01Below.f bt163.1 bt174.2.1 bt174.2.2 9).bind fun bt177 => ((spec_l01Below.f bt163.1 bt177.2.1 bt177.2.2 9).bind fun bt180 => ((spec_l01Below.f bt163.1 bt180.2.1 bt180.2.2 9).bind fun bt183 => ((spec_l01Below.f bt163.1 bt183.2.1 bt183.2.2 9).bind fun bt187 => ((spec_l01Below.f bt163.1 bt187.2.1 bt187.2.2 9).bind fun bt190 => ((spec_l01Below.f bt163.1 bt190.2.1 bt190.2.2 18).bind fun bt193 => ((spec_l01Below.f bt163.1 bt193.2.1 bt193.2.2 18).bind fun bt196 => (some (bt167.1, bt170.1, wrap64 (bt167.1 + bt174.1), wrap64 (bt170.1 + bt177.1), bt180.1, bt183.1, wrap64 (bt180.1 + bt187.1), wrap64 (bt183.1 + bt190.1), bt193.1, bt196.1))))))))))))
theorem spec_DrawBoxes.mono : ∀ a0 k, LeO (spec_DrawBoxes.f k a0) (spec_DrawBoxes.f (k + 1) a0) := by
  intro a0 k
  unfold spec_DrawBoxes.f
  repeat' first
      | (with_reducible exact spec_l01New.mono _ _)
      | (with_reducible exact LeO.refl _)
      | (with_reducible exact LeO.none _)
      | (with_reducible refine LeO.ite ?_ ?_)
      | (with_reducible refine LeO.bind ?_ (fun _ => ?_))
      | exact spec_l01New.mono _ _
      | exact LeO.none _
      | refine LeO.ite ?_ ?_
      | refine LeO.bind ?_ (fun _ => ?_)
def spec_DrawBoxes.T8 : Bool × List (List Nat × List Nat) := (true, [([], []), ([], []), ([], []), ([2], [2]), ([], []), ([4, 3], [4]), ([3, 5], [3, 5]), ([0, 5, 0], [0]), ([1, 7, 0, 1, 7], [1]), ([6, 8, 0, 1, 2, 3, 4, 5, 6, 7, 8], [6])])
def spec_DrawBoxes.B8 : List Nat := [0, 0, 0, 4, 0, 28, 60, 61, 191, 511]
theorem spec_DrawBoxes.tab8 : rtab .any (opsOf Try.f22 8) = spec_DrawBoxes.T8 := by kernel_rfl
theorem spec_DrawBoxes.bits8 : waitsOk spec_DrawBoxes.T8.2 spec_DrawBoxes.B8 = true := by kernel_rfl
set_option maxHeartbeats 8000000 in
set_option maxRecDepth 100000 in
theorem spec_DrawBoxes.calls (k : Nat) (A0 : Option Addr) (c0 : Nat) (l0 : List Int) (r1 : Int) (r2 : Int) (r3 : Int) (r4 : Int) (r5 : Int) (r6 : Int) (r7 : Int) (r8 : Int) (r9 : Int) (r10 : Int) (w : World) (hr0 : Kd.C (Kd.int .u8) w A0 l0.length l0) (hc0 : l0.length ≤ c0) (h : spec_DrawBoxes.f k l0 = some (r1, r2, r3, r4, r5, r6, r7, r8, r9, r10)) :
    Calls Try.prog 22 #[.slice A0 l0.length c0] w fun e w' => e = .returned (.tuple #[.agg #[.int .i64 r1, .int .i64 r2, .int .i64 r3, .int .i64 r4], .agg #[.int .i64 r5, .int .i64 r6, .int .i64 r7, .int .i64 r8], .agg #[.int .i64 r9, .int .i64 r10]]) ∧ Below w.heap.size w w' := by
  have hu35 := Try.underlying35
  have hu32 := Try.underlying32
  have HR0 := Aside0.mk hr0
  have HC0 := Aside0.mk hc0
  clear hr0 hc0
  have HB := Aside0.mk (Below.refl w.heap.size w)
  have H : ((spec_l01New.f k l0).bind fun bt163 => ((spec_l01Below.f bt163.1 bt163.2.1 bt163.2.2 9).bind fun bt167 => ((spec_l01Below.f bt163.1 bt167.2.1 bt167.2.2 9).bind fun bt170 => ((spec_l01Below.f bt163.1 bt170.2.1 bt170.2.2 9).bind fun bt174 => ((spec_l01Below.f bt163.1 bt174.2.1 bt174.2.2 9).bind fun bt177 => ((spec_l01Below.f bt163.1 bt177.2.1 bt177.2.2 9).bind fun bt180 => ((spec_l01Below.f bt163.1 bt180.2.1 bt180.2.2 9).bind fun bt183 => ((spec_l01Below.f bt163.1 bt183.2.1 bt183.2.2 9).bind fun bt187 => ((spec_l01Below.f bt163.1 bt187.2.1 bt187.2.2 9).bind fun bt190 => ((spec_l01Below.f bt163.1 bt190.2.1 bt190.2.2 18).bind fun bt193 => ((spec_l01Below.f bt163.1 bt193.2.1 bt193.2.2 18).bind fun bt196 => (some (bt167.1, bt170.1, wrap64 (bt167.1 + bt174.1), wrap64 (bt170.1 + bt177.1), bt180.1, bt183.1, wrap64 (bt180.1 + bt187.1), wrap64 (bt183.1 + bt190.1), bt193.1, bt196.1))))))))))))) = some (r1, r2, r3, r4, r5, r6, r7, r8, r9, r10) := h
  clear h
  replace H := Option.bind_eq_some_iff.mp H
  obtain ⟨⟨t163, t164, t165⟩, A20, H⟩ := H
  replace H : ((spec_l01Below.f t163 t164 t165 9).bind fun bt167 => ((spec_l01Below.f t163 bt167.2.1 bt167.2.2 9).bind fun bt170 => ((spec_l01Below.f t163 bt170.2.1 bt170.2.2 9).bind fun bt174 => ((spec_l01Below.f t163 bt174.2.1 bt174.2.2 9).bind fun bt177 => ((spec_l01Below.f t163 bt177.2.1 bt177.2.2 9).bind fun bt180 => ((spec_l01Below.f t163 bt180.2.1 bt180.2.2 9).bind fun bt183 => ((spec_l01Below.f t163 bt183.2.1 bt183.2.2 9).bind fun bt187 => ((spec_l01Below.f t163 bt187.2.1 bt187.2.2 9).bind fun bt190 => ((spec_l01Below.f t163 bt190.2.1 bt190.2.2 18).bind fun bt193 => ((spec_l01Below.f t163 bt193.2.1 bt193.2.2 18).bind fun bt196 => (some (bt167.1, bt170.1, wrap64 (bt167.1 + bt174.1), wrap64 (bt170.1 + bt177.1), bt180.1, bt183.1, wrap64 (bt180.1 + bt187.1), wrap64 (bt183.1 + bt190.1), bt193.1, bt196.1)))))))))))) = some (r1, r2, r3, r4, r5, r6, r7, r8, r9, r10) := H
  have A2 := Aside0.mk A20
  clear A20
  replace H := Option.bind_eq_some_iff.mp H
  obtain ⟨⟨t167, t168, t169⟩, A30, H⟩ := H
  replace H : ((spec_l01Below.f t163 t168 t169 9).bind fun bt170 => ((spec_l01Below.f t163 bt170.2.1 bt170.2.2 9).bind fun bt174 => ((spec_l01Below.f t163 bt174.2.1 bt174.2.2 9).bind fun bt177 => ((spec_l01Below.f t163 bt177.2.1 bt177.2.2 9).bind fun bt180 => ((spec_l01Below.f t163 bt180.2.1 bt180.2.2 9).bind fun bt183 => ((spec_l01Below.f t163 bt183.2.1 bt183.2.2 9).bind fun bt187 => ((spec_l01Below.f t163 bt187.2.1 bt187.2.2 9).bind fun bt190 => ((spec_l01Below.f t163 bt190.2.1 bt190.2.2 18).bind fun bt193 => ((spec_l01Below.f t163 bt193.2.1 bt193.2.2 18).bind fun bt196 => (some (t167, bt170.1, wrap64 (t167 + bt174.1), wrap64 (bt170.1 + bt177.1), bt180.1, bt183.1, wrap64 (bt180.1 + bt187.1), wrap64 (bt183.1 + bt190.1), bt193.1, bt196.1))))))))))) = some (r1, r2, r3, r4, r5, r6, r7, r8, r9, r10) := H
  have A3 := Aside0.mk A30
  clear A30
  replace H := Option.bind_eq_some_iff.mp H
  obtain ⟨⟨t170, t171, t172⟩, A40, H⟩ := H
  replace H : ((spec_l01Below.f t163 t171 t172 9).bind fun bt174 => ((spec_l01Below.f t163 bt174.2.1 bt174.2.2 9).bind fun bt177 => ((spec_l01Below.f t163 bt177.2.1 bt177.2.2 9).bind fun bt180 => ((spec_l01Below.f t163 bt180.2.1 bt180.2.2 9).bind fun bt183 => ((spec_l01Below.f t163 bt183.2.1 bt183.2.2 9).bind fun bt187 => ((spec_l01Below.f t163 bt187.2.1 bt187.2.2 9).bind fun bt190 => ((spec_l01Below.f t163 bt190.2.1 bt190.2.2 18).bind fun bt193 => ((spec_l01Below.f t163 bt193.2.1 bt193.2.2 18).bind fun bt196 => (some (t167, t170, wrap64 (t167 + bt174.1), wrap64 (t170 + bt177.1), bt180.1, bt183.1, wrap64 (bt180.1 + bt187.1), wrap64 (bt183.1 + bt190.1), bt193.1, bt196.1)))))))))) = some (r1, r2, r3, r4, r5, r6, r7, r8, r9, r10) := H
  have A4 := Aside0.mk A40
  clear A40
  replace H := Option.bind_eq_some_iff.mp H
  obtain ⟨⟨t174, t175, t176⟩, A50, H⟩ := H
  replace H : ((spec_l01Below.f t163 t175 t176 9).bind fun bt177 => ((spec_l01Below.f t163 bt177.2.1 bt177.2.2 9).bind fun bt180 => ((spec_l01Below.f t163 bt180.2.1 bt180.2.2 9).bind fun bt183 => ((spec_l01Below.f t163 bt183.2.1 bt183.2.2 9).bind fun bt187 => ((spec_l01Below.f t163 bt187.2.1 bt187.2.2 9).bind fun bt190 => ((spec_l01Below.f t163 bt190.2.1 bt190.2.2 18).bind fun bt193 => ((spec_l01Below.f t163 bt193.2.1 bt193.2.2 18).bind fun bt196 => (some (t167, t170, wrap64 (t167 + t174), wrap64 (t170 + bt177.1), bt180.1, bt183.1, wrap64 (bt180.1 + bt187.1), wrap64 (bt183.1 + bt190.1), bt193.1, bt196.1))))))))) = some (r1, r2, r3, r4, r5, r6, r7, r8, r9, r10) := H
  have A5 := Aside0.mk A50
  clear A50
  replace H := Option.bind_eq_some_iff.mp H
  obtain ⟨⟨t177, t178, t179⟩, A60, H⟩ := H
  replace H : ((spec_l01Below.f t163 t178 t179 9).bind fun bt180 => ((spec_l01Below.f t163 bt180.2.1 bt180.2.2 9).bind fun bt183 => ((spec_l01Below.f t163 bt183.2.1 bt183.2.2 9).bind fun bt187 => ((spec_l01Below.f t163 bt187.2.1 bt187.2.2 9).bind fun bt190 => ((spec_l01Below.f t163 bt190.2.1 bt190.2.2 18).bind fun bt193 => ((spec_l01Below.f t163 bt193.2.1 bt193.2.2 18).bind fun bt196 => (some (t167, t170, wrap64 (t167 + t174), wrap64 (t170 + t177), bt180.1, bt183.1, wrap64 (bt180.1 + bt187.1), wrap64 (bt183.1 + bt190.1), bt193.1, bt196.1)))))))) = some (r1, r2, r3, r4, r5, r6, r7, r8, r9, r10) := H
  have A6 := Aside0.mk A60
  clear A60
  replace H := Option.bind_eq_some_iff.mp H
  obtain ⟨⟨t180, t181, t182⟩, A70, H⟩ := H
  replace H : ((spec_l01Below.f t163 t181 t182 9).bind fun bt183 => ((spec_l01Below.f t163 bt183.2.1 bt183.2.2 9).bind fun bt187 => ((spec_l01Below.f t163 bt187.2.1 bt187.2.2 9).bind fun bt190 => ((spec_l01Below.f t163 bt190.2.1 bt190.2.2 18).bind fun bt193 => ((spec_l01Below.f t163 bt193.2.1 bt193.2.2 18).bind fun bt196 => (some (t167, t170, wrap64 (t167 + t174), wrap64 (t170 + t177), t180, bt183.1, wrap64 (t180 + bt187.1), wrap64 (bt183.1 + bt190.1), bt193.1, bt196.1))))))) = some (r1, r2, r3, r4, r5, r6, r7, r8, r9, r10) := H
  have A7 := Aside0.mk A70
  clear A70
  replace H := Option.bind_eq_some_iff.mp H
  obtain ⟨⟨t183, t184, t185⟩, A80, H⟩ := H
  replace H : ((spec_l01Below.f t163 t184 t185 9).bind fun bt187 => ((spec_l01Below.f t163 bt187.2.1 bt187.2.2 9).bind fun bt190 => ((spec_l01Below.f t163 bt190.2.1 bt190.2.2 18).bind fun bt193 => ((spec_l01Below.f t163 bt193.2.1 bt193.2.2 18).bind fun bt196 => (some (t167, t170, wrap64 (t167 + t174), wrap64 (t170 + t177), t180, t183, wrap64 (t180 + bt187.1), wrap64 (t183 + bt190.1), bt193.1, bt196.1)))))) = some (r1, r2, r3, r4, r5, r6, r7, r8, r9, r10) := H
  have A8 := Aside0.mk A80
  clear A80
  replace H := Option.bind_eq_some_iff.mp H
  obtain ⟨⟨t187, t188, t189⟩, A90, H⟩ := H
  replace H : ((spec_l01Below.f t163 t188 t189 9).bind fun bt190 => ((spec_l01Below.f t163 bt190.2.1 bt190.2.2 18).bind fun bt193 => ((spec_l01Below.f t163 bt193.2.1 bt193.2.2 18).bind fun bt196 => (some (t167, t170, wrap64 (t167 + t174), wrap64 (t170 + t177), t180, t183, wrap64 (t180 + t187), wrap64 (t183 + bt190.1), bt193.1, bt196.1))))) = some (r1, r2, r3, r4, r5, r6, r7, r8, r9, r10) := H
  have A9 := Aside0.mk A90
  clear A90
  replace H := Option.bind_eq_some_iff.mp H
  obtain ⟨⟨t190, t191, t192⟩, A100, H⟩ := H
  replace H : ((spec_l01Below.f t163 t191 t192 18).bind fun bt193 => ((spec_l01Below.f t163 bt193.2.1 bt193.2.2 18).bind fun bt196 => (some (t167, t170, wrap64 (t167 + t174), wrap64 (t170 + t177), t180, t183, wrap64 (t180 + t187), wrap64 (t183 + t190), bt193.1, bt196.1)))) = some (r1, r2, r3, r4, r5, r6, r7, r8, r9, r10) := H
  have A10 := Aside0.mk A100
  clear A100
  replace H := Option.bind_eq_some_iff.mp H
  obtain ⟨⟨t193, t194, t195⟩, A110, H⟩ := H
  replace H : ((spec_l01Below.f t163 t194 t195 18).bind fun bt196 => (some (t167, t170, wrap64 (t167 + t174), wrap64 (t170 + t177), t180, t183, wrap64 (t180 + t187), wrap64 (t183 + t190), t193, bt196.1))) = some (r1, r2, r3, r4, r5, r6, r7, r8, r9, r10) := H
  have A11 := Aside0.mk A110
  clear A110
  replace H := Option.bind_eq_some_iff.mp H
  obtain ⟨⟨t196, t197, t198⟩, A120, H⟩ := H
  replace H : (some (t167, t170, wrap64 (t167 + t174), wrap64 (t170 + t177), t180, t183, wrap64 (t180 + t187), wrap64 (t183 + t190), t193, t196)) = some (r1, r2, r3, r4, r5, r6, r7, r8, r9, r10) := H
  have A12 := Aside0.mk A120
  clear A120
  simp only [Option.some.injEq, Prod.mk.injEq] at H
  obtain ⟨rfl, rfl, rfl, rfl, rfl, rfl, rfl, rfl, rfl, rfl⟩ := H
  go_enter Try.func22, Try.ntmps22
  try go_wp2_with (first | ((with_reducible refine gate_dst (N := 2) rfl ?_); refine box_event ?hg (N := 2) ?hd (cs := #[.int .i64 0, .int .i64 0, .int .i64 0, .int .i64 0]) (t := 35) ?hr ?_; (case hd => rfl); (case hg => rfl); (case hr => first | (go_simp; done) | (go_simp; rfl)); intro gb160 hg w13 hbox hb; have n0_ := Aside0.mk (below_step (by repeat (first | (with_reducible first | exact HB.out | apply below_alloc | apply pw_below_drewN | apply below_drew1) | exact HB.out)) hb); have n1_ := Aside0.mk (hbox); have n2_ := Aside0.mk ((by rw [hg]; exact (below_size (by repeat (first | (with_reducible first | exact HB.out | apply below_alloc | apply pw_below_drewN | apply below_drew1) | exact HB.out))) : w.heap.size ≤ gb160)); have n3_ := Aside0.mk ((by rw [hg]; exact (below_size (by repeat (first | (with_reducible first | exact HB.out | apply below_alloc | apply pw_below_drewN | apply below_drew1) | exact HB.out))) : w.heap.size ≤ gb160)); clear HB; have HB := n0_; have BK160 := n1_; have GW160 := n2_; have GE160 := n3_; clear n0_ n1_ n2_ n3_; clear hb hbox hg) | ((with_reducible refine gate_dst (N := 3) rfl ?_); refine box_event ?hg (N := 3) ?hd (cs := #[.int .i64 0, .int .i64 0, .int .i64 0, .int .i64 0]) (t := 35) ?hr ?_; (case hd => rfl); (case hg => rfl); (case hr => first | (go_simp; done) | (go_simp; rfl)); intro gb161 hg w14 hbox hb; have n0_ := Aside0.mk (blk_below (g := gb160) (o := .cells #[.int .i64 0, .int .i64 0, .int .i64 0, .int .i64 0] 35 (0, 0)) (by (with_reducible repeat (first | refine blk_drewN ?_ _ | refine blk_drew ?_ | refine blk_alloc ?_ _)); exact BK160.out) hb); have n1_ := Aside0.mk (below_step (by repeat (first | (with_reducible first | exact HB.out | apply below_alloc | apply pw_below_drewN | apply below_drew1 | refine below_set ?_ GE160.out) | exact HB.out)) hb); have n2_ := Aside0.mk (hbox); have n3_ := Aside0.mk ((by rw [hg]; exact (below_size (by repeat (first | (with_reducible first | exact HB.out | apply below_alloc | apply pw_below_drewN | apply below_drew1 | refine below_set ?_ GE160.out) | exact HB.out))) : w.heap.size ≤ gb161)); have n4_ := Aside0.mk ((by rw [hg]; exact (below_size (by repeat (first | (with_reducible first | exact HB.out | apply below_alloc | apply pw_below_drewN | apply below_drew1 | refine below_set ?_ GE160.out) | exact HB.out))) : w.heap.size ≤ gb161)); have n5_ := Aside0.mk ((by rw [hg]; exact Nat.ne_of_lt (blk_lt (g := gb160) (o := .cells #[.int .i64 0, .int .i64 0, .int .i64 0, .int .i64 0] 35 (0, 0)) (by (with_reducible repeat (first | refine blk_drewN ?_ _ | refine blk_drew ?_ | refine blk_alloc ?_ _)); exact BK160.out)) : gb160 ≠ gb161)); have n6_ := Aside0.mk ((by rw [hg]; exact Nat.ne_of_gt (blk_lt (g := gb160) (o := .cells #[.int .i64 0, .int .i64 0, .int .i64 0, .int .i64 0] 35 (0, 0)) (by (with_reducible repeat (first | refine blk_drewN ?_ _ | refine blk_drew ?_ | refine blk_alloc ?_ _)); exact BK160.out)) : gb161 ≠ gb160)); clear BK160; clear HB; have BK160 := n0_; have HB := n1_; have BK161 := n2_; have GW161 := n3_; have GE161 := n4_; have NB160_161 := n5_; have NB161_160 := n6_; clear n0_ n1_ n2_ n3_ n4_ n5_ n6_; clear hb hbox hg) | ((with_reducible refine gate_dst (N := 4) rfl ?_); refine box_event ?hg (N := 4) ?hd (cs := #[.int .i64 0, .int .i64 0]) (t := 32) ?hr ?_; (case hd => rfl); (case hg => rfl); (case hr => first | (go_simp; done) | (go_simp; rfl)); intro gb162 hg w15 hbox hb; have n0_ := Aside0.mk (blk_below (g := gb160) (o := .cells #[.int .i64 0, .int .i64 0, .int .i64 0, .int .i64 0] 35 (0, 0)) (by (with_reducible repeat (first | refine blk_drewN ?_ _ | refine blk_drew ?_ | refine blk_alloc ?_ _)); exact BK160.out) hb); have n1_ := Aside0.mk (blk_below (g := gb161) (o := .cells #[.int .i64 0, .int .i64 0, .int .i64 0, .int .i64 0] 35 (0, 0)) (by (with_reducible repeat (first | refine blk_drewN ?_ _ | refine blk_drew ?_ | refine blk_alloc ?_ _)); exact BK161.out) hb); have n2_ := Aside0.mk (below_step (by repeat (first | (with_reducible first | exact HB.out | apply below_alloc | apply pw_below_drewN | apply below_drew1 | refine below_set ?_ GE160.out | refine below_set ?_ GE161.out) | exact HB.out)) hb); have n3_ := Aside0.mk (hbox); have n4_ := Aside0.mk ((by rw [hg]; exact (below_size (by repeat (first | (with_reducible first | exact HB.out | apply below_alloc | apply pw_below_drewN | apply below_drew1 | refine below_set ?_ GE160.out | refine below_set ?_ GE161.out) | exact HB.out))) : w.heap.size ≤ gb162)); have n5_ := Aside0.mk ((by rw [hg]; exact (below_size (by repeat (first | (with_reducible first | exact HB.out | apply below_alloc | apply pw_below_drewN | apply below_drew1 | refine below_set ?_ GE160.out | refine below_set ?_ GE161.out) | exact HB.out))) : w.heap.size ≤ gb162)); have n6_ := Aside0.mk ((by rw [hg]; exact Nat.ne_of_lt (blk_lt (g := gb160) (o := .cells #[.int .i64 0, .int .i64 0, .int .i64 0, .int .i64 0] 35 (0, 0)) (by (with_reducible repeat (first | refine blk_drewN ?_ _ | refine blk_drew ?_ | refine blk_alloc ?_ _)); exact BK160.out)) : gb160 ≠ gb162)); have n7_ := Aside0.mk ((by rw [hg]; exact Nat.ne_of_gt (blk_lt (g := gb160) (o := .cells #[.int .i64 0, .int .i64 0, .int .i64 0, .int .i64 0] 35 (0, 0)) (by (with_reducible repeat (first | refine blk_drewN ?_ _ | refine blk_drew ?_ | refine blk_alloc ?_ _)); exact BK160.out)) : gb162 ≠ gb160)); have n8_ := Aside0.mk ((by rw [hg]; exact Nat.ne_of_lt (blk_lt (g := gb161) (o := .cells #[.int .i64 0, .int .i64 0, .int .i64 0, .int .i64 0] 35 (0, 0)) (by (with_reducible repeat (first | refine blk_drewN ?_ _ | refine blk_drew ?_ | refine blk_alloc ?_ _)); exact BK161.out)) : gb161 ≠ gb162)); have n9_ := Aside0.mk ((by rw [hg]; exact Nat.ne_of_gt (blk_lt (g := gb161) (o := .cells #[.int .i64 0, .int .i64 0, .int .i64 0, .int .i64 0] 35 (0, 0)) (by (with_reducible repeat (first | refine blk_drewN ?_ _ | refine blk_drew ?_ | refine blk_alloc ?_ _)); exact BK161.out)) : gb162 ≠ gb161)); clear BK160; clear BK161; clear HB; have BK160 := n0_; have BK161 := n1_; have HB := n2_; have BK162 := n3_; have GW162 := n4_; have GE162 := n5_; have NB160_162 := n6_; have NB162_160 := n7_; have NB161_162 := n8_; have NB162_161 := n9_; clear n0_ n1_ n2_ n3_ n4_ n5_ n6_ n7_ n8_ n9_; clear hb hbox hg) | ((with_reducible refine gate_callee (f := 80) rfl ?_); refine goesL_ (some 9) rfl rfl Try.func80 (by kernel_rfl) rfl #[.slice A0 l0.length c0] rfl (by (try simp only [List.map_toArray, List.map_cons, List.map_nil]); first | done | rfl | (simp only [List.length_drop, List.length_take]; rfl)) ?_; (with_reducible refine (spec_l01New.calls k _ _ l0 t163 t164 t165 w _ ?side1 ?side2 ?side3 A2.out).mono ?_); (case side1 => repeat (first | (with_reducible first | exact HB.out | apply below_alloc | apply pw_below_drewN | apply below_drew1 | refine below_set ?_ GE160.out | refine below_set ?_ GE161.out | refine below_set ?_ GE162.out) | exact HB.out)); (case side2 => exact HR0.out); (case side3 => exact HC0.out); rintro e w16 ⟨g166, rfl, hi, hb, hb2⟩; refine ⟨_, rfl, ?_⟩; have n0_ := Aside0.mk (blk_below (g := gb160) (o := .cells #[.int .i64 0, .int .i64 0, .int .i64 0, .int .i64 0] 35 (0, 0)) (by (with_reducible repeat (first | refine blk_drewN ?_ _ | refine blk_drew ?_ | refine blk_alloc ?_ _)); exact BK160.out) hb2); have n1_ := Aside0.mk (blk_below (g := gb161) (o := .cells #[.int .i64 0, .int .i64 0, .int .i64 0, .int .i64 0] 35 (0, 0)) (by (with_reducible repeat (first | refine blk_drewN ?_ _ | refine blk_drew ?_ | refine blk_alloc ?_ _)); exact BK161.out) hb2); have n2_ := Aside0.mk (blk_below (g := gb162) (o := .cells #[.int .i64 0, .int .i64 0] 32 (0, 0)) (by (with_reducible repeat (first | refine blk_drewN ?_ _ | refine blk_drew ?_ | refine blk_alloc ?_ _)); exact BK162.out) hb2); have n3_ := Aside0.mk (hb); have n4_ := Aside0.mk (hi); have n5_ := Aside0.mk (IsS161.ne_blk hi (blk_below (g := gb160) (o := .cells #[.int .i64 0, .int .i64 0, .int .i64 0, .int .i64 0] 35 (0, 0)) (by (with_reducible repeat (first | refine blk_drewN ?_ _ | refine blk_drew ?_ | refine blk_alloc ?_ _)); exact BK160.out) hb2) (by decide)); have n6_ := Aside0.mk (Ne.symm (IsS161.ne_blk hi (blk_below (g := gb160) (o := .cells #[.int .i64 0, .int .i64 0, .int .i64 0, .int .i64 0] 35 (0, 0)) (by (with_reducible repeat (first | refine blk_drewN ?_ _ | refine blk_drew ?_ | refine blk_alloc ?_ _)); exact BK160.out) hb2) (by decide))); have n7_ := Aside0.mk (IsS161.ne_blk hi (blk_below (g := gb161) (o := .cells #[.int .i64 0, .int .i64 0, .int .i64 0, .int .i64 0] 35 (0, 0)) (by (with_reducible repeat (first | refine blk_drewN ?_ _ | refine blk_drew ?_ | refine blk_alloc ?_ _)); exact BK161.out) hb2) (by decide)); have n8_ := Aside0.mk (Ne.symm (IsS161.ne_blk hi (blk_below (g := gb161) (o := .cells #[.int .i64 0, .int .i64 0, .int .i64 0, .int .i64 0] 35 (0, 0)) (by (with_reducible repeat (first | refine blk_drewN ?_ _ | refine blk_drew ?_ | refine blk_alloc ?_ _)); exact BK161.out) hb2) (by decide))); have n9_ := Aside0.mk (IsS161.ne_blk hi (blk_below (g := gb162) (o := .cells #[.int .i64 0, .int .i64 0] 32 (0, 0)) (by (with_reducible repeat (first | refine blk_drewN ?_ _ | refine blk_drew ?_ | refine blk_alloc ?_ _)); exact BK162.out) hb2) (by decide)); have n10_ := Aside0.mk (Ne.symm (IsS161.ne_blk hi (blk_below (g := gb162) (o := .cells #[.int .i64 0, .int .i64 0] 32 (0, 0)) (by (with_reducible repeat (first | refine blk_drewN ?_ _ | refine blk_drew ?_ | refine blk_alloc ?_ _)); exact BK162.out) hb2) (by decide))); clear BK160; clear BK161; clear BK162; clear HB; have BK160 := n0_; have BK161 := n1_; have BK162 := n2_; have HB := n3_; have HI166 := n4_; have NB166_160 := n5_; have NB160_166 := n6_; have NB166_161 := n7_; have NB161_166 := n8_; have NB166_162 := n9_; have NB162_166 := n10_; clear n0_ n1_ n2_ n3_ n4_ n5_ n6_ n7_ n8_ n9_ n10_; (try clear hb); (try clear hb2); (try clear hk); (try clear hi)) | ((with_reducible refine gate_callee (f := 81) rfl ?_); refine goesL_ (some 11) rfl rfl Try.func81 (by kernel_rfl) rfl #[.pointer (some ⟨g166, 0, none⟩), .int .i64 9] rfl (by (try simp only [List.map_toArray, List.map_cons, List.map_nil]); first | done | rfl | (simp only [List.length_drop, List.length_take]; rfl)) ?_; (with_reducible refine (spec_l01Below.calls g166 t163 t164 t165 9 t167 t168 t169 w _ ?side1 ?side2 A3.out).mono ?_); (case side1 => repeat (first | (with_reducible first | exact HI166.out | apply IsS161.alloc | apply IsS161.drewN | apply IsS161.drew | apply IsS161.set_1 | apply IsS161.set_2 | apply IsS161.farB NB166_160.out | apply IsS161.farB NB166_161.out | apply IsS161.farB NB166_162.out) | exact HI166.out)); (case side2 => repeat (first | (with_reducible first | exact HB.out | apply below_alloc | apply pw_below_drewN | apply below_drew1 | refine below_set ?_ (IsS161.ge HI166.out) | refine below_set ?_ GE160.out | refine below_set ?_ GE161.out | refine below_set ?_ GE162.out) | exact HB.out)); rintro e w17 ⟨rfl, hi, hb, hk⟩; refine ⟨_, rfl, ?_⟩; have n0_ := Aside0.mk (KeepBut.blk hk (g' := gb160) (o := .cells #[.int .i64 0, .int .i64 0, .int .i64 0, .int .i64 0] 35 (0, 0)) (by (with_reducible repeat (first | refine blk_drewN ?_ _ | refine blk_drew ?_ | refine blk_alloc ?_ _)); exact BK160.out) NB160_166.out (by simp)); have n1_ := Aside0.mk (KeepBut.blk hk (g' := gb161) (o := .cells #[.int .i64 0, .int .i64 0, .int .i64 0, .int .i64 0] 35 (0, 0)) (by (with_reducible repeat (first | refine blk_drewN ?_ _ | refine blk_drew ?_ | refine blk_alloc ?_ _)); exact BK161.out) NB161_166.out (by simp)); have n2_ := Aside0.mk (KeepBut.blk hk (g' := gb162) (o := .cells #[.int .i64 0, .int .i64 0] 32 (0, 0)) (by (with_reducible repeat (first | refine blk_drewN ?_ _ | refine blk_drew ?_ | refine blk_alloc ?_ _)); exact BK162.out) NB162_166.out (by simp)); have n3_ := Aside0.mk (hb); have n4_ := Aside0.mk (hi); clear BK160; clear BK161; clear BK162; clear HB; clear HI166; have BK160 := n0_; have BK161 := n1_; have BK162 := n2_; have HB := n3_; have HI166 := n4_; clear n0_ n1_ n2_ n3_ n4_; (try clear hb); (try clear hb2); (try clear hk); (try clear hi)) | ((with_reducible refine gate_callee (f := 81) rfl ?_); refine goesL_ (some 13) rfl rfl Try.func81 (by kernel_rfl) rfl #[.pointer (some ⟨g166, 0, none⟩), .int .i64 9] rfl (by (try simp only [List.map_toArray, List.map_cons, List.map_nil]); first | done | rfl | (simp only [List.length_drop, List.length_take]; rfl)) ?_; (with_reducible refine (spec_l01Below.calls g166 t163 t168 t169 9 t170 t171 t172 w _ ?side1 ?side2 A4.out).mono ?_); (case side1 => repeat (first | (with_reducible first | exact HI166.out | apply IsS161.alloc | apply IsS161.drewN | apply IsS161.drew | apply IsS161.set_1 | apply IsS161.set_2 | apply IsS161.farB NB166_160.out | apply IsS161.farB NB166_161.out | apply IsS161.farB NB166_162.out) | exact HI166.out)); (case side2 => repeat (first | (with_reducible first | exact HB.out | apply below_alloc | apply pw_below_drewN | apply below_drew1 | refine below_set ?_ (IsS161.ge HI166.out) | refine below_set ?_ GE160.out | refine below_set ?_ GE161.out | refine below_set ?_ GE162.out) | exact HB.out)); rintro e w18 ⟨rfl, hi, hb, hk⟩; refine ⟨_, rfl, ?_⟩; have n0_ := Aside0.mk (KeepBut.blk hk (g' := gb160) (o := .cells #[.int .i64 0, .int .i64 0, .int .i64 0, .int .i64 0] 35 (0, 0)) (by (with_reducible repeat (first | refine blk_drewN ?_ _ | refine blk_drew ?_ | refine blk_alloc ?_ _)); exact BK160.out) NB160_166.out (by simp)); have n1_ := Aside0.mk (KeepBut.blk hk (g' := gb161) (o := .cells #[.int .i64 0, .int .i64 0, .int .i64 0, .int .i64 0] 35 (0, 0)) (by (with_reducible repeat (first | refine blk_drewN ?_ _ | refine blk_drew ?_ | refine blk_alloc ?_ _)); exact BK161.out) NB161_166.out (by simp)); have n2_ := Aside0.mk (KeepBut.blk hk (g' := gb162) (o := .cells #[.int .i64 0, .int .i64 0] 32 (0, 0)) (by (with_reducible repeat (first | refine blk_drewN ?_ _ | refine blk_drew ?_ | refine blk_alloc ?_ _)); exact BK162.out) NB162_166.out (by simp)); have n3_ := Aside0.mk (hb); have n4_ := Aside0.mk (hi); clear BK160; clear BK161; clear BK162; clear HB; clear HI166; have BK160 := n0_; have BK161 := n1_; have BK162 := n2_; have HB := n3_; have HI166 := n4_; clear n0_ n1_ n2_ n3_ n4_; (try clear hb); (try clear hb2); (try clear hk); (try clear hi)) | ((with_reducible refine gate_dst (N := 6) rfl ?_); refine box_event ?hg (N := 6) ?hd (cs := #[.int .i64 0, .int .i64 0, .int .i64 0, .int .i64 0]) (t := 35) ?hr ?_; (case hd => rfl); (case hg => rfl); (case hr => first | (go_simp; done) | (go_simp; rfl)); intro gb173 hg w19 hbox hb; have n0_ := Aside0.mk (blk_below (g := gb160) (o := .cells #[.int .i64 0, .int .i64 0, .int .i64 0, .int .i64 0] 35 (0, 0)) (by (with_reducible repeat (first | refine blk_drewN ?_ _ | refine blk_drew ?_ | refine blk_alloc ?_ _)); exact BK160.out) hb); have n1_ := Aside0.mk (blk_below (g := gb161) (o := .cells #[.int .i64 0, .int .i64 0, .int .i64 0, .int .i64 0] 35 (0, 0)) (by (with_reducible repeat (first | refine blk_drewN ?_ _ | refine blk_drew ?_ | refine blk_alloc ?_ _)); exact BK161.out) hb); have n2_ := Aside0.mk (blk_below (g := gb162) (o := .cells #[.int .i64 0, .int .i64 0] 32 (0, 0)) (by (with_reducible repeat (first | refine blk_drewN ?_ _ | refine blk_drew ?_ | refine blk_alloc ?_ _)); exact BK162.out) hb); have n3_ := Aside0.mk (IsS161.below (by repeat (first | (with_reducible first | exact HI166.out | apply IsS161.alloc | apply IsS161.drewN | apply IsS161.drew | apply IsS161.set_1 | apply IsS161.set_2 | apply IsS161.farB NB166_160.out | apply IsS161.farB NB166_161.out | apply IsS161.farB NB166_162.out) | exact HI166.out)) hb); have n4_ := Aside0.mk (below_step (by repeat (first | (with_reducible first | exact HB.out | apply below_alloc | apply pw_below_drewN | apply below_drew1 | refine below_set ?_ (IsS161.ge HI166.out) | refine below_set ?_ GE160.out | refine below_set ?_ GE161.out | refine below_set ?_ GE162.out) | exact HB.out)) hb); have n5_ := Aside0.mk (hbox); have n6_ := Aside0.mk ((by rw [hg]; exact (below_size (by repeat (first | (with_reducible first | exact HB.out | apply below_alloc | apply pw_below_drewN | apply below_drew1 | refine below_set ?_ (IsS161.ge HI166.out) | refine below_set ?_ GE160.out | refine below_set ?_ GE161.out | refine below_set ?_ GE162.out) | exact HB.out))) : w.heap.size ≤ gb173)); have n7_ := Aside0.mk ((by rw [hg]; exact (below_size (by repeat (first | (with_reducible first | exact HB.out | apply below_alloc | apply pw_below_drewN | apply below_drew1 | refine below_set ?_ (IsS161.ge HI166.out) | refine below_set ?_ GE160.out | refine below_set ?_ GE161.out | refine below_set ?_ GE162.out) | exact HB.out))) : w.heap.size ≤ gb173)); have n8_ := Aside0.mk ((by rw [hg]; exact Nat.ne_of_lt (blk_lt (g := gb160) (o := .cells #[.int .i64 0, .int .i64 0, .int .i64 0, .int .i64 0] 35 (0, 0)) (by (with_reducible repeat (first | refine blk_drewN ?_ _ | refine blk_drew ?_ | refine blk_alloc ?_ _)); exact BK160.out)) : gb160 ≠ gb173)); have n9_ := Aside0.mk ((by rw [hg]; exact Nat.ne_of_gt (blk_lt (g := gb160) (o := .cells #[.int .i64 0, .int .i64 0, .int .i64 0, .int .i64 0] 35 (0, 0)) (by (with_reducible repeat (first | refine blk_drewN ?_ _ | refine blk_drew ?_ | refine blk_alloc ?_ _)); exact BK160.out)) : gb173 ≠ gb160)); have n10_ := Aside0.mk ((by rw [hg]; exact Nat.ne_of_lt (blk_lt (g := gb161) (o := .cells #[.int .i64 0, .int .i64 0, .int .i64 0, .int .i64 0] 35 (0, 0)) (by (with_reducible repeat (first | refine blk_drewN ?_ _ | refine blk_drew ?_ | refine blk_alloc ?_ _)); exact BK161.out)) : gb161 ≠ gb173)); have n11_ := Aside0.mk ((by rw [hg]; exact Nat.ne_of_gt (blk_lt (g := gb161) (o := .cells #[.int .i64 0, .int .i64 0, .int .i64 0, .int .i64 0] 35 (0, 0)) (by (with_reducible repeat (first | refine blk_drewN ?_ _ | refine blk_drew ?_ | refine blk_alloc ?_ _)); exact BK161.out)) : gb173 ≠ gb161)); have n12_ := Aside0.mk ((by rw [hg]; exact Nat.ne_of_lt (blk_lt (g := gb162) (o := .cells #[.int .i64 0, .int .i64 0] 32 (0, 0)) (by (with_reducible repeat (first | refine blk_drewN ?_ _ | refine blk_drew ?_ | refine blk_alloc ?_ _)); exact BK162.out)) : gb162 ≠ gb173)); have n13_ := Aside0.mk ((by rw [hg]; exact Nat.ne_of_gt (blk_lt (g := gb162) (o := .cells #[.int .i64 0, .int .i64 0] 32 (0, 0)) (by (with_reducible repeat (first | refine blk_drewN ?_ _ | refine blk_drew ?_ | refine blk_alloc ?_ _)); exact BK162.out)) : gb173 ≠ gb162)); have n14_ := Aside0.mk ((by rw [hg]; exact Nat.ne_of_lt (IsS161.lt (show IsS161 w _ g166 t163 t171 t172 from by repeat (first | (with_reducible first | exact HI166.out | apply IsS161.alloc | apply IsS161.drewN | apply IsS161.drew | apply IsS161.set_1 | apply IsS161.set_2 | apply IsS161.farB NB166_160.out | apply IsS161.farB NB166_161.out | apply IsS161.farB NB166_162.out) | exact HI166.out))) : g166 ≠ gb173)); have n15_ := Aside0.mk ((by rw [hg]; exact Nat.ne_of_gt (IsS161.lt (show IsS161 w _ g166 t163 t171 t172 from by repeat (first | (with_reducible first | exact HI166.out | apply IsS161.alloc | apply IsS161.drewN | apply IsS161.drew | apply IsS161.set_1 | apply IsS161.set_2 | apply IsS161.farB NB166_160.out | apply IsS161.farB NB166_161.out | apply IsS161.farB NB166_162.out) | exact HI166.out))) : gb173 ≠ g166)); clear BK160; clear BK161; clear BK162; clear HI166; clear HB; have BK160 := n0_; have BK161 := n1_; have BK162 := n2_; have HI166 := n3_; have HB := n4_; have BK173 := n5_; have GW173 := n6_; have GE173 := n7_; have NB160_173 := n8_; have NB173_160 := n9_; have NB161_173 := n10_; have NB173_161 := n11_; have NB162_173 := n12_; have NB173_162 := n13_; have NB166_173 := n14_; have NB173_166 := n15_; clear n0_ n1_ n2_ n3_ n4_ n5_ n6_ n7_ n8_ n9_ n10_ n11_ n12_ n13_ n14_ n15_; clear hb hbox hg; have hnb20 := NB173_160.out; have hnc20 := NB160_173.out; have hnb21 := NB173_161.out; have hnc21 := NB161_173.out; have hnb22 := NB173_162.out; have hnc22 := NB162_173.out; have hnb23 := NB173_166.out; have hnc23 := NB166_173.out; have hcz24_0 : w19.cell? ⟨gb173, 0, none⟩ = some (.int .i64 0) := (blk_cell BK173.out 0).trans rfl; have hcz24_1 : w19.cell? ⟨gb173, 1, none⟩ = some (.int .i64 0) := (blk_cell BK173.out 1).trans rfl; have hcz24_2 : w19.cell? ⟨gb173, 2, none⟩ = some (.int .i64 0) := (blk_cell BK173.out 2).trans rfl; have hcz24_3 : w19.cell? ⟨gb173, 3, none⟩ = some (.int .i64 0) := (blk_cell BK173.out 3).trans rfl; have hfz24_0 := blk_frozen BK173.out 0; have hfz24_1 := blk_frozen BK173.out 1; have hfz24_2 := blk_frozen BK173.out 2; have hfz24_3 := blk_frozen BK173.out 3))
  have n0_ : Aside0 (((((w19.setCell ⟨gb173, 0, none⟩ (.int .i64 t167)).setCell ⟨gb173, 1, none⟩ (.int .i64 t170)).setCell ⟨gb173, 2, none⟩ (.int .i64 0)).setCell ⟨gb173, 3, none⟩ (.int .i64 0)).heap[gb160]? = some (.cells #[.int .i64 0, .int .i64 0, .int .i64 0, .int .i64 0] 35 (0, 0))) := ⟨by (with_reducible repeat (first | refine blk_drewN ?_ _ | refine blk_drew ?_ | refine blk_alloc ?_ _)); refine blk_far ?_ NB160_173.out _; (with_reducible repeat (first | refine blk_drewN ?_ _ | refine blk_drew ?_ | refine blk_alloc ?_ _)); refine blk_far ?_ NB160_173.out _; (with_reducible repeat (first | refine blk_drewN ?_ _ | refine blk_drew ?_ | refine blk_alloc ?_ _)); refine blk_far ?_ NB160_173.out _; (with_reducible repeat (first | refine blk_drewN ?_ _ | refine blk_drew ?_ | refine blk_alloc ?_ _)); refine blk_far ?_ NB160_173.out _; (with_reducible repeat (first | refine blk_drewN ?_ _ | refine blk_drew ?_ | refine blk_alloc ?_ _)); exact BK160.out⟩
  have n1_ : Aside0 (((((w19.setCell ⟨gb173, 0, none⟩ (.int .i64 t167)).setCell ⟨gb173, 1, none⟩ (.int .i64 t170)).setCell ⟨gb173, 2, none⟩ (.int .i64 0)).setCell ⟨gb173, 3, none⟩ (.int .i64 0)).heap[gb161]? = some (.cells #[.int .i64 0, .int .i64 0, .int .i64 0, .int .i64 0] 35 (0, 0))) := ⟨by (with_reducible repeat (first | refine blk_drewN ?_ _ | refine blk_drew ?_ | refine blk_alloc ?_ _)); refine blk_far ?_ NB161_173.out _; (with_reducible repeat (first | refine blk_drewN ?_ _ | refine blk_drew ?_ | refine blk_alloc ?_ _)); refine blk_far ?_ NB161_173.out _; (with_reducible repeat (first | refine blk_drewN ?_ _ | refine blk_drew ?_ | refine blk_alloc ?_ _)); refine blk_far ?_ NB161_173.out _; (with_reducible repeat (first | refine blk_drewN ?_ _ | refine blk_drew ?_ | refine blk_alloc ?_ _)); refine blk_far ?_ NB161_173.out _; (with_reducible repeat (first | refine blk_drewN ?_ _ | refine blk_drew ?_ | refine blk_alloc ?_ _)); exact BK161.out⟩
  have n2_ : Aside0 (((((w19.setCell ⟨gb173, 0, none⟩ (.int .i64 t167)).setCell ⟨gb173, 1, none⟩ (.int .i64 t170)).setCell ⟨gb173, 2, none⟩ (.int .i64 0)).setCell ⟨gb173, 3, none⟩ (.int .i64 0)).heap[gb162]? = some (.cells #[.int .i64 0, .int .i64 0] 32 (0, 0))) := ⟨by (with_reducible repeat (first | refine blk_drewN ?_ _ | refine blk_drew ?_ | refine blk_alloc ?_ _)); refine blk_far ?_ NB162_173.out _; (with_reducible repeat (first | refine blk_drewN ?_ _ | refine blk_drew ?_ | refine blk_alloc ?_ _)); refine blk_far ?_ NB162_173.out _; (with_reducible repeat (first | refine blk_drewN ?_ _ | refine blk_drew ?_ | refine blk_alloc ?_ _)); refine blk_far ?_ NB162_173.out _; (with_reducible repeat (first | refine blk_drewN ?_ _ | refine blk_drew ?_ | refine blk_alloc ?_ _)); refine blk_far ?_ NB162_173.out _; (with_reducible repeat (first | refine blk_drewN ?_ _ | refine blk_drew ?_ | refine blk_alloc ?_ _)); exact BK162.out⟩
  have n3_ : Aside0 (((((w19.setCell ⟨gb173, 0, none⟩ (.int .i64 t167)).setCell ⟨gb173, 1, none⟩ (.int .i64 t170)).setCell ⟨gb173, 2, none⟩ (.int .i64 0)).setCell ⟨gb173, 3, none⟩ (.int .i64 0)).heap[gb173]? = some (.cells #[.int .i64 t167, .int .i64 t170, .int .i64 0, .int .i64 0] 35 (0, 0))) := ⟨by (with_reducible repeat (first | refine blk_drewN ?_ _ | refine blk_drew ?_ | refine blk_alloc ?_ _)); refine blk_put (cs := #[.int .i64 t167, .int .i64 t170, .int .i64 0, .int .i64 0]) ?_ 3 _ rfl; (with_reducible repeat (first | refine blk_drewN ?_ _ | refine blk_drew ?_ | refine blk_alloc ?_ _)); refine blk_put (cs := #[.int .i64 t167, .int .i64 t170, .int .i64 0, .int .i64 0]) ?_ 2 _ rfl; (with_reducible repeat (first | refine blk_drewN ?_ _ | refine blk_drew ?_ | refine blk_alloc ?_ _)); refine blk_put (cs := #[.int .i64 t167, .int .i64 0, .int .i64 0, .int .i64 0]) ?_ 1 _ rfl; (with_reducible repeat (first | refine blk_drewN ?_ _ | refine blk_drew ?_ | refine blk_alloc ?_ _)); refine blk_put (cs := #[.int .i64 0, .int .i64 0, .int .i64 0, .int .i64 0]) ?_ 0 _ rfl; (with_reducible repeat (first | refine blk_drewN ?_ _ | refine blk_drew ?_ | refine blk_alloc ?_ _)); exact BK173.out⟩
  have n4_ : Aside0 (IsS161 w ((((w19.setCell ⟨gb173, 0, none⟩ (.int .i64 t167)).setCell ⟨gb173, 1, none⟩ (.int .i64 t170)).setCell ⟨gb173, 2, none⟩ (.int .i64 0)).setCell ⟨gb173, 3, none⟩ (.int .i64 0)) g166 t163 t171 t172) := ⟨by repeat (first | (with_reducible first | exact HI166.out | apply IsS161.alloc | apply IsS161.drewN | apply IsS161.drew | apply IsS161.set_1 | apply IsS161.set_2 | apply IsS161.farB NB166_160.out | apply IsS161.farB NB166_161.out | apply IsS161.farB NB166_162.out | apply IsS161.farB NB166_173.out) | exact HI166.out)⟩
  have n5_ : Aside0 (Below w.heap.size w ((((w19.setCell ⟨gb173, 0, none⟩ (.int .i64 t167)).setCell ⟨gb173, 1, none⟩ (.int .i64 t170)).setCell ⟨gb173, 2, none⟩ (.int .i64 0)).setCell ⟨gb173, 3, none⟩ (.int .i64 0))) := ⟨by repeat (first | (with_reducible first | exact HB.out | apply below_alloc | apply pw_below_drewN | apply below_drew1 | refine below_set ?_ (IsS161.ge HI166.out) | refine below_set ?_ GE160.out | refine below_set ?_ GE161.out | refine below_set ?_ GE162.out | refine below_set ?_ GE173.out) | exact HB.out)⟩
  (try clear BK160)
  (try clear BK161)
  (try clear BK162)
  (try clear BK173)
  (try clear HI166)
  (try clear HB)
  generalize ((((w19.setCell ⟨gb173, 0, none⟩ (.int .i64 t167)).setCell ⟨gb173, 1, none⟩ (.int .i64 t170)).setCell ⟨gb173, 2, none⟩ (.int .i64 0)).setCell ⟨gb173, 3, none⟩ (.int .i64 0)) = w25 at n0_ n1_ n2_ n3_ n4_ n5_ ⊢
  have BK160 := n0_
  have BK161 := n1_
  have BK162 := n2_
  have BK173 := n3_
  have HI166 := n4_
  have HB := n5_
  clear n0_ n1_ n2_ n3_ n4_ n5_
  have n0_ := Aside0.mk (blk_drew BK160.out)
  have n1_ := Aside0.mk (blk_drew BK161.out)
  have n2_ := Aside0.mk (blk_drew BK162.out)
  have n3_ := Aside0.mk (blk_drew BK173.out)
  have n4_ := Aside0.mk (IsS161.drew HI166.out)
  have n5_ := Aside0.mk (below_drew1 HB.out)
  clear BK160
  clear BK161
  clear BK162
  clear BK173
  clear HI166
  clear HB
  have BK160 := n0_
  have BK161 := n1_
  have BK162 := n2_
  have BK173 := n3_
  have HI166 := n4_
  have HB := n5_
  clear n0_ n1_ n2_ n3_ n4_ n5_
  refine start_ (n := 7) (S := fun w' => w'.cell? ⟨gb173, 0, none⟩ = some (.int .i64 t167) ∧ w'.cell? ⟨gb173, 1, none⟩ = some (.int .i64 t170) ∧ w'.cell? ⟨gb173, 2, none⟩ = some (.int .i64 0) ∧ w'.cell? ⟨gb173, 3, none⟩ = some (.int .i64 0)) (ds := [6]) #[false, false, false, false, false, false, false] (by kernel_rfl) rfl rfl ⟨(blk_cell BK173.out 0).trans rfl, (blk_cell BK173.out 1).trans rfl, (blk_cell BK173.out 2).trans rfl, (blk_cell BK173.out 3).trans rfl⟩ (fun hHeld => ?_)
  generalize w25.drew = w26 at BK160 BK161 BK162 BK173 HI166 HB hHeld ⊢
  refine pure_ (i := 0) (N := some 15) (v := ?_) (a' := ?_) #[true, false, false, false, false, false, false] rfl rfl (by kernel_rfl) (fun _ _ _ h => h) (Or.inl ⟨by rfl, ?_⟩) ?_ ?_
  rotate_left
  · intro w'
    go_simp
    with_reducible rfl
  rotate_left
  · simp only [Act.put, List.setIfInBounds_toArray, List.set_cons_zero, List.set_cons_succ, i64_w, i32_w]
    rfl
  refine pure_ (i := 2) (N := some 17) (v := ?_) (a' := ?_) #[true, false, true, false, false, false, false] rfl rfl (by kernel_rfl) (fun _ _ _ h => h) (Or.inl ⟨by rfl, ?_⟩) ?_ ?_
  rotate_left
  · intro w'
    go_simp
    with_reducible rfl
  rotate_left
  · simp only [Act.put, List.setIfInBounds_toArray, List.set_cons_zero, List.set_cons_succ, i64_w, i32_w]
    rfl
  refine take_ (i := 1) (N := some 16) (v := ?_) (a' := ?_) #[true, true, true, false, false, false, false] rfl rfl (by kernel_rfl) (fun _ _ _ h => h) (Or.inl ⟨by rfl, ?_⟩) hHeld ?_ ?_
  rotate_left
  · rintro w' ⟨s0, s1, s2, s3⟩
    go_simp
    with_reducible rfl
  rotate_left
  · simp only [Act.put, List.setIfInBounds_toArray, List.set_cons_zero, List.set_cons_succ, i64_w, i32_w]
    rfl
  refine one_ (i := 3) (N := some 18) #[true, true, true, true, false, false, false] rfl rfl (by kernel_rfl) (by decide) (fun K hK => ?_)
  refine goes_ Try.func81 (by kernel_rfl) rfl #[.pointer (some ⟨g166, 0, none⟩), .int .i64 9] (by rfl) rfl rfl (by (try simp only [List.map_toArray, List.map_cons, List.map_nil]); first | done | rfl | (simp only [List.length_drop, List.length_take]; rfl)) ?_
  with_reducible refine (spec_l01Below.calls g166 t163 t171 t172 9 t174 t175 t176 w _ ?side1 ?side2 A5.out).mono ?_
  (case side1 => repeat (first | (with_reducible first | exact HI166.out | apply IsS161.alloc | apply IsS161.drewN | apply IsS161.drew | apply IsS161.set_1 | apply IsS161.set_2 | apply IsS161.farB NB166_160.out | apply IsS161.farB NB166_161.out | apply IsS161.farB NB166_162.out | apply IsS161.farB NB166_173.out) | exact HI166.out))
  (case side2 => repeat (first | (with_reducible first | exact HB.out | apply below_alloc | apply pw_below_drewN | apply below_drew1 | refine below_set ?_ (IsS161.ge HI166.out) | refine below_set ?_ GE160.out | refine below_set ?_ GE161.out | refine below_set ?_ GE162.out | refine below_set ?_ GE173.out) | exact HB.out))
  rintro e w27 ⟨rfl, hi, hb, hk⟩
  refine ⟨_, rfl, ?_⟩
  have n0_ := Aside0.mk (KeepBut.blk hk (g' := gb160) (o := .cells #[.int .i64 0, .int .i64 0, .int .i64 0, .int .i64 0] 35 (0, 0)) (by (with_reducible repeat (first | refine blk_drewN ?_ _ | refine blk_drew ?_ | refine blk_alloc ?_ _)); exact BK160.out) NB160_166.out (by simp))
  have n1_ := Aside0.mk (KeepBut.blk hk (g' := gb161) (o := .cells #[.int .i64 0, .int .i64 0, .int .i64 0, .int .i64 0] 35 (0, 0)) (by (with_reducible repeat (first | refine blk_drewN ?_ _ | refine blk_drew ?_ | refine blk_alloc ?_ _)); exact BK161.out) NB161_166.out (by simp))
  have n2_ := Aside0.mk (KeepBut.blk hk (g' := gb162) (o := .cells #[.int .i64 0, .int .i64 0] 32 (0, 0)) (by (with_reducible repeat (first | refine blk_drewN ?_ _ | refine blk_drew ?_ | refine blk_alloc ?_ _)); exact BK162.out) NB162_166.out (by simp))
  have n3_ := Aside0.mk (KeepBut.blk hk (g' := gb173) (o := .cells #[.int .i64 t167, .int .i64 t170, .int .i64 0, .int .i64 0] 35 (0, 0)) (by (with_reducible repeat (first | refine blk_drewN ?_ _ | refine blk_drew ?_ | refine blk_alloc ?_ _)); exact BK173.out) NB173_166.out (by simp))
  have n4_ := Aside0.mk (hb)
  have n5_ := Aside0.mk (hi)
  clear BK160
  clear BK161
  clear BK162
  clear BK173
  clear HB
  clear HI166
  have BK160 := n0_
  have BK161 := n1_
  have BK162 := n2_
  have BK173 := n3_
  have HB := n4_
  have HI166 := n5_
  clear n0_ n1_ n2_ n3_ n4_ n5_
  (try clear hb)
  (try clear hb2)
  (try clear hk)
  (try clear hi)
  refine hK.out _ _ ⟨(blk_cell BK173.out 0).trans rfl, (blk_cell BK173.out 1).trans rfl, (blk_cell BK173.out 2).trans rfl, (blk_cell BK173.out 3).trans rfl⟩ (fun hHeld => ?_)
  clear hK K
  refine norm_ (a' := ?_) ?_ ?_
  rotate_left
  · show Act.put _ (some 18) _ = _
    simp only [Act.put, List.setIfInBounds_toArray, List.set_cons_zero, List.set_cons_succ, i64_w, i32_w]
    rfl
  refine pure_ (i := 4) (N := some 19) (v := ?_) (a' := ?_) #[true, true, true, true, true, false, false] rfl rfl (by kernel_rfl) (fun _ _ _ h => h) (Or.inl ⟨by rfl, ?_⟩) ?_ ?_
  rotate_left
  · intro w'
    go_simp
    with_reducible rfl
  rotate_left
  · simp only [Act.put, List.setIfInBounds_toArray, List.set_cons_zero, List.set_cons_succ, i64_w, i32_w]
    rfl
  refine pure_ (i := 5) (N := some 20) (v := ?_) (a' := ?_) #[true, true, true, true, true, true, false] rfl rfl (by kernel_rfl) (fun _ _ _ h => h) (Or.inl ⟨by rfl, ?_⟩) ?_ ?_
  rotate_left
  · intro w'
    go_simp
    with_reducible rfl
  rotate_left
  · simp only [Act.put, List.setIfInBounds_toArray, List.set_cons_zero, List.set_cons_succ, i64_w, i32_w]
    rfl
  refine last_ (i := 6) (N := none) #[true, true, true, true, true, true, true] rfl rfl (by kernel_rfl) (by decide) (fun K hK => ?_)
  have hs28 : w27.cell? ⟨gb173, 2, none⟩ = some (.int .i64 0) := (blk_cell BK173.out 2).trans rfl
  have hfs28 := blk_frozen BK173.out 2
  have hns28_0 := NB160_173.out
  have hns28_1 := NB161_173.out
  have hns28_2 := NB162_173.out
  have hms28_0 := NB173_160.out
  have hms28_1 := NB173_161.out
  have hms28_2 := NB173_162.out
  refine skip_ (w1 := ?_) ?hwx ?hN ?_ ?_; (case hwx => rfl); (case hN => rfl)
  rotate_left
  · go_simp
    rfl
  refine hK.out _ _ ?_
  clear hK K
  refine done_ (by kernel_rfl) ?_
  try go_wp2
  have n0_ : Aside0 ((w27.setCell ⟨gb173, 2, none⟩ (.int .i64 (wrap64 (t167 + t174)))).heap[gb160]? = some (.cells #[.int .i64 0, .int .i64 0, .int .i64 0, .int .i64 0] 35 (0, 0))) := ⟨by (with_reducible repeat (first | refine blk_drewN ?_ _ | refine blk_drew ?_ | refine blk_alloc ?_ _)); refine blk_far ?_ NB160_173.out _; (with_reducible repeat (first | refine blk_drewN ?_ _ | refine blk_drew ?_ | refine blk_alloc ?_ _)); exact BK160.out⟩
  have n1_ : Aside0 ((w27.setCell ⟨gb173, 2, none⟩ (.int .i64 (wrap64 (t167 + t174)))).heap[gb161]? = some (.cells #[.int .i64 0, .int .i64 0, .int .i64 0, .int .i64 0] 35 (0, 0))) := ⟨by (with_reducible repeat (first | refine blk_drewN ?_ _ | refine blk_drew ?_ | refine blk_alloc ?_ _)); refine blk_far ?_ NB161_173.out _; (with_reducible repeat (first | refine blk_drewN ?_ _ | refine blk_drew ?_ | refine blk_alloc ?_ _)); exact BK161.out⟩
  have n2_ : Aside0 ((w27.setCell ⟨gb173, 2, none⟩ (.int .i64 (wrap64 (t167 + t174)))).heap[gb162]? = some (.cells #[.int .i64 0, .int .i64 0] 32 (0, 0))) := ⟨by (with_reducible repeat (first | refine blk_drewN ?_ _ | refine blk_drew ?_ | refine blk_alloc ?_ _)); refine blk_far ?_ NB162_173.out _; (with_reducible repeat (first | refine blk_drewN ?_ _ | refine blk_drew ?_ | refine blk_alloc ?_ _)); exact BK162.out⟩
  have n3_ : Aside0 ((w27.setCell ⟨gb173, 2, none⟩ (.int .i64 (wrap64 (t167 + t174)))).heap[gb173]? = some (.cells #[.int .i64 t167, .int .i64 t170, .int .i64 (wrap64 (t167 + t174)), .int .i64 0] 35 (0, 0))) := ⟨by (with_reducible repeat (first | refine blk_drewN ?_ _ | refine blk_drew ?_ | refine blk_alloc ?_ _)); refine blk_put (cs := #[.int .i64 t167, .int .i64 t170, .int .i64 0, .int .i64 0]) ?_ 2 _ rfl; (with_reducible repeat (first | refine blk_drewN ?_ _ | refine blk_drew ?_ | refine blk_alloc ?_ _)); exact BK173.out⟩
  have n4_ : Aside0 (IsS161 w (w27.setCell ⟨gb173, 2, none⟩ (.int .i64 (wrap64 (t167 + t174)))) g166 t163 t175 t176) := ⟨by repeat (first | (with_reducible first | exact HI166.out | apply IsS161.alloc | apply IsS161.drewN | apply IsS161.drew | apply IsS161.set_1 | apply IsS161.set_2 | apply IsS161.farB NB166_160.out | apply IsS161.farB NB166_161.out | apply IsS161.farB NB166_162.out | apply IsS161.farB NB166_173.out) | exact HI166.out)⟩
  have n5_ : Aside0 (Below w.heap.size w (w27.setCell ⟨gb173, 2, none⟩ (.int .i64 (wrap64 (t167 + t174))))) := ⟨by repeat (first | (with_reducible first | exact HB.out | apply below_alloc | apply pw_below_drewN | apply below_drew1 | refine below_set ?_ (IsS161.ge HI166.out) | refine below_set ?_ GE160.out | refine below_set ?_ GE161.out | refine below_set ?_ GE162.out | refine below_set ?_ GE173.out) | exact HB.out)⟩
  (try clear BK160)
  (try clear BK161)
  (try clear BK162)
  (try clear BK173)
  (try clear HI166)
  (try clear HB)
  generalize (w27.setCell ⟨gb173, 2, none⟩ (.int .i64 (wrap64 (t167 + t174)))) = w29 at n0_ n1_ n2_ n3_ n4_ n5_ ⊢
  have BK160 := n0_
  have BK161 := n1_
  have BK162 := n2_
  have BK173 := n3_
  have HI166 := n4_
  have HB := n5_
  clear n0_ n1_ n2_ n3_ n4_ n5_
  have n0_ := Aside0.mk (blk_drew BK160.out)
  have n1_ := Aside0.mk (blk_drew BK161.out)
  have n2_ := Aside0.mk (blk_drew BK162.out)
  have n3_ := Aside0.mk (blk_drew BK173.out)
  have n4_ := Aside0.mk (IsS161.drew HI166.out)
  have n5_ := Aside0.mk (below_drew1 HB.out)
  clear BK160
  clear BK161
  clear BK162
  clear BK173
  clear HI166
  clear HB
  have BK160 := n0_
  have BK161 := n1_
  have BK162 := n2_
  have BK173 := n3_
  have HI166 := n4_
  have HB := n5_
  clear n0_ n1_ n2_ n3_ n4_ n5_
  refine start_ (n := 7) (S := fun w' => w'.cell? ⟨gb173, 0, none⟩ = some (.int .i64 t167) ∧ w'.cell? ⟨gb173, 1, none⟩ = some (.int .i64 t170) ∧ w'.cell? ⟨gb173, 2, none⟩ = some (.int .i64 (wrap64 (t167 + t174))) ∧ w'.cell? ⟨gb173, 3, none⟩ = some (.int .i64 0)) (ds := [6]) #[false, false, false, false, false, false, false] (by kernel_rfl) rfl rfl ⟨(blk_cell BK173.out 0).trans rfl, (blk_cell BK173.out 1).trans rfl, (blk_cell BK173.out 2).trans rfl, (blk_cell BK173.out 3).trans rfl⟩ (fun hHeld => ?_)
  generalize w29.drew = w30 at BK160 BK161 BK162 BK173 HI166 HB hHeld ⊢
  refine pure_ (i := 0) (N := some 21) (v := ?_) (a' := ?_) #[true, false, false, false, false, false, false] rfl rfl (by kernel_rfl) (fun _ _ _ h => h) (Or.inl ⟨by rfl, ?_⟩) ?_ ?_
  rotate_left
  · intro w'
    go_simp
    with_reducible rfl
  rotate_left
  · simp only [Act.put, List.setIfInBounds_toArray, List.set_cons_zero, List.set_cons_succ, i64_w, i32_w]
    rfl
  refine pure_ (i := 2) (N := some 23) (v := ?_) (a' := ?_) #[true, false, true, false, false, false, false] rfl rfl (by kernel_rfl) (fun _ _ _ h => h) (Or.inl ⟨by rfl, ?_⟩) ?_ ?_
  rotate_left
  · intro w'
    go_simp
    with_reducible rfl
  rotate_left
  · simp only [Act.put, List.setIfInBounds_toArray, List.set_cons_zero, List.set_cons_succ, i64_w, i32_w]
    rfl
  refine take_ (i := 1) (N := some 22) (v := ?_) (a' := ?_) #[true, true, true, false, false, false, false] rfl rfl (by kernel_rfl) (fun _ _ _ h => h) (Or.inl ⟨by rfl, ?_⟩) hHeld ?_ ?_
  rotate_left
  · rintro w' ⟨s0, s1, s2, s3⟩
    go_simp
    with_reducible rfl
  rotate_left
  · simp only [Act.put, List.setIfInBounds_toArray, List.set_cons_zero, List.set_cons_succ, i64_w, i32_w]
    rfl
  refine one_ (i := 3) (N := some 24) #[true, true, true, true, false, false, false] rfl rfl (by kernel_rfl) (by decide) (fun K hK => ?_)
  refine goes_ Try.func81 (by kernel_rfl) rfl #[.pointer (some ⟨g166, 0, none⟩), .int .i64 9] (by rfl) rfl rfl (by (try simp only [List.map_toArray, List.map_cons, List.map_nil]); first | done | rfl | (simp only [List.length_drop, List.length_take]; rfl)) ?_
  with_reducible refine (spec_l01Below.calls g166 t163 t175 t176 9 t177 t178 t179 w _ ?side1 ?side2 A6.out).mono ?_
  (case side1 => repeat (first | (with_reducible first | exact HI166.out | apply IsS161.alloc | apply IsS161.drewN | apply IsS161.drew | apply IsS161.set_1 | apply IsS161.set_2 | apply IsS161.farB NB166_160.out | apply IsS161.farB NB166_161.out | apply IsS161.farB NB166_162.out | apply IsS161.farB NB166_173.out) | exact HI166.out))
  (case side2 => repeat (first | (with_reducible first | exact HB.out | apply below_alloc | apply pw_below_drewN | apply below_drew1 | refine below_set ?_ (IsS161.ge HI166.out) | refine below_set ?_ GE160.out | refine below_set ?_ GE161.out | refine below_set ?_ GE162.out | refine below_set ?_ GE173.out) | exact HB.out))
  rintro e w31 ⟨rfl, hi, hb, hk⟩
  refine ⟨_, rfl, ?_⟩
  have n0_ := Aside0.mk (KeepBut.blk hk (g' := gb160) (o := .cells #[.int .i64 0, .int .i64 0, .int .i64 0, .int .i64 0] 35 (0, 0)) (by (with_reducible repeat (first | refine blk_drewN ?_ _ | refine blk_drew ?_ | refine blk_alloc ?_ _)); exact BK160.out) NB160_166.out (by simp))
  have n1_ := Aside0.mk (KeepBut.blk hk (g' := gb161) (o := .cells #[.int .i64 0, .int .i64 0, .int .i64 0, .int .i64 0] 35 (0, 0)) (by (with_reducible repeat (first | refine blk_drewN ?_ _ | refine blk_drew ?_ | refine blk_alloc ?_ _)); exact BK161.out) NB161_166.out (by simp))
  have n2_ := Aside0.mk (KeepBut.blk hk (g' := gb162) (o := .cells #[.int .i64 0, .int .i64 0] 32 (0, 0)) (by (with_reducible repeat (first | refine blk_drewN ?_ _ | refine blk_drew ?_ | refine blk_alloc ?_ _)); exact BK162.out) NB162_166.out (by simp))
  have n3_ := Aside0.mk (KeepBut.blk hk (g' := gb173) (o := .cells #[.int .i64 t167, .int .i64 t170, .int .i64 (wrap64 (t167 + t174)), .int .i64 0] 35 (0, 0)) (by (with_reducible repeat (first | refine blk_drewN ?_ _ | refine blk_drew ?_ | refine blk_alloc ?_ _)); exact BK173.out) NB173_166.out (by simp))
  have n4_ := Aside0.mk (hb)
  have n5_ := Aside0.mk (hi)
  clear BK160
  clear BK161
  clear BK162
  clear BK173
  clear HB
  clear HI166
  have BK160 := n0_
  have BK161 := n1_
  have BK162 := n2_
  have BK173 := n3_
  have HB := n4_
  have HI166 := n5_
  clear n0_ n1_ n2_ n3_ n4_ n5_
  (try clear hb)
  (try clear hb2)
  (try clear hk)
  (try clear hi)
  refine hK.out _ _ ⟨(blk_cell BK173.out 0).trans rfl, (blk_cell BK173.out 1).trans rfl, (blk_cell BK173.out 2).trans rfl, (blk_cell BK173.out 3).trans rfl⟩ (fun hHeld => ?_)
  clear hK K
  refine norm_ (a' := ?_) ?_ ?_
  rotate_left
  · show Act.put _ (some 24) _ = _
    simp only [Act.put, List.setIfInBounds_toArray, List.set_cons_zero, List.set_cons_succ, i64_w, i32_w]
    rfl
  refine pure_ (i := 4) (N := some 25) (v := ?_) (a' := ?_) #[true, true, true, true, true, false, false] rfl rfl (by kernel_rfl) (fun _ _ _ h => h) (Or.inl ⟨by rfl, ?_⟩) ?_ ?_
  rotate_left
  · intro w'
    go_simp
    with_reducible rfl
  rotate_left
  · simp only [Act.put, List.setIfInBounds_toArray, List.set_cons_zero, List.set_cons_succ, i64_w, i32_w]
    rfl
  refine pure_ (i := 5) (N := some 26) (v := ?_) (a' := ?_) #[true, true, true, true, true, true, false] rfl rfl (by kernel_rfl) (fun _ _ _ h => h) (Or.inl ⟨by rfl, ?_⟩) ?_ ?_
  rotate_left
  · intro w'
    go_simp
    with_reducible rfl
  rotate_left
  · simp only [Act.put, List.setIfInBounds_toArray, List.set_cons_zero, List.set_cons_succ, i64_w, i32_w]
    rfl
  refine last_ (i := 6) (N := none) #[true, true, true, true, true, true, true] rfl rfl (by kernel_rfl) (by decide) (fun K hK => ?_)
  have hs32 : w31.cell? ⟨gb173, 3, none⟩ = some (.int .i64 0) := (blk_cell BK173.out 3).trans rfl
  have hfs32 := blk_frozen BK173.out 3
  have hns32_0 := NB160_173.out
  have hns32_1 := NB161_173.out
  have hns32_2 := NB162_173.out
  have hms32_0 := NB173_160.out
  have hms32_1 := NB173_161.out
  have hms32_2 := NB173_162.out
  refine skip_ (w1 := ?_) ?hwx ?hN ?_ ?_; (case hwx => rfl); (case hN => rfl)
  rotate_left
  · go_simp
    rfl
  refine hK.out _ _ ?_
  clear hK K
  refine done_ (by kernel_rfl) ?_
  try go_wp2_with (first | ((with_reducible refine gate_callee (f := 81) rfl ?_); refine goesL_ (some 28) rfl rfl Try.func81 (by kernel_rfl) rfl #[.pointer (some ⟨g166, 0, none⟩), .int .i64 9] rfl (by (try simp only [List.map_toArray, List.map_cons, List.map_nil]); first | done | rfl | (simp only [List.length_drop, List.length_take]; rfl)) ?_; (with_reducible refine (spec_l01Below.calls g166 t163 t178 t179 9 t180 t181 t182 w _ ?side1 ?side2 A7.out).mono ?_); (case side1 => repeat (first | (with_reducible first | exact HI166.out | apply IsS161.alloc | apply IsS161.drewN | apply IsS161.drew | apply IsS161.set_1 | apply IsS161.set_2 | apply IsS161.farB NB166_160.out | apply IsS161.farB NB166_161.out | apply IsS161.farB NB166_162.out | apply IsS161.farB NB166_173.out) | exact HI166.out)); (case side2 => repeat (first | (with_reducible first | exact HB.out | apply below_alloc | apply pw_below_drewN | apply below_drew1 | refine below_set ?_ (IsS161.ge HI166.out) | refine below_set ?_ GE160.out | refine below_set ?_ GE161.out | refine below_set ?_ GE162.out | refine below_set ?_ GE173.out) | exact HB.out)); rintro e w33 ⟨rfl, hi, hb, hk⟩; refine ⟨_, rfl, ?_⟩; have n0_ := Aside0.mk (KeepBut.blk hk (g' := gb160) (o := .cells #[.int .i64 0, .int .i64 0, .int .i64 0, .int .i64 0] 35 (0, 0)) (by (with_reducible repeat (first | refine blk_drewN ?_ _ | refine blk_drew ?_ | refine blk_alloc ?_ _)); refine blk_far ?_ NB160_173.out _; (with_reducible repeat (first | refine blk_drewN ?_ _ | refine blk_drew ?_ | refine blk_alloc ?_ _)); exact BK160.out) NB160_166.out (by simp)); have n1_ := Aside0.mk (KeepBut.blk hk (g' := gb161) (o := .cells #[.int .i64 0, .int .i64 0, .int .i64 0, .int .i64 0] 35 (0, 0)) (by (with_reducible repeat (first | refine blk_drewN ?_ _ | refine blk_drew ?_ | refine blk_alloc ?_ _)); refine blk_far ?_ NB161_173.out _; (with_reducible repeat (first | refine blk_drewN ?_ _ | refine blk_drew ?_ | refine blk_alloc ?_ _)); exact BK161.out) NB161_166.out (by simp)); have n2_ := Aside0.mk (KeepBut.blk hk (g' := gb162) (o := .cells #[.int .i64 0, .int .i64 0] 32 (0, 0)) (by (with_reducible repeat (first | refine blk_drewN ?_ _ | refine blk_drew ?_ | refine blk_alloc ?_ _)); refine blk_far ?_ NB162_173.out _; (with_reducible repeat (first | refine blk_drewN ?_ _ | refine blk_drew ?_ | refine blk_alloc ?_ _)); exact BK162.out) NB162_166.out (by simp)); have n3_ := Aside0.mk (KeepBut.blk hk (g' := gb173) (o := .cells #[.int .i64 t167, .int .i64 t170, .int .i64 (wrap64 (t167 + t174)), .int .i64 (wrap64 (t170 + t177))] 35 (0, 0)) (by apply blk_fin; (focus ((with_reducible repeat (first | apply blk_putQ | refine blk_drewN ?_ _ | refine blk_drew ?_ | refine blk_alloc ?_ _)); exact BK173.out)); first | (simp only [List.setIfInBounds_toArray, List.set_cons_zero, List.set_cons_succ]; done) | rfl) NB173_166.out (by simp)); have n4_ := Aside0.mk (hb); have n5_ := Aside0.mk (hi); clear BK160; clear BK161; clear BK162; clear BK173; clear HB; clear HI166; have BK160 := n0_; have BK161 := n1_; have BK162 := n2_; have BK173 := n3_; have HB := n4_; have HI166 := n5_; clear n0_ n1_ n2_ n3_ n4_ n5_; (try clear hb); (try clear hb2); (try clear hk); (try clear hi)) | ((with_reducible refine gate_callee (f := 81) rfl ?_); refine goesL_ (some 30) rfl rfl Try.func81 (by kernel_rfl) rfl #[.pointer (some ⟨g166, 0, none⟩), .int .i64 9] rfl (by (try simp only [List.map_toArray, List.map_cons, List.map_nil]); first | done | rfl | (simp only [List.length_drop, List.length_take]; rfl)) ?_; (with_reducible refine (spec_l01Below.calls g166 t163 t181 t182 9 t183 t184 t185 w _ ?side1 ?side2 A8.out).mono ?_); (case side1 => repeat (first | (with_reducible first | exact HI166.out | apply IsS161.alloc | apply IsS161.drewN | apply IsS161.drew | apply IsS161.set_1 | apply IsS161.set_2 | apply IsS161.farB NB166_160.out | apply IsS161.farB NB166_161.out | apply IsS161.farB NB166_162.out | apply IsS161.farB NB166_173.out) | exact HI166.out)); (case side2 => repeat (first | (with_reducible first | exact HB.out | apply below_alloc | apply pw_below_drewN | apply below_drew1 | refine below_set ?_ (IsS161.ge HI166.out) | refine below_set ?_ GE160.out | refine below_set ?_ GE161.out | refine below_set ?_ GE162.out | refine below_set ?_ GE173.out) | exact HB.out)); rintro e w34 ⟨rfl, hi, hb, hk⟩; refine ⟨_, rfl, ?_⟩; have n0_ := Aside0.mk (KeepBut.blk hk (g' := gb160) (o := .cells #[.int .i64 0, .int .i64 0, .int .i64 0, .int .i64 0] 35 (0, 0)) (by (with_reducible repeat (first | refine blk_drewN ?_ _ | refine blk_drew ?_ | refine blk_alloc ?_ _)); exact BK160.out) NB160_166.out (by simp)); have n1_ := Aside0.mk (KeepBut.blk hk (g' := gb161) (o := .cells #[.int .i64 0, .int .i64 0, .int .i64 0, .int .i64 0] 35 (0, 0)) (by (with_reducible repeat (first | refine blk_drewN ?_ _ | refine blk_drew ?_ | refine blk_alloc ?_ _)); exact BK161.out) NB161_166.out (by simp)); have n2_ := Aside0.mk (KeepBut.blk hk (g' := gb162) (o := .cells #[.int .i64 0, .int .i64 0] 32 (0, 0)) (by (with_reducible repeat (first | refine blk_drewN ?_ _ | refine blk_drew ?_ | refine blk_alloc ?_ _)); exact BK162.out) NB162_166.out (by simp)); have n3_ := Aside0.mk (KeepBut.blk hk (g' := gb173) (o := .cells #[.int .i64 t167, .int .i64 t170, .int .i64 (wrap64 (t167 + t174)), .int .i64 (wrap64 (t170 + t177))] 35 (0, 0)) (by (with_reducible repeat (first | refine blk_drewN ?_ _ | refine blk_drew ?_ | refine blk_alloc ?_ _)); exact BK173.out) NB173_166.out (by simp)); have n4_ := Aside0.mk (hb); have n5_ := Aside0.mk (hi); clear BK160; clear BK161; clear BK162; clear BK173; clear HB; clear HI166; have BK160 := n0_; have BK161 := n1_; have BK162 := n2_; have BK173 := n3_; have HB := n4_; have HI166 := n5_; clear n0_ n1_ n2_ n3_ n4_ n5_; (try clear hb); (try clear hb2); (try clear hk); (try clear hi)) | ((with_reducible refine gate_dst (N := 7) rfl ?_); refine box_event ?hg (N := 7) ?hd (cs := #[.int .i64 0, .int .i64 0, .int .i64 0, .int .i64 0]) (t := 35) ?hr ?_; (case hd => rfl); (case hg => rfl); (case hr => first | (go_simp; done) | (go_simp; rfl)); intro gb186 hg w35 hbox hb; have n0_ := Aside0.mk (blk_below (g := gb160) (o := .cells #[.int .i64 0, .int .i64 0, .int .i64 0, .int .i64 0] 35 (0, 0)) (by (with_reducible repeat (first | refine blk_drewN ?_ _ | refine blk_drew ?_ | refine blk_alloc ?_ _)); exact BK160.out) hb); have n1_ := Aside0.mk (blk_below (g := gb161) (o := .cells #[.int .i64 0, .int .i64 0, .int .i64 0, .int .i64 0] 35 (0, 0)) (by (with_reducible repeat (first | refine blk_drewN ?_ _ | refine blk_drew ?_ | refine blk_alloc ?_ _)); exact BK161.out) hb); have n2_ := Aside0.mk (blk_below (g := gb162) (o := .cells #[.int .i64 0, .int .i64 0] 32 (0, 0)) (by (with_reducible repeat (first | refine blk_drewN ?_ _ | refine blk_drew ?_ | refine blk_alloc ?_ _)); exact BK162.out) hb); have n3_ := Aside0.mk (IsS161.below (by repeat (first | (with_reducible first | exact HI166.out | apply IsS161.alloc | apply IsS161.drewN | apply IsS161.drew | apply IsS161.set_1 | apply IsS161.set_2 | apply IsS161.farB NB166_160.out | apply IsS161.farB NB166_161.out | apply IsS161.farB NB166_162.out | apply IsS161.farB NB166_173.out) | exact HI166.out)) hb); have n4_ := Aside0.mk (blk_below (g := gb173) (o := .cells #[.int .i64 t167, .int .i64 t170, .int .i64 (wrap64 (t167 + t174)), .int .i64 (wrap64 (t170 + t177))] 35 (0, 0)) (by (with_reducible repeat (first | refine blk_drewN ?_ _ | refine blk_drew ?_ | refine blk_alloc ?_ _)); exact BK173.out) hb); have n5_ := Aside0.mk (below_step (by repeat (first | (with_reducible first | exact HB.out | apply below_alloc | apply pw_below_drewN | apply below_drew1 | refine below_set ?_ (IsS161.ge HI166.out) | refine below_set ?_ GE160.out | refine below_set ?_ GE161.out | refine below_set ?_ GE162.out | refine below_set ?_ GE173.out) | exact HB.out)) hb); have n6_ := Aside0.mk (hbox); have n7_ := Aside0.mk ((by rw [hg]; exact (below_size (by repeat (first | (with_reducible first | exact HB.out | apply below_alloc | apply pw_below_drewN | apply below_drew1 | refine below_set ?_ (IsS161.ge HI166.out) | refine below_set ?_ GE160.out | refine below_set ?_ GE161.out | refine below_set ?_ GE162.out | refine below_set ?_ GE173.out) | exact HB.out))) : w.heap.size ≤ gb186)); have n8_ := Aside0.mk ((by rw [hg]; exact (below_size (by repeat (first | (with_reducible first | exact HB.out | apply below_alloc | apply pw_below_drewN | apply below_drew1 | refine below_set ?_ (IsS161.ge HI166.out) | refine below_set ?_ GE160.out | refine below_set ?_ GE161.out | refine below_set ?_ GE162.out | refine below_set ?_ GE173.out) | exact HB.out))) : w.heap.size ≤ gb186)); have n9_ := Aside0.mk ((by rw [hg]; exact Nat.ne_of_lt (blk_lt (g := gb160) (o := .cells #[.int .i64 0, .int .i64 0, .int .i64 0, .int .i64 0] 35 (0, 0)) (by (with_reducible repeat (first | refine blk_drewN ?_ _ | refine blk_drew ?_ | refine blk_alloc ?_ _)); exact BK160.out)) : gb160 ≠ gb186)); have n10_ := Aside0.mk ((by rw [hg]; exact Nat.ne_of_gt (blk_lt (g := gb160) (o := .cells #[.int .i64 0, .int .i64 0, .int .i64 0, .int .i64 0] 35 (0, 0)) (by (with_reducible repeat (first | refine blk_drewN ?_ _ | refine blk_drew ?_ | refine blk_alloc ?_ _)); exact BK160.out)) : gb186 ≠ gb160)); have n11_ := Aside0.mk ((by rw [hg]; exact Nat.ne_of_lt (blk_lt (g := gb161) (o := .cells #[.int .i64 0, .int .i64 0, .int .i64 0, .int .i64 0] 35 (0, 0)) (by (with_reducible repeat (first | refine blk_drewN ?_ _ | refine blk_drew ?_ | refine blk_alloc ?_ _)); exact BK161.out)) : gb161 ≠ gb186)); have n12_ := Aside0.mk ((by rw [hg]; exact Nat.ne_of_gt (blk_lt (g := gb161) (o := .cells #[.int .i64 0, .int .i64 0, .int .i64 0, .int .i64 0] 35 (0, 0)) (by (with_reducible repeat (first | refine blk_drewN ?_ _ | refine blk_drew ?_ | refine blk_alloc ?_ _)); exact BK161.out)) : gb186 ≠ gb161)); have n13_ := Aside0.mk ((by rw [hg]; exact Nat.ne_of_lt (blk_lt (g := gb162) (o := .cells #[.int .i64 0, .int .i64 0] 32 (0, 0)) (by (with_reducible repeat (first | refine blk_drewN ?_ _ | refine blk_drew ?_ | refine blk_alloc ?_ _)); exact BK162.out)) : gb162 ≠ gb186)); have n14_ := Aside0.mk ((by rw [hg]; exact Nat.ne_of_gt (blk_lt (g := gb162) (o := .cells #[.int .i64 0, .int .i64 0] 32 (0, 0)) (by (with_reducible repeat (first | refine blk_drewN ?_ _ | refine blk_drew ?_ | refine blk_alloc ?_ _)); exact BK162.out)) : gb186 ≠ gb162)); have n15_ := Aside0.mk ((by rw [hg]; exact Nat.ne_of_lt (blk_lt (g := gb173) (o := .cells #[.int .i64 t167, .int .i64 t170, .int .i64 (wrap64 (t167 + t174)), .int .i64 (wrap64 (t170 + t177))] 35 (0, 0)) (by (with_reducible repeat (first | refine blk_drewN ?_ _ | refine blk_drew ?_ | refine blk_alloc ?_ _)); exact BK173.out)) : gb173 ≠ gb186)); have n16_ := Aside0.mk ((by rw [hg]; exact Nat.ne_of_gt (blk_lt (g := gb173) (o := .cells #[.int .i64 t167, .int .i64 t170, .int .i64 (wrap64 (t167 + t174)), .int .i64 (wrap64 (t170 + t177))] 35 (0, 0)) (by (with_reducible repeat (first | refine blk_drewN ?_ _ | refine blk_drew ?_ | refine blk_alloc ?_ _)); exact BK173.out)) : gb186 ≠ gb173)); have n17_ := Aside0.mk ((by rw [hg]; exact Nat.ne_of_lt (IsS161.lt (show IsS161 w _ g166 t163 t184 t185 from by repeat (first | (with_reducible first | exact HI166.out | apply IsS161.alloc | apply IsS161.drewN | apply IsS161.drew | apply IsS161.set_1 | apply IsS161.set_2 | apply IsS161.farB NB166_160.out | apply IsS161.farB NB166_161.out | apply IsS161.farB NB166_162.out | apply IsS161.farB NB166_173.out) | exact HI166.out))) : g166 ≠ gb186)); have n18_ := Aside0.mk ((by rw [hg]; exact Nat.ne_of_gt (IsS161.lt (show IsS161 w _ g166 t163 t184 t185 from by repeat (first | (with_reducible first | exact HI166.out | apply IsS161.alloc | apply IsS161.drewN | apply IsS161.drew | apply IsS161.set_1 | apply IsS161.set_2 | apply IsS161.farB NB166_160.out | apply IsS161.farB NB166_161.out | apply IsS161.farB NB166_162.out | apply IsS161.farB NB166_173.out) | exact HI166.out))) : gb186 ≠ g166)); clear BK160; clear BK161; clear BK162; clear HI166; clear BK173; clear HB; have BK160 := n0_; have BK161 := n1_; have BK162 := n2_; have HI166 := n3_; have BK173 := n4_; have HB := n5_; have BK186 := n6_; have GW186 := n7_; have GE186 := n8_; have NB160_186 := n9_; have NB186_160 := n10_; have NB161_186 := n11_; have NB186_161 := n12_; have NB162_186 := n13_; have NB186_162 := n14_; have NB173_186 := n15_; have NB186_173 := n16_; have NB166_186 := n17_; have NB186_166 := n18_; clear n0_ n1_ n2_ n3_ n4_ n5_ n6_ n7_ n8_ n9_ n10_ n11_ n12_ n13_ n14_ n15_ n16_ n17_ n18_; clear hb hbox hg; have hnb36 := NB186_160.out; have hnc36 := NB160_186.out; have hnb37 := NB186_161.out; have hnc37 := NB161_186.out; have hnb38 := NB186_162.out; have hnc38 := NB162_186.out; have hnb39 := NB186_173.out; have hnc39 := NB173_186.out; have hnb40 := NB186_166.out; have hnc40 := NB166_186.out; have hcz41_0 : w35.cell? ⟨gb186, 0, none⟩ = some (.int .i64 0) := (blk_cell BK186.out 0).trans rfl; have hcz41_1 : w35.cell? ⟨gb186, 1, none⟩ = some (.int .i64 0) := (blk_cell BK186.out 1).trans rfl; have hcz41_2 : w35.cell? ⟨gb186, 2, none⟩ = some (.int .i64 0) := (blk_cell BK186.out 2).trans rfl; have hcz41_3 : w35.cell? ⟨gb186, 3, none⟩ = some (.int .i64 0) := (blk_cell BK186.out 3).trans rfl; have hfz41_0 := blk_frozen BK186.out 0; have hfz41_1 := blk_frozen BK186.out 1; have hfz41_2 := blk_frozen BK186.out 2; have hfz41_3 := blk_frozen BK186.out 3))
  have n0_ : Aside0 (((((w35.setCell ⟨gb186, 0, none⟩ (.int .i64 t180)).setCell ⟨gb186, 1, none⟩ (.int .i64 t183)).setCell ⟨gb186, 2, none⟩ (.int .i64 0)).setCell ⟨gb186, 3, none⟩ (.int .i64 0)).heap[gb160]? = some (.cells #[.int .i64 0, .int .i64 0, .int .i64 0, .int .i64 0] 35 (0, 0))) := ⟨by (with_reducible repeat (first | refine blk_drewN ?_ _ | refine blk_drew ?_ | refine blk_alloc ?_ _)); refine blk_far ?_ NB160_186.out _; (with_reducible repeat (first | refine blk_drewN ?_ _ | refine blk_drew ?_ | refine blk_alloc ?_ _)); refine blk_far ?_ NB160_186.out _; (with_reducible repeat (first | refine blk_drewN ?_ _ | refine blk_drew ?_ | refine blk_alloc ?_ _)); refine blk_far ?_ NB160_186.out _; (with_reducible repeat (first | refine blk_drewN ?_ _ | refine blk_drew ?_ | refine blk_alloc ?_ _)); refine blk_far ?_ NB160_186.out _; (with_reducible repeat (first | refine blk_drewN ?_ _ | refine blk_drew ?_ | refine blk_alloc ?_ _)); exact BK160.out⟩
  have n1_ : Aside0 (((((w35.setCell ⟨gb186, 0, none⟩ (.int .i64 t180)).setCell ⟨gb186, 1, none⟩ (.int .i64 t183)).setCell ⟨gb186, 2, none⟩ (.int .i64 0)).setCell ⟨gb186, 3, none⟩ (.int .i64 0)).heap[gb161]? = some (.cells #[.int .i64 0, .int .i64 0, .int .i64 0, .int .i64 0] 35 (0, 0))) := ⟨by (with_reducible repeat (first | refine blk_drewN ?_ _ | refine blk_drew ?_ | refine blk_alloc ?_ _)); refine blk_far ?_ NB161_186.out _; (with_reducible repeat (first | refine blk_drewN ?_ _ | refine blk_drew ?_ | refine blk_alloc ?_ _)); refine blk_far ?_ NB161_186.out _; (with_reducible repeat (first | refine blk_drewN ?_ _ | refine blk_drew ?_ | refine blk_alloc ?_ _)); refine blk_far ?_ NB161_186.out _; (with_reducible repeat (first | refine blk_drewN ?_ _ | refine blk_drew ?_ | refine blk_alloc ?_ _)); refine blk_far ?_ NB161_186.out _; (with_reducible repeat (first | refine blk_drewN ?_ _ | refine blk_drew ?_ | refine blk_alloc ?_ _)); exact BK161.out⟩
  have n2_ : Aside0 (((((w35.setCell ⟨gb186, 0, none⟩ (.int .i64 t180)).setCell ⟨gb186, 1, none⟩ (.int .i64 t183)).setCell ⟨gb186, 2, none⟩ (.int .i64 0)).setCell ⟨gb186, 3, none⟩ (.int .i64 0)).heap[gb162]? = some (.cells #[.int .i64 0, .int .i64 0] 32 (0, 0))) := ⟨by (with_reducible repeat (first | refine blk_drewN ?_ _ | refine blk_drew ?_ | refine blk_alloc ?_ _)); refine blk_far ?_ NB162_186.out _; (with_reducible repeat (first | refine blk_drewN ?_ _ | refine blk_drew ?_ | refine blk_alloc ?_ _)); refine blk_far ?_ NB162_186.out _; (with_reducible repeat (first | refine blk_drewN ?_ _ | refine blk_drew ?_ | refine blk_alloc ?_ _)); refine blk_far ?_ NB162_186.out _; (with_reducible repeat (first | refine blk_drewN ?_ _ | refine blk_drew ?_ | refine blk_alloc ?_ _)); refine blk_far ?_ NB162_186.out _; (with_reducible repeat (first | refine blk_drewN ?_ _ | refine blk_drew ?_ | refine blk_alloc ?_ _)); exact BK162.out⟩
  have n3_ : Aside0 (((((w35.setCell ⟨gb186, 0, none⟩ (.int .i64 t180)).setCell ⟨gb186, 1, none⟩ (.int .i64 t183)).setCell ⟨gb186, 2, none⟩ (.int .i64 0)).setCell ⟨gb186, 3, none⟩ (.int .i64 0)).heap[gb173]? = some (.cells #[.int .i64 t167, .int .i64 t170, .int .i64 (wrap64 (t167 + t174)), .int .i64 (wrap64 (t170 + t177))] 35 (0, 0))) := ⟨by (with_reducible repeat (first | refine blk_drewN ?_ _ | refine blk_drew ?_ | refine blk_alloc ?_ _)); refine blk_far ?_ NB173_186.out _; (with_reducible repeat (first | refine blk_drewN ?_ _ | refine blk_drew ?_ | refine blk_alloc ?_ _)); refine blk_far ?_ NB173_186.out _; (with_reducible repeat (first | refine blk_drewN ?_ _ | refine blk_drew ?_ | refine blk_alloc ?_ _)); refine blk_far ?_ NB173_186.out _; (with_reducible repeat (first | refine blk_drewN ?_ _ | refine blk_drew ?_ | refine blk_alloc ?_ _)); refine blk_far ?_ NB173_186.out _; (with_reducible repeat (first | refine blk_drewN ?_ _ | refine blk_drew ?_ | refine blk_alloc ?_ _)); exact BK173.out⟩
  have n4_ : Aside0 (((((w35.setCell ⟨gb186, 0, none⟩ (.int .i64 t180)).setCell ⟨gb186, 1, none⟩ (.int .i64 t183)).setCell ⟨gb186, 2, none⟩ (.int .i64 0)).setCell ⟨gb186, 3, none⟩ (.int .i64 0)).heap[gb186]? = some (.cells #[.int .i64 t180, .int .i64 t183, .int .i64 0, .int .i64 0] 35 (0, 0))) := ⟨by (with_reducible repeat (first | refine blk_drewN ?_ _ | refine blk_drew ?_ | refine blk_alloc ?_ _)); refine blk_put (cs := #[.int .i64 t180, .int .i64 t183, .int .i64 0, .int .i64 0]) ?_ 3 _ rfl; (with_reducible repeat (first | refine blk_drewN ?_ _ | refine blk_drew ?_ | refine blk_alloc ?_ _)); refine blk_put (cs := #[.int .i64 t180, .int .i64 t183, .int .i64 0, .int .i64 0]) ?_ 2 _ rfl; (with_reducible repeat (first | refine blk_drewN ?_ _ | refine blk_drew ?_ | refine blk_alloc ?_ _)); refine blk_put (cs := #[.int .i64 t180, .int .i64 0, .int .i64 0, .int .i64 0]) ?_ 1 _ rfl; (with_reducible repeat (first | refine blk_drewN ?_ _ | refine blk_drew ?_ | refine blk_alloc ?_ _)); refine blk_put (cs := #[.int .i64 0, .int .i64 0, .int .i64 0, .int .i64 0]) ?_ 0 _ rfl; (with_reducible repeat (first | refine blk_drewN ?_ _ | refine blk_drew ?_ | refine blk_alloc ?_ _)); exact BK186.out⟩
  have n5_ : Aside0 (IsS161 w ((((w35.setCell ⟨gb186, 0, none⟩ (.int .i64 t180)).setCell ⟨gb186, 1, none⟩ (.int .i64 t183)).setCell ⟨gb186, 2, none⟩ (.int .i64 0)).setCell ⟨gb186, 3, none⟩ (.int .i64 0)) g166 t163 t184 t185) := ⟨by repeat (first | (with_reducible first | exact HI166.out | apply IsS161.alloc | apply IsS161.drewN | apply IsS161.drew | apply IsS161.set_1 | apply IsS161.set_2 | apply IsS161.farB NB166_160.out | apply IsS161.farB NB166_161.out | apply IsS161.farB NB166_162.out | apply IsS161.farB NB166_173.out | apply IsS161.farB NB166_186.out) | exact HI166.out)⟩
  have n6_ : Aside0 (Below w.heap.size w ((((w35.setCell ⟨gb186, 0, none⟩ (.int .i64 t180)).setCell ⟨gb186, 1, none⟩ (.int .i64 t183)).setCell ⟨gb186, 2, none⟩ (.int .i64 0)).setCell ⟨gb186, 3, none⟩ (.int .i64 0))) := ⟨by repeat (first | (with_reducible first | exact HB.out | apply below_alloc | apply pw_below_drewN | apply below_drew1 | refine below_set ?_ (IsS161.ge HI166.out) | refine below_set ?_ GE160.out | refine below_set ?_ GE161.out | refine below_set ?_ GE162.out | refine below_set ?_ GE173.out | refine below_set ?_ GE186.out) | exact HB.out)⟩
  (try clear BK160)
  (try clear BK161)
  (try clear BK162)
  (try clear BK173)
  (try clear BK186)
  (try clear HI166)
  (try clear HB)
  generalize ((((w35.setCell ⟨gb186, 0, none⟩ (.int .i64 t180)).setCell ⟨gb186, 1, none⟩ (.int .i64 t183)).setCell ⟨gb186, 2, none⟩ (.int .i64 0)).setCell ⟨gb186, 3, none⟩ (.int .i64 0)) = w42 at n0_ n1_ n2_ n3_ n4_ n5_ n6_ ⊢
  have BK160 := n0_
  have BK161 := n1_
  have BK162 := n2_
  have BK173 := n3_
  have BK186 := n4_
  have HI166 := n5_
  have HB := n6_
  clear n0_ n1_ n2_ n3_ n4_ n5_ n6_
  have n0_ := Aside0.mk (blk_drew BK160.out)
  have n1_ := Aside0.mk (blk_drew BK161.out)
  have n2_ := Aside0.mk (blk_drew BK162.out)
  have n3_ := Aside0.mk (blk_drew BK173.out)
  have n4_ := Aside0.mk (blk_drew BK186.out)
  have n5_ := Aside0.mk (IsS161.drew HI166.out)
  have n6_ := Aside0.mk (below_drew1 HB.out)
  clear BK160
  clear BK161
  clear BK162
  clear BK173
  clear BK186
  clear HI166
  clear HB
  have BK160 := n0_
  have BK161 := n1_
  have BK162 := n2_
  have BK173 := n3_
  have BK186 := n4_
  have HI166 := n5_
  have HB := n6_
  clear n0_ n1_ n2_ n3_ n4_ n5_ n6_
  refine start_ (n := 7) (S := fun w' => w'.cell? ⟨gb186, 0, none⟩ = some (.int .i64 t180) ∧ w'.cell? ⟨gb186, 1, none⟩ = some (.int .i64 t183) ∧ w'.cell? ⟨gb186, 2, none⟩ = some (.int .i64 0) ∧ w'.cell? ⟨gb186, 3, none⟩ = some (.int .i64 0)) (ds := [6]) #[false, false, false, false, false, false, false] (by kernel_rfl) rfl rfl ⟨(blk_cell BK186.out 0).trans rfl, (blk_cell BK186.out 1).trans rfl, (blk_cell BK186.out 2).trans rfl, (blk_cell BK186.out 3).trans rfl⟩ (fun hHeld => ?_)
  generalize w42.drew = w43 at BK160 BK161 BK162 BK173 BK186 HI166 HB hHeld ⊢
  refine pure_ (i := 0) (N := some 32) (v := ?_) (a' := ?_) #[true, false, false, false, false, false, false] rfl rfl (by kernel_rfl) (fun _ _ _ h => h) (Or.inl ⟨by rfl, ?_⟩) ?_ ?_
  rotate_left
  · intro w'
    go_simp
    with_reducible rfl
  rotate_left
  · simp only [Act.put, List.setIfInBounds_toArray, List.set_cons_zero, List.set_cons_succ, i64_w, i32_w]
    rfl
  refine pure_ (i := 2) (N := some 34) (v := ?_) (a' := ?_) #[true, false, true, false, false, false, false] rfl rfl (by kernel_rfl) (fun _ _ _ h => h) (Or.inl ⟨by rfl, ?_⟩) ?_ ?_
  rotate_left
  · intro w'
    go_simp
    with_reducible rfl
  rotate_left
  · simp only [Act.put, List.setIfInBounds_toArray, List.set_cons_zero, List.set_cons_succ, i64_w, i32_w]
    rfl
  refine take_ (i := 1) (N := some 33) (v := ?_) (a' := ?_) #[true, true, true, false, false, false, false] rfl rfl (by kernel_rfl) (fun _ _ _ h => h) (Or.inl ⟨by rfl, ?_⟩) hHeld ?_ ?_
  rotate_left
  · rintro w' ⟨s0, s1, s2, s3⟩
    go_simp
    with_reducible rfl
  rotate_left
  · simp only [Act.put, List.setIfInBounds_toArray, List.set_cons_zero, List.set_cons_succ, i64_w, i32_w]
    rfl
  refine one_ (i := 3) (N := some 35) #[true, true, true, true, false, false, false] rfl rfl (by kernel_rfl) (by decide) (fun K hK => ?_)
  refine goes_ Try.func81 (by kernel_rfl) rfl #[.pointer (some ⟨g166, 0, none⟩), .int .i64 9] (by rfl) rfl rfl (by (try simp only [List.map_toArray, List.map_cons, List.map_nil]); first | done | rfl | (simp only [List.length_drop, List.length_take]; rfl)) ?_
  with_reducible refine (spec_l01Below.calls g166 t163 t184 t185 9 t187 t188 t189 w _ ?side1 ?side2 A9.out).mono ?_
  (case side1 => repeat (first | (with_reducible first | exact HI166.out | apply IsS161.alloc | apply IsS161.drewN | apply IsS161.drew | apply IsS161.set_1 | apply IsS161.set_2 | apply IsS161.farB NB166_160.out | apply IsS161.farB NB166_161.out | apply IsS161.farB NB166_162.out | apply IsS161.farB NB166_173.out | apply IsS161.farB NB166_186.out) | exact HI166.out))
  (case side2 => repeat (first | (with_reducible first | exact HB.out | apply below_alloc | apply pw_below_drewN | apply below_drew1 | refine below_set ?_ (IsS161.ge HI166.out) | refine below_set ?_ GE160.out | refine below_set ?_ GE161.out | refine below_set ?_ GE162.out | refine below_set ?_ GE173.out | refine below_set ?_ GE186.out) | exact HB.out))
  rintro e w44 ⟨rfl, hi, hb, hk⟩
  refine ⟨_, rfl, ?_⟩
  have n0_ := Aside0.mk (KeepBut.blk hk (g' := gb160) (o := .cells #[.int .i64 0, .int .i64 0, .int .i64 0, .int .i64 0] 35 (0, 0)) (by (with_reducible repeat (first | refine blk_drewN ?_ _ | refine blk_drew ?_ | refine blk_alloc ?_ _)); exact BK160.out) NB160_166.out (by simp))
  have n1_ := Aside0.mk (KeepBut.blk hk (g' := gb161) (o := .cells #[.int .i64 0, .int .i64 0, .int .i64 0, .int .i64 0] 35 (0, 0)) (by (with_reducible repeat (first | refine blk_drewN ?_ _ | refine blk_drew ?_ | refine blk_alloc ?_ _)); exact BK161.out) NB161_166.out (by simp))
  have n2_ := Aside0.mk (KeepBut.blk hk (g' := gb162) (o := .cells #[.int .i64 0, .int .i64 0] 32 (0, 0)) (by (with_reducible repeat (first | refine blk_drewN ?_ _ | refine blk_drew ?_ | refine blk_alloc ?_ _)); exact BK162.out) NB162_166.out (by simp))
  have n3_ := Aside0.mk (KeepBut.blk hk (g' := gb173) (o := .cells #[.int .i64 t167, .int .i64 t170, .int .i64 (wrap64 (t167 + t174)), .int .i64 (wrap64 (t170 + t177))] 35 (0, 0)) (by (with_reducible repeat (first | refine blk_drewN ?_ _ | refine blk_drew ?_ | refine blk_alloc ?_ _)); exact BK173.out) NB173_166.out (by simp))
  have n4_ := Aside0.mk (KeepBut.blk hk (g' := gb186) (o := .cells #[.int .i64 t180, .int .i64 t183, .int .i64 0, .int .i64 0] 35 (0, 0)) (by (with_reducible repeat (first | refine blk_drewN ?_ _ | refine blk_drew ?_ | refine blk_alloc ?_ _)); exact BK186.out) NB186_166.out (by simp))
  have n5_ := Aside0.mk (hb)
  have n6_ := Aside0.mk (hi)
  clear BK160
  clear BK161
  clear BK162
  clear BK173
  clear BK186
  clear HB
  clear HI166
  have BK160 := n0_
  have BK161 := n1_
  have BK162 := n2_
  have BK173 := n3_
  have BK186 := n4_
  have HB := n5_
  have HI166 := n6_
  clear n0_ n1_ n2_ n3_ n4_ n5_ n6_
  (try clear hb)
  (try clear hb2)
  (try clear hk)
  (try clear hi)
  refine hK.out _ _ ⟨(blk_cell BK186.out 0).trans rfl, (blk_cell BK186.out 1).trans rfl, (blk_cell BK186.out 2).trans rfl, (blk_cell BK186.out 3).trans rfl⟩ (fun hHeld => ?_)
  clear hK K
  refine norm_ (a' := ?_) ?_ ?_
  rotate_left
  · show Act.put _ (some 35) _ = _
    simp only [Act.put, List.setIfInBounds_toArray, List.set_cons_zero, List.set_cons_succ, i64_w, i32_w]
    rfl
  refine pure_ (i := 4) (N := some 36) (v := ?_) (a' := ?_) #[true, true, true, true, true, false, false] rfl rfl (by kernel_rfl) (fun _ _ _ h => h) (Or.inl ⟨by rfl, ?_⟩) ?_ ?_
  rotate_left
  · intro w'
    go_simp
    with_reducible rfl
  rotate_left
  · simp only [Act.put, List.setIfInBounds_toArray, List.set_cons_zero, List.set_cons_succ, i64_w, i32_w]
    rfl
  refine pure_ (i := 5) (N := some 37) (v := ?_) (a' := ?_) #[true, true, true, true, true, true, false] rfl rfl (by kernel_rfl) (fun _ _ _ h => h) (Or.inl ⟨by rfl, ?_⟩) ?_ ?_
  rotate_left
  · intro w'
    go_simp
    with_reducible rfl
  rotate_left
  · simp only [Act.put, List.setIfInBounds_toArray, List.set_cons_zero, List.set_cons_succ, i64_w, i32_w]
    rfl
  refine last_ (i := 6) (N := none) #[true, true, true, true, true, true, true] rfl rfl (by kernel_rfl) (by decide) (fun K hK => ?_)
  have hs45 : w44.cell? ⟨gb186, 2, none⟩ = some (.int .i64 0) := (blk_cell BK186.out 2).trans rfl
  have hfs45 := blk_frozen BK186.out 2
  have hns45_0 := NB160_186.out
  have hns45_1 := NB161_186.out
  have hns45_2 := NB162_186.out
  have hns45_3 := NB173_186.out
  have hms45_0 := NB186_160.out
  have hms45_1 := NB186_161.out
  have hms45_2 := NB186_162.out
  have hms45_3 := NB186_173.out
  refine skip_ (w1 := ?_) ?hwx ?hN ?_ ?_; (case hwx => rfl); (case hN => rfl)
  rotate_left
  · go_simp
    rfl
  refine hK.out _ _ ?_
  clear hK K
  refine done_ (by kernel_rfl) ?_
  try go_wp2
  have n0_ : Aside0 ((w44.setCell ⟨gb186, 2, none⟩ (.int .i64 (wrap64 (t180 + t187)))).heap[gb160]? = some (.cells #[.int .i64 0, .int .i64 0, .int .i64 0, .int .i64 0] 35 (0, 0))) := ⟨by (with_reducible repeat (first | refine blk_drewN ?_ _ | refine blk_drew ?_ | refine blk_alloc ?_ _)); refine blk_far ?_ NB160_186.out _; (with_reducible repeat (first | refine blk_drewN ?_ _ | refine blk_drew ?_ | refine blk_alloc ?_ _)); exact BK160.out⟩
  have n1_ : Aside0 ((w44.setCell ⟨gb186, 2, none⟩ (.int .i64 (wrap64 (t180 + t187)))).heap[gb161]? = some (.cells #[.int .i64 0, .int .i64 0, .int .i64 0, .int .i64 0] 35 (0, 0))) := ⟨by (with_reducible repeat (first | refine blk_drewN ?_ _ | refine blk_drew ?_ | refine blk_alloc ?_ _)); refine blk_far ?_ NB161_186.out _; (with_reducible repeat (first | refine blk_drewN ?_ _ | refine blk_drew ?_ | refine blk_alloc ?_ _)); exact BK161.out⟩
  have n2_ : Aside0 ((w44.setCell ⟨gb186, 2, none⟩ (.int .i64 (wrap64 (t180 + t187)))).heap[gb162]? = some (.cells #[.int .i64 0, .int .i64 0] 32 (0, 0))) := ⟨by (with_reducible repeat (first | refine blk_drewN ?_ _ | refine blk_drew ?_ | refine blk_alloc ?_ _)); refine blk_far ?_ NB162_186.out _; (with_reducible repeat (first | refine blk_drewN ?_ _ | refine blk_drew ?_ | refine blk_alloc ?_ _)); exact BK162.out⟩
  have n3_ : Aside0 ((w44.setCell ⟨gb186, 2, none⟩ (.int .i64 (wrap64 (t180 + t187)))).heap[gb173]? = some (.cells #[.int .i64 t167, .int .i64 t170, .int .i64 (wrap64 (t167 + t174)), .int .i64 (wrap64 (t170 + t177))] 35 (0, 0))) := ⟨by (with_reducible repeat (first | refine blk_drewN ?_ _ | refine blk_drew ?_ | refine blk_alloc ?_ _)); refine blk_far ?_ NB173_186.out _; (with_reducible repeat (first | refine blk_drewN ?_ _ | refine blk_drew ?_ | refine blk_alloc ?_ _)); exact BK173.out⟩
  have n4_ : Aside0 ((w44.setCell ⟨gb186, 2, none⟩ (.int .i64 (wrap64 (t180 + t187)))).heap[gb186]? = some (.cells #[.int .i64 t180, .int .i64 t183, .int .i64 (wrap64 (t180 + t187)), .int .i64 0] 35 (0, 0))) := ⟨by (with_reducible repeat (first | refine blk_drewN ?_ _ | refine blk_drew ?_ | refine blk_alloc ?_ _)); refine blk_put (cs := #[.int .i64 t180, .int .i64 t183, .int .i64 0, .int .i64 0]) ?_ 2 _ rfl; (with_reducible repeat (first | refine blk_drewN ?_ _ | refine blk_drew ?_ | refine blk_alloc ?_ _)); exact BK186.out⟩
  have n5_ : Aside0 (IsS161 w (w44.setCell ⟨gb186, 2, none⟩ (.int .i64 (wrap64 (t180 + t187)))) g166 t163 t188 t189) := ⟨by repeat (first | (with_reducible first | exact HI166.out | apply IsS161.alloc | apply IsS161.drewN | apply IsS161.drew | apply IsS161.set_1 | apply IsS161.set_2 | apply IsS161.farB NB166_160.out | apply IsS161.farB NB166_161.out | apply IsS161.farB NB166_162.out | apply IsS161.farB NB166_173.out | apply IsS161.farB NB166_186.out) | exact HI166.out)⟩
  have n6_ : Aside0 (Below w.heap.size w (w44.setCell ⟨gb186, 2, none⟩ (.int .i64 (wrap64 (t180 + t187))))) := ⟨by repeat (first | (with_reducible first | exact HB.out | apply below_alloc | apply pw_below_drewN | apply below_drew1 | refine below_set ?_ (IsS161.ge HI166.out) | refine below_set ?_ GE160.out | refine below_set ?_ GE161.out | refine below_set ?_ GE162.out | refine below_set ?_ GE173.out | refine below_set ?_ GE186.out) | exact HB.out)⟩
  (try clear BK160)
  (try clear BK161)
  (try clear BK162)
  (try clear BK173)
  (try clear BK186)
  (try clear HI166)
  (try clear HB)
  generalize (w44.setCell ⟨gb186, 2, none⟩ (.int .i64 (wrap64 (t180 + t187)))) = w46 at n0_ n1_ n2_ n3_ n4_ n5_ n6_ ⊢
  have BK160 := n0_
  have BK161 := n1_
  have BK162 := n2_
  have BK173 := n3_
  have BK186 := n4_
  have HI166 := n5_
  have HB := n6_
  clear n0_ n1_ n2_ n3_ n4_ n5_ n6_
  have n0_ := Aside0.mk (blk_drew BK160.out)
  have n1_ := Aside0.mk (blk_drew BK161.out)
  have n2_ := Aside0.mk (blk_drew BK162.out)
  have n3_ := Aside0.mk (blk_drew BK173.out)
  have n4_ := Aside0.mk (blk_drew BK186.out)
  have n5_ := Aside0.mk (IsS161.drew HI166.out)
  have n6_ := Aside0.mk (below_drew1 HB.out)
  clear BK160
  clear BK161
  clear BK162
  clear BK173
  clear BK186
  clear HI166
  clear HB
  have BK160 := n0_
  have BK161 := n1_
  have BK162 := n2_
  have BK173 := n3_
  have BK186 := n4_
  have HI166 := n5_
  have HB := n6_
  clear n0_ n1_ n2_ n3_ n4_ n5_ n6_
  refine start_ (n := 7) (S := fun w' => w'.cell? ⟨gb186, 0, none⟩ = some (.int .i64 t180) ∧ w'.cell? ⟨gb186, 1, none⟩ = some (.int .i64 t183) ∧ w'.cell? ⟨gb186, 2, none⟩ = some (.int .i64 (wrap64 (t180 + t187))) ∧ w'.cell? ⟨gb186, 3, none⟩ = some (.int .i64 0)) (ds := [6]) #[false, false, false, false, false, false, false] (by kernel_rfl) rfl rfl ⟨(blk_cell BK186.out 0).trans rfl, (blk_cell BK186.out 1).trans rfl, (blk_cell BK186.out 2).trans rfl, (blk_cell BK186.out 3).trans rfl⟩ (fun hHeld => ?_)
  generalize w46.drew = w47 at BK160 BK161 BK162 BK173 BK186 HI166 HB hHeld ⊢
  refine pure_ (i := 0) (N := some 38) (v := ?_) (a' := ?_) #[true, false, false, false, false, false, false] rfl rfl (by kernel_rfl) (fun _ _ _ h => h) (Or.inl ⟨by rfl, ?_⟩) ?_ ?_
  rotate_left
  · intro w'
    go_simp
    with_reducible rfl
  rotate_left
  · simp only [Act.put, List.setIfInBounds_toArray, List.set_cons_zero, List.set_cons_succ, i64_w, i32_w]
    rfl
  refine pure_ (i := 2) (N := some 40) (v := ?_) (a' := ?_) #[true, false, true, false, false, false, false] rfl rfl (by kernel_rfl) (fun _ _ _ h => h) (Or.inl ⟨by rfl, ?_⟩) ?_ ?_
  rotate_left
  · intro w'
    go_simp
    with_reducible rfl
  rotate_left
  · simp only [Act.put, List.setIfInBounds_toArray, List.set_cons_zero, List.set_cons_succ, i64_w, i32_w]
    rfl
  refine take_ (i := 1) (N := some 39) (v := ?_) (a' := ?_) #[true, true, true, false, false, false, false] rfl rfl (by kernel_rfl) (fun _ _ _ h => h) (Or.inl ⟨by rfl, ?_⟩) hHeld ?_ ?_
  rotate_left
  · rintro w' ⟨s0, s1, s2, s3⟩
    go_simp
    with_reducible rfl
  rotate_left
  · simp only [Act.put, List.setIfInBounds_toArray, List.set_cons_zero, List.set_cons_succ, i64_w, i32_w]
    rfl
  refine one_ (i := 3) (N := some 41) #[true, true, true, true, false, false, false] rfl rfl (by kernel_rfl) (by decide) (fun K hK => ?_)
  refine goes_ Try.func81 (by kernel_rfl) rfl #[.pointer (some ⟨g166, 0, none⟩), .int .i64 9] (by rfl) rfl rfl (by (try simp only [List.map_toArray, List.map_cons, List.map_nil]); first | done | rfl | (simp only [List.length_drop, List.length_take]; rfl)) ?_
  with_reducible refine (spec_l01Below.calls g166 t163 t188 t189 9 t190 t191 t192 w _ ?side1 ?side2 A10.out).mono ?_
  (case side1 => repeat (first | (with_reducible first | exact HI166.out | apply IsS161.alloc | apply IsS161.drewN | apply IsS161.drew | apply IsS161.set_1 | apply IsS161.set_2 | apply IsS161.farB NB166_160.out | apply IsS161.farB NB166_161.out | apply IsS161.farB NB166_162.out | apply IsS161.farB NB166_173.out | apply IsS161.farB NB166_186.out) | exact HI166.out))
  (case side2 => repeat (first | (with_reducible first | exact HB.out | apply below_alloc | apply pw_below_drewN | apply below_drew1 | refine below_set ?_ (IsS161.ge HI166.out) | refine below_set ?_ GE160.out | refine below_set ?_ GE161.out | refine below_set ?_ GE162.out | refine below_set ?_ GE173.out | refine below_set ?_ GE186.out) | exact HB.out))
  rintro e w48 ⟨rfl, hi, hb, hk⟩
  refine ⟨_, rfl, ?_⟩
  have n0_ := Aside0.mk (KeepBut.blk hk (g' := gb160) (o := .cells #[.int .i64 0, .int .i64 0, .int .i64 0, .int .i64 0] 35 (0, 0)) (by (with_reducible repeat (first | refine blk_drewN ?_ _ | refine blk_drew ?_ | refine blk_alloc ?_ _)); exact BK160.out) NB160_166.out (by simp))
  have n1_ := Aside0.mk (KeepBut.blk hk (g' := gb161) (o := .cells #[.int .i64 0, .int .i64 0, .int .i64 0, .int .i64 0] 35 (0, 0)) (by (with_reducible repeat (first | refine blk_drewN ?_ _ | refine blk_drew ?_ | refine blk_alloc ?_ _)); exact BK161.out) NB161_166.out (by simp))
  have n2_ := Aside0.mk (KeepBut.blk hk (g' := gb162) (o := .cells #[.int .i64 0, .int .i64 0] 32 (0, 0)) (by (with_reducible repeat (first | refine blk_drewN ?_ _ | refine blk_drew ?_ | refine blk_alloc ?_ _)); exact BK162.out) NB162_166.out (by simp))
  have n3_ := Aside0.mk (KeepBut.blk hk (g' := gb173) (o := .cells #[.int .i64 t167, .int .i64 t170, .int .i64 (wrap64 (t167 + t174)), .int .i64 (wrap64 (t170 + t177))] 35 (0, 0)) (by (with_reducible repeat (first | refine blk_drewN ?_ _ | refine blk_drew ?_ | refine blk_alloc ?_ _)); exact BK173.out) NB173_166.out (by simp))
  have n4_ := Aside0.mk (KeepBut.blk hk (g' := gb186) (o := .cells #[.int .i64 t180, .int .i64 t183, .int .i64 (wrap64 (t180 + t187)), .int .i64 0] 35 (0, 0)) (by (with_reducible repeat (first | refine blk_drewN ?_ _ | refine blk_drew ?_ | refine blk_alloc ?_ _)); exact BK186.out) NB186_166.out (by simp))
  have n5_ := Aside0.mk (hb)
  have n6_ := Aside0.mk (hi)
  clear BK160
  clear BK161
  clear BK162
  clear BK173
  clear BK186
  clear HB
  clear HI166
  have BK160 := n0_
  have BK161 := n1_
  have BK162 := n2_
  have BK173 := n3_
  have BK186 := n4_
  have HB := n5_
  have HI166 := n6_
  clear n0_ n1_ n2_ n3_ n4_ n5_ n6_
  (try clear hb)
  (try clear hb2)
  (try clear hk)
  (try clear hi)
  refine hK.out _ _ ⟨(blk_cell BK186.out 0).trans rfl, (blk_cell BK186.out 1).trans rfl, (blk_cell BK186.out 2).trans rfl, (blk_cell BK186.out 3).trans rfl⟩ (fun hHeld => ?_)
  clear hK K
  refine norm_ (a' := ?_) ?_ ?_
  rotate_left
  · show Act.put _ (some 41) _ = _
    simp only [Act.put, List.setIfInBounds_toArray, List.set_cons_zero, List.set_cons_succ, i64_w, i32_w]
    rfl
  refine pure_ (i := 4) (N := some 42) (v := ?_) (a' := ?_) #[true, true, true, true, true, false, false] rfl rfl (by kernel_rfl) (fun _ _ _ h => h) (Or.inl ⟨by rfl, ?_⟩) ?_ ?_
  rotate_left
  · intro w'
    go_simp
    with_reducible rfl
  rotate_left
  · simp only [Act.put, List.setIfInBounds_toArray, List.set_cons_zero, List.set_cons_succ, i64_w, i32_w]
    rfl
  refine pure_ (i := 5) (N := some 43) (v := ?_) (a' := ?_) #[true, true, true, true, true, true, false] rfl rfl (by kernel_rfl) (fun _ _ _ h => h) (Or.inl ⟨by rfl, ?_⟩) ?_ ?_
  rotate_left
  · intro w'
    go_simp
    with_reducible rfl
  rotate_left
  · simp only [Act.put, List.setIfInBounds_toArray, List.set_cons_zero, List.set_cons_succ, i64_w, i32_w]
    rfl
  refine last_ (i := 6) (N := none) #[true, true, true, true, true, true, true] rfl rfl (by kernel_rfl) (by decide) (fun K hK => ?_)
  have hs49 : w48.cell? ⟨gb186, 3, none⟩ = some (.int .i64 0) := (blk_cell BK186.out 3).trans rfl
  have hfs49 := blk_frozen BK186.out 3
  have hns49_0 := NB160_186.out
  have hns49_1 := NB161_186.out
  have hns49_2 := NB162_186.out
  have hns49_3 := NB173_186.out
  have hms49_0 := NB186_160.out
  have hms49_1 := NB186_161.out
  have hms49_2 := NB186_162.out
  have hms49_3 := NB186_173.out
  refine skip_ (w1 := ?_) ?hwx ?hN ?_ ?_; (case hwx => rfl); (case hN => rfl)
  rotate_left
  · go_simp
    rfl
  refine hK.out _ _ ?_
  clear hK K
  refine done_ (by kernel_rfl) ?_
  try go_wp2
  have n0_ : Aside0 ((w48.setCell ⟨gb186, 3, none⟩ (.int .i64 (wrap64 (t183 + t190)))).heap[gb160]? = some (.cells #[.int .i64 0, .int .i64 0, .int .i64 0, .int .i64 0] 35 (0, 0))) := ⟨by (with_reducible repeat (first | refine blk_drewN ?_ _ | refine blk_drew ?_ | refine blk_alloc ?_ _)); refine blk_far ?_ NB160_186.out _; (with_reducible repeat (first | refine blk_drewN ?_ _ | refine blk_drew ?_ | refine blk_alloc ?_ _)); exact BK160.out⟩
  have n1_ : Aside0 ((w48.setCell ⟨gb186, 3, none⟩ (.int .i64 (wrap64 (t183 + t190)))).heap[gb161]? = some (.cells #[.int .i64 0, .int .i64 0, .int .i64 0, .int .i64 0] 35 (0, 0))) := ⟨by (with_reducible repeat (first | refine blk_drewN ?_ _ | refine blk_drew ?_ | refine blk_alloc ?_ _)); refine blk_far ?_ NB161_186.out _; (with_reducible repeat (first | refine blk_drewN ?_ _ | refine blk_drew ?_ | refine blk_alloc ?_ _)); exact BK161.out⟩
  have n2_ : Aside0 ((w48.setCell ⟨gb186, 3, none⟩ (.int .i64 (wrap64 (t183 + t190)))).heap[gb162]? = some (.cells #[.int .i64 0, .int .i64 0] 32 (0, 0))) := ⟨by (with_reducible repeat (first | refine blk_drewN ?_ _ | refine blk_drew ?_ | refine blk_alloc ?_ _)); refine blk_far ?_ NB162_186.out _; (with_reducible repeat (first | refine blk_drewN ?_ _ | refine blk_drew ?_ | refine blk_alloc ?_ _)); exact BK162.out⟩
  have n3_ : Aside0 ((w48.setCell ⟨gb186, 3, none⟩ (.int .i64 (wrap64 (t183 + t190)))).heap[gb173]? = some (.cells #[.int .i64 t167, .int .i64 t170, .int .i64 (wrap64 (t167 + t174)), .int .i64 (wrap64 (t170 + t177))] 35 (0, 0))) := ⟨by (with_reducible repeat (first | refine blk_drewN ?_ _ | refine blk_drew ?_ | refine blk_alloc ?_ _)); refine blk_far ?_ NB173_186.out _; (with_reducible repeat (first | refine blk_drewN ?_ _ | refine blk_drew ?_ | refine blk_alloc ?_ _)); exact BK173.out⟩
  have n4_ : Aside0 ((w48.setCell ⟨gb186, 3, none⟩ (.int .i64 (wrap64 (t183 + t190)))).heap[gb186]? = some (.cells #[.int .i64 t180, .int .i64 t183, .int .i64 (wrap64 (t180 + t187)), .int .i64 (wrap64 (t183 + t190))] 35 (0, 0))) := ⟨by (with_reducible repeat (first | refine blk_drewN ?_ _ | refine blk_drew ?_ | refine blk_alloc ?_ _)); refine blk_put (cs := #[.int .i64 t180, .int .i64 t183, .int .i64 (wrap64 (t180 + t187)), .int .i64 0]) ?_ 3 _ rfl; (with_reducible repeat (first | refine blk_drewN ?_ _ | refine blk_drew ?_ | refine blk_alloc ?_ _)); exact BK186.out⟩
  have n5_ : Aside0 (IsS161 w (w48.setCell ⟨gb186, 3, none⟩ (.int .i64 (wrap64 (t183 + t190)))) g166 t163 t191 t192) := ⟨by repeat (first | (with_reducible first | exact HI166.out | apply IsS161.alloc | apply IsS161.drewN | apply IsS161.drew | apply IsS161.set_1 | apply IsS161.set_2 | apply IsS161.farB NB166_160.out | apply IsS161.farB NB166_161.out | apply IsS161.farB NB166_162.out | apply IsS161.farB NB166_173.out | apply IsS161.farB NB166_186.out) | exact HI166.out)⟩
  have n6_ : Aside0 (Below w.heap.size w (w48.setCell ⟨gb186, 3, none⟩ (.int .i64 (wrap64 (t183 + t190))))) := ⟨by repeat (first | (with_reducible first | exact HB.out | apply below_alloc | apply pw_below_drewN | apply below_drew1 | refine below_set ?_ (IsS161.ge HI166.out) | refine below_set ?_ GE160.out | refine below_set ?_ GE161.out | refine below_set ?_ GE162.out | refine below_set ?_ GE173.out | refine below_set ?_ GE186.out) | exact HB.out)⟩
  (try clear BK160)
  (try clear BK161)
  (try clear BK162)
  (try clear BK173)
  (try clear BK186)
  (try clear HI166)
  (try clear HB)
  generalize (w48.setCell ⟨gb186, 3, none⟩ (.int .i64 (wrap64 (t183 + t190)))) = w50 at n0_ n1_ n2_ n3_ n4_ n5_ n6_ ⊢
  have BK160 := n0_
  have BK161 := n1_
  have BK162 := n2_
  have BK173 := n3_
  have BK186 := n4_
  have HI166 := n5_
  have HB := n6_
  clear n0_ n1_ n2_ n3_ n4_ n5_ n6_
  have n0_ := Aside0.mk (blk_drew BK160.out)
  have n1_ := Aside0.mk (blk_drew BK161.out)
  have n2_ := Aside0.mk (blk_drew BK162.out)
  have n3_ := Aside0.mk (blk_drew BK173.out)
  have n4_ := Aside0.mk (blk_drew BK186.out)
  have n5_ := Aside0.mk (IsS161.drew HI166.out)
  have n6_ := Aside0.mk (below_drew1 HB.out)
  clear BK160
  clear BK161
  clear BK162
  clear BK173
  clear BK186
  clear HI166
  clear HB
  have BK160 := n0_
  have BK161 := n1_
  have BK162 := n2_
  have BK173 := n3_
  have BK186 := n4_
  have HI166 := n5_
  have HB := n6_
  clear n0_ n1_ n2_ n3_ n4_ n5_ n6_
  refine start_ (n := 10) (S := fun w' => w'.cell? ⟨gb173, 0, none⟩ = some (.int .i64 t167) ∧ w'.cell? ⟨gb173, 1, none⟩ = some (.int .i64 t170) ∧ w'.cell? ⟨gb173, 2, none⟩ = some (.int .i64 (wrap64 (t167 + t174))) ∧ w'.cell? ⟨gb173, 3, none⟩ = some (.int .i64 (wrap64 (t170 + t177))) ∧ w'.cell? ⟨gb186, 0, none⟩ = some (.int .i64 t180) ∧ w'.cell? ⟨gb186, 1, none⟩ = some (.int .i64 t183) ∧ w'.cell? ⟨gb186, 2, none⟩ = some (.int .i64 (wrap64 (t180 + t187))) ∧ w'.cell? ⟨gb186, 3, none⟩ = some (.int .i64 (wrap64 (t183 + t190)))) (ds := []) #[false, false, false, false, false, false, false, false, false, false] (by kernel_rfl) rfl rfl ⟨(blk_cell BK173.out 0).trans rfl, (blk_cell BK173.out 1).trans rfl, (blk_cell BK173.out 2).trans rfl, (blk_cell BK173.out 3).trans rfl, (blk_cell BK186.out 0).trans rfl, (blk_cell BK186.out 1).trans rfl, (blk_cell BK186.out 2).trans rfl, (blk_cell BK186.out 3).trans rfl⟩ (fun hHeld => ?_); refine with_tabW spec_DrawBoxes.tab8 spec_DrawBoxes.bits8 (fun HT_ HW_ => ?_)
  generalize w50.drew = w51 at BK160 BK161 BK162 BK173 BK186 HI166 HB hHeld ⊢
  refine pure_ (i := 2) (N := some 46) (v := ?_) (a' := ?_) #[false, false, true, false, false, false, false, false, false, false] rfl rfl (any_of HT_.out (by kernel_rfl)) (fun _ _ _ h => h) (Or.inl ⟨by rfl, ?_⟩) ?_ ?_
  rotate_left
  · intro w'
    go_simp
    with_reducible rfl
  rotate_left
  · simp only [Act.put, List.setIfInBounds_toArray, List.set_cons_zero, List.set_cons_succ, i64_w, i32_w]
    rfl
  refine pure_ (i := 4) (N := some 48) (v := ?_) (a' := ?_) #[false, false, true, false, true, false, false, false, false, false] rfl rfl (any_of HT_.out (by kernel_rfl)) (fun _ _ _ h => h) (Or.inl ⟨by rfl, ?_⟩) ?_ ?_
  rotate_left
  · intro w'
    go_simp
    with_reducible rfl
  rotate_left
  · simp only [Act.put, List.setIfInBounds_toArray, List.set_cons_zero, List.set_cons_succ, i64_w, i32_w]
    rfl
  refine take_ (i := 0) (N := some 44) (v := ?_) (a' := ?_) #[true, false, true, false, true, false, false, false, false, false] rfl rfl (take_ofW HT_.out HW_.out (by kernel_rfl)) (fun _ _ _ h => h) (Or.inl ⟨by rfl, ?_⟩) hHeld ?_ ?_
  rotate_left
  · rintro w' ⟨s0, s1, s2, s3, s4, s5, s6, s7⟩
    go_simp
    with_reducible rfl
  rotate_left
  · simp only [Act.put, List.setIfInBounds_toArray, List.set_cons_zero, List.set_cons_succ, i64_w, i32_w]
    rfl
  refine take_ (i := 1) (N := some 45) (v := ?_) (a' := ?_) #[true, true, true, false, true, false, false, false, false, false] rfl rfl (take_ofW HT_.out HW_.out (by kernel_rfl)) (fun _ _ _ h => h) (Or.inl ⟨by rfl, ?_⟩) hHeld ?_ ?_
  rotate_left
  · rintro w' ⟨s0, s1, s2, s3, s4, s5, s6, s7⟩
    go_simp
    with_reducible rfl
  rotate_left
  · simp only [Act.put, List.setIfInBounds_toArray, List.set_cons_zero, List.set_cons_succ, i64_w, i32_w]
    rfl
  refine one_ (i := 3) (N := some 47) #[true, true, true, true, true, false, false, false, false, false] rfl rfl (one_of HT_.out (by kernel_rfl)) (by decide) (fun K hK => ?_)
  refine goes_ Try.func81 (by kernel_rfl) rfl #[.pointer (some ⟨g166, 0, none⟩), .int .i64 18] (by rfl) rfl rfl (by (try simp only [List.map_toArray, List.map_cons, List.map_nil]); first | done | rfl | (simp only [List.length_drop, List.length_take]; rfl)) ?_
  with_reducible refine (spec_l01Below.calls g166 t163 t191 t192 18 t193 t194 t195 w _ ?side1 ?side2 A11.out).mono ?_
  (case side1 => repeat (first | (with_reducible first | exact HI166.out | apply IsS161.alloc | apply IsS161.drewN | apply IsS161.drew | apply IsS161.set_1 | apply IsS161.set_2 | apply IsS161.farB NB166_160.out | apply IsS161.farB NB166_161.out | apply IsS161.farB NB166_162.out | apply IsS161.farB NB166_173.out | apply IsS161.farB NB166_186.out) | exact HI166.out))
  (case side2 => repeat (first | (with_reducible first | exact HB.out | apply below_alloc | apply pw_below_drewN | apply below_drew1 | refine below_set ?_ (IsS161.ge HI166.out) | refine below_set ?_ GE160.out | refine below_set ?_ GE161.out | refine below_set ?_ GE162.out | refine below_set ?_ GE173.out | refine below_set ?_ GE186.out) | exact HB.out))
  rintro e w52 ⟨rfl, hi, hb, hk⟩
  refine ⟨_, rfl, ?_⟩
  have n0_ := Aside0.mk (KeepBut.blk hk (g' := gb160) (o := .cells #[.int .i64 0, .int .i64 0, .int .i64 0, .int .i64 0] 35 (0, 0)) (by (with_reducible repeat (first | refine blk_drewN ?_ _ | refine blk_drew ?_ | refine blk_alloc ?_ _)); exact BK160.out) NB160_166.out (by simp))
  have n1_ := Aside0.mk (KeepBut.blk hk (g' := gb161) (o := .cells #[.int .i64 0, .int .i64 0, .int .i64 0, .int .i64 0] 35 (0, 0)) (by (with_reducible repeat (first | refine blk_drewN ?_ _ | refine blk_drew ?_ | refine blk_alloc ?_ _)); exact BK161.out) NB161_166.out (by simp))
  have n2_ := Aside0.mk (KeepBut.blk hk (g' := gb162) (o := .cells #[.int .i64 0, .int .i64 0] 32 (0, 0)) (by (with_reducible repeat (first | refine blk_drewN ?_ _ | refine blk_drew ?_ | refine blk_alloc ?_ _)); exact BK162.out) NB162_166.out (by simp))
  have n3_ := Aside0.mk (KeepBut.blk hk (g' := gb173) (o := .cells #[.int .i64 t167, .int .i64 t170, .int .i64 (wrap64 (t167 + t174)), .int .i64 (wrap64 (t170 + t177))] 35 (0, 0)) (by (with_reducible repeat (first | refine blk_drewN ?_ _ | refine blk_drew ?_ | refine blk_alloc ?_ _)); exact BK173.out) NB173_166.out (by simp))
  have n4_ := Aside0.mk (KeepBut.blk hk (g' := gb186) (o := .cells #[.int .i64 t180, .int .i64 t183, .int .i64 (wrap64 (t180 + t187)), .int .i64 (wrap64 (t183 + t190))] 35 (0, 0)) (by (with_reducible repeat (first | refine blk_drewN ?_ _ | refine blk_drew ?_ | refine blk_alloc ?_ _)); exact BK186.out) NB186_166.out (by simp))
  have n5_ := Aside0.mk (hb)
  have n6_ := Aside0.mk (hi)
  clear BK160
  clear BK161
  clear BK162
  clear BK173
  clear BK186
  clear HB
  clear HI166
  have BK160 := n0_
  have BK161 := n1_
  have BK162 := n2_
  have BK173 := n3_
  have BK186 := n4_
  have HB := n5_
  have HI166 := n6_
  clear n0_ n1_ n2_ n3_ n4_ n5_ n6_
  (try clear hb)
  (try clear hb2)
  (try clear hk)
  (try clear hi)
  refine hK.out _ _ ⟨(blk_cell BK173.out 0).trans rfl, (blk_cell BK173.out 1).trans rfl, (blk_cell BK173.out 2).trans rfl, (blk_cell BK173.out 3).trans rfl, (blk_cell BK186.out 0).trans rfl, (blk_cell BK186.out 1).trans rfl, (blk_cell BK186.out 2).trans rfl, (blk_cell BK186.out 3).trans rfl⟩ (fun hHeld => ?_)
  clear hK K
  refine norm_ (a' := ?_) ?_ ?_
  rotate_left
  · show Act.put _ (some 47) _ = _
    simp only [Act.put, List.setIfInBounds_toArray, List.set_cons_zero, List.set_cons_succ, i64_w, i32_w]
    rfl
  refine one_ (i := 5) (N := some 49) #[true, true, true, true, true, true, false, false, false, false] rfl rfl (one_of HT_.out (by kernel_rfl)) (by decide) (fun K hK => ?_)
  refine goes_ Try.func81 (by kernel_rfl) rfl #[.pointer (some ⟨g166, 0, none⟩), .int .i64 18] (by rfl) rfl rfl (by (try simp only [List.map_toArray, List.map_cons, List.map_nil]); first | done | rfl | (simp only [List.length_drop, List.length_take]; rfl)) ?_
  with_reducible refine (spec_l01Below.calls g166 t163 t194 t195 18 t196 t197 t198 w _ ?side1 ?side2 A12.out).mono ?_
  (case side1 => repeat (first | (with_reducible first | exact HI166.out | apply IsS161.alloc | apply IsS161.drewN | apply IsS161.drew | apply IsS161.set_1 | apply IsS161.set_2 | apply IsS161.farB NB166_160.out | apply IsS161.farB NB166_161.out | apply IsS161.farB NB166_162.out | apply IsS161.farB NB166_173.out | apply IsS161.farB NB166_186.out) | exact HI166.out))
  (case side2 => repeat (first | (with_reducible first | exact HB.out | apply below_alloc | apply pw_below_drewN | apply below_drew1 | refine below_set ?_ (IsS161.ge HI166.out) | refine below_set ?_ GE160.out | refine below_set ?_ GE161.out | refine below_set ?_ GE162.out | refine below_set ?_ GE173.out | refine below_set ?_ GE186.out) | exact HB.out))
  rintro e w53 ⟨rfl, hi, hb, hk⟩
  refine ⟨_, rfl, ?_⟩
  have n0_ := Aside0.mk (KeepBut.blk hk (g' := gb160) (o := .cells #[.int .i64 0, .int .i64 0, .int .i64 0, .int .i64 0] 35 (0, 0)) (by (with_reducible repeat (first | refine blk_drewN ?_ _ | refine blk_drew ?_ | refine blk_alloc ?_ _)); exact BK160.out) NB160_166.out (by simp))
  have n1_ := Aside0.mk (KeepBut.blk hk (g' := gb161) (o := .cells #[.int .i64 0, .int .i64 0, .int .i64 0, .int .i64 0] 35 (0, 0)) (by (with_reducible repeat (first | refine blk_drewN ?_ _ | refine blk_drew ?_ | refine blk_alloc ?_ _)); exact BK161.out) NB161_166.out (by simp))
  have n2_ := Aside0.mk (KeepBut.blk hk (g' := gb162) (o := .cells #[.int .i64 0, .int .i64 0] 32 (0, 0)) (by (with_reducible repeat (first | refine blk_drewN ?_ _ | refine blk_drew ?_ | refine blk_alloc ?_ _)); exact BK162.out) NB162_166.out (by simp))
  have n3_ := Aside0.mk (KeepBut.blk hk (g' := gb173) (o := .cells #[.int .i64 t167, .int .i64 t170, .int .i64 (wrap64 (t167 + t174)), .int .i64 (wrap64 (t170 + t177))] 35 (0, 0)) (by (with_reducible repeat (first | refine blk_drewN ?_ _ | refine blk_drew ?_ | refine blk_alloc ?_ _)); exact BK173.out) NB173_166.out (by simp))
  have n4_ := Aside0.mk (KeepBut.blk hk (g' := gb186) (o := .cells #[.int .i64 t180, .int .i64 t183, .int .i64 (wrap64 (t180 + t187)), .int .i64 (wrap64 (t183 + t190))] 35 (0, 0)) (by (with_reducible repeat (first | refine blk_drewN ?_ _ | refine blk_drew ?_ | refine blk_alloc ?_ _)); exact BK186.out) NB186_166.out (by simp))
  have n5_ := Aside0.mk (hb)
  have n6_ := Aside0.mk (hi)
  clear BK160
  clear BK161
  clear BK162
  clear BK173
  clear BK186
  clear HB
  clear HI166
  have BK160 := n0_
  have BK161 := n1_
  have BK162 := n2_
  have BK173 := n3_
  have BK186 := n4_
  have HB := n5_
  have HI166 := n6_
  clear n0_ n1_ n2_ n3_ n4_ n5_ n6_
  (try clear hb)
  (try clear hb2)
  (try clear hk)
  (try clear hi)
  refine hK.out _ _ ⟨(blk_cell BK173.out 0).trans rfl, (blk_cell BK173.out 1).trans rfl, (blk_cell BK173.out 2).trans rfl, (blk_cell BK173.out 3).trans rfl, (blk_cell BK186.out 0).trans rfl, (blk_cell BK186.out 1).trans rfl, (blk_cell BK186.out 2).trans rfl, (blk_cell BK186.out 3).trans rfl⟩ (fun hHeld => ?_)
  clear hK K
  refine norm_ (a' := ?_) ?_ ?_
  rotate_left
  · show Act.put _ (some 49) _ = _
    simp only [Act.put, List.setIfInBounds_toArray, List.set_cons_zero, List.set_cons_succ, i64_w, i32_w]
    rfl
  refine pure_ (i := 6) (N := some 50) (v := ?_) (a' := ?_) #[true, true, true, true, true, true, true, false, false, false] rfl rfl (any_of HT_.out (by kernel_rfl)) (fun _ _ _ h => h) (Or.inl ⟨by rfl, ?_⟩) ?_ ?_
  rotate_left
  · intro w'
    go_simp
    with_reducible rfl
  rotate_left
  · simp only [Act.put, List.setIfInBounds_toArray, List.set_cons_zero, List.set_cons_succ, i64_w, i32_w]
    rfl
  refine one_ (i := 7) (N := none) #[true, true, true, true, true, true, true, true, false, false] rfl rfl (one_of HT_.out (by kernel_rfl)) (by decide) (fun K hK => ?_)
  have hs54 : w53.cell? ⟨gb160, 0, none⟩ = some (.int .i64 0) := (blk_cell BK160.out 0).trans rfl
  have hfs54 := blk_frozen BK160.out 0
  have hns54_1 := NB161_160.out
  have hns54_2 := NB162_160.out
  have hns54_3 := NB173_160.out
  have hns54_4 := NB186_160.out
  have hms54_1 := NB160_161.out
  have hms54_2 := NB160_162.out
  have hms54_3 := NB160_173.out
  have hms54_4 := NB160_186.out
  have hs55 : w53.cell? ⟨gb160, 1, none⟩ = some (.int .i64 0) := (blk_cell BK160.out 1).trans rfl
  have hfs55 := blk_frozen BK160.out 1
  have hns55_1 := NB161_160.out
  have hns55_2 := NB162_160.out
  have hns55_3 := NB173_160.out
  have hns55_4 := NB186_160.out
  have hms55_1 := NB160_161.out
  have hms55_2 := NB160_162.out
  have hms55_3 := NB160_173.out
  have hms55_4 := NB160_186.out
  have hs56 : w53.cell? ⟨gb160, 2, none⟩ = some (.int .i64 0) := (blk_cell BK160.out 2).trans rfl
  have hfs56 := blk_frozen BK160.out 2
  have hns56_1 := NB161_160.out
  have hns56_2 := NB162_160.out
  have hns56_3 := NB173_160.out
  have hns56_4 := NB186_160.out
  have hms56_1 := NB160_161.out
  have hms56_2 := NB160_162.out
  have hms56_3 := NB160_173.out
  have hms56_4 := NB160_186.out
  have hs57 : w53.cell? ⟨gb160, 3, none⟩ = some (.int .i64 0) := (blk_cell BK160.out 3).trans rfl
  have hfs57 := blk_frozen BK160.out 3
  have hns57_1 := NB161_160.out
  have hns57_2 := NB162_160.out
  have hns57_3 := NB173_160.out
  have hns57_4 := NB186_160.out
  have hms57_1 := NB160_161.out
  have hms57_2 := NB160_162.out
  have hms57_3 := NB160_173.out
  have hms57_4 := NB160_186.out
  refine skip_ (w1 := ?_) ?hwx ?hN ?_ ?_; (case hwx => rfl); (case hN => rfl)
  rotate_left
  · go_simp
    rfl
  refine hK.out _ _ ⟨((cell_far (p := ⟨gb160, _, none⟩) NB173_160.out _).trans (((cell_far (p := ⟨gb160, _, none⟩) NB173_160.out _).trans (((cell_far (p := ⟨gb160, _, none⟩) NB173_160.out _).trans (((cell_far (p := ⟨gb160, _, none⟩) NB173_160.out _).trans (hHeld.1)))))))), ((cell_far (p := ⟨gb160, _, none⟩) NB173_160.out _).trans (((cell_far (p := ⟨gb160, _, none⟩) NB173_160.out _).trans (((cell_far (p := ⟨gb160, _, none⟩) NB173_160.out _).trans (((cell_far (p := ⟨gb160, _, none⟩) NB173_160.out _).trans (hHeld.2.1)))))))), ((cell_far (p := ⟨gb160, _, none⟩) NB173_160.out _).trans (((cell_far (p := ⟨gb160, _, none⟩) NB173_160.out _).trans (((cell_far (p := ⟨gb160, _, none⟩) NB173_160.out _).trans (((cell_far (p := ⟨gb160, _, none⟩) NB173_160.out _).trans (hHeld.2.2.1)))))))), ((cell_far (p := ⟨gb160, _, none⟩) NB173_160.out _).trans (((cell_far (p := ⟨gb160, _, none⟩) NB173_160.out _).trans (((cell_far (p := ⟨gb160, _, none⟩) NB173_160.out _).trans (((cell_far (p := ⟨gb160, _, none⟩) NB173_160.out _).trans (hHeld.2.2.2.1)))))))), ((cell_far (p := ⟨gb160, _, none⟩) NB186_160.out _).trans (((cell_far (p := ⟨gb160, _, none⟩) NB186_160.out _).trans (((cell_far (p := ⟨gb160, _, none⟩) NB186_160.out _).trans (((cell_far (p := ⟨gb160, _, none⟩) NB186_160.out _).trans (hHeld.2.2.2.2.1)))))))), ((cell_far (p := ⟨gb160, _, none⟩) NB186_160.out _).trans (((cell_far (p := ⟨gb160, _, none⟩) NB186_160.out _).trans (((cell_far (p := ⟨gb160, _, none⟩) NB186_160.out _).trans (((cell_far (p := ⟨gb160, _, none⟩) NB186_160.out _).trans (hHeld.2.2.2.2.2.1)))))))), ((cell_far (p := ⟨gb160, _, none⟩) NB186_160.out _).trans (((cell_far (p := ⟨gb160, _, none⟩) NB186_160.out _).trans (((cell_far (p := ⟨gb160, _, none⟩) NB186_160.out _).trans (((cell_far (p := ⟨gb160, _, none⟩) NB186_160.out _).trans (hHeld.2.2.2.2.2.2.1)))))))), ((cell_far (p := ⟨gb160, _, none⟩) NB186_160.out _).trans (((cell_far (p := ⟨gb160, _, none⟩) NB186_160.out _).trans (((cell_far (p := ⟨gb160, _, none⟩) NB186_160.out _).trans (((cell_far (p := ⟨gb160, _, none⟩) NB186_160.out _).trans (hHeld.2.2.2.2.2.2.2))))))))⟩ (fun hHeld => ?_)
  clear hK K
  refine one_ (i := 8) (N := none) #[true, true, true, true, true, true, true, true, true, false] rfl rfl (one_of HT_.out (by kernel_rfl)) (by decide) (fun K hK => ?_)
  have hs58 : w53.cell? ⟨gb161, 0, none⟩ = some (.int .i64 0) := (blk_cell BK161.out 0).trans rfl
  have hfs58 := blk_frozen BK161.out 0
  have hns58_0 := NB160_161.out
  have hns58_2 := NB162_161.out
  have hns58_3 := NB173_161.out
  have hns58_4 := NB186_161.out
  have hms58_0 := NB161_160.out
  have hms58_2 := NB161_162.out
  have hms58_3 := NB161_173.out
  have hms58_4 := NB161_186.out
  have hs59 : w53.cell? ⟨gb161, 1, none⟩ = some (.int .i64 0) := (blk_cell BK161.out 1).trans rfl
  have hfs59 := blk_frozen BK161.out 1
  have hns59_0 := NB160_161.out
  have hns59_2 := NB162_161.out
  have hns59_3 := NB173_161.out
  have hns59_4 := NB186_161.out
  have hms59_0 := NB161_160.out
  have hms59_2 := NB161_162.out
  have hms59_3 := NB161_173.out
  have hms59_4 := NB161_186.out
  have hs60 : w53.cell? ⟨gb161, 2, none⟩ = some (.int .i64 0) := (blk_cell BK161.out 2).trans rfl
  have hfs60 := blk_frozen BK161.out 2
  have hns60_0 := NB160_161.out
  have hns60_2 := NB162_161.out
  have hns60_3 := NB173_161.out
  have hns60_4 := NB186_161.out
  have hms60_0 := NB161_160.out
  have hms60_2 := NB161_162.out
  have hms60_3 := NB161_173.out
  have hms60_4 := NB161_186.out
  have hs61 : w53.cell? ⟨gb161, 3, none⟩ = some (.int .i64 0) := (blk_cell BK161.out 3).trans rfl
  have hfs61 := blk_frozen BK161.out 3
  have hns61_0 := NB160_161.out
  have hns61_2 := NB162_161.out
  have hns61_3 := NB173_161.out
  have hns61_4 := NB186_161.out
  have hms61_0 := NB161_160.out
  have hms61_2 := NB161_162.out
  have hms61_3 := NB161_173.out
  have hms61_4 := NB161_186.out
  refine skip_ (w1 := ?_) ?hwx ?hN ?_ ?_; (case hwx => rfl); (case hN => rfl)
  rotate_left
  · go_simp
    rfl
  refine hK.out _ _ ⟨((cell_far (p := ⟨gb161, _, none⟩) NB173_161.out _).trans (((cell_far (p := ⟨gb161, _, none⟩) NB173_161.out _).trans (((cell_far (p := ⟨gb161, _, none⟩) NB173_161.out _).trans (((cell_far (p := ⟨gb161, _, none⟩) NB173_161.out _).trans (hHeld.1)))))))), ((cell_far (p := ⟨gb161, _, none⟩) NB173_161.out _).trans (((cell_far (p := ⟨gb161, _, none⟩) NB173_161.out _).trans (((cell_far (p := ⟨gb161, _, none⟩) NB173_161.out _).trans (((cell_far (p := ⟨gb161, _, none⟩) NB173_161.out _).trans (hHeld.2.1)))))))), ((cell_far (p := ⟨gb161, _, none⟩) NB173_161.out _).trans (((cell_far (p := ⟨gb161, _, none⟩) NB173_161.out _).trans (((cell_far (p := ⟨gb161, _, none⟩) NB173_161.out _).trans (((cell_far (p := ⟨gb161, _, none⟩) NB173_161.out _).trans (hHeld.2.2.1)))))))), ((cell_far (p := ⟨gb161, _, none⟩) NB173_161.out _).trans (((cell_far (p := ⟨gb161, _, none⟩) NB173_161.out _).trans (((cell_far (p := ⟨gb161, _, none⟩) NB173_161.out _).trans (((cell_far (p := ⟨gb161, _, none⟩) NB173_161.out _).trans (hHeld.2.2.2.1)))))))), ((cell_far (p := ⟨gb161, _, none⟩) NB186_161.out _).trans (((cell_far (p := ⟨gb161, _, none⟩) NB186_161.out _).trans (((cell_far (p := ⟨gb161, _, none⟩) NB186_161.out _).trans (((cell_far (p := ⟨gb161, _, none⟩) NB186_161.out _).trans (hHeld.2.2.2.2.1)))))))), ((cell_far (p := ⟨gb161, _, none⟩) NB186_161.out _).trans (((cell_far (p := ⟨gb161, _, none⟩) NB186_161.out _).trans (((cell_far (p := ⟨gb161, _, none⟩) NB186_161.out _).trans (((cell_far (p := ⟨gb161, _, none⟩) NB186_161.out _).trans (hHeld.2.2.2.2.2.1)))))))), ((cell_far (p := ⟨gb161, _, none⟩) NB186_161.out _).trans (((cell_far (p := ⟨gb161, _, none⟩) NB186_161.out _).trans (((cell_far (p := ⟨gb161, _, none⟩) NB186_161.out _).trans (((cell_far (p := ⟨gb161, _, none⟩) NB186_161.out _).trans (hHeld.2.2.2.2.2.2.1)))))))), ((cell_far (p := ⟨gb161, _, none⟩) NB186_161.out _).trans (((cell_far (p := ⟨gb161, _, none⟩) NB186_161.out _).trans (((cell_far (p := ⟨gb161, _, none⟩) NB186_161.out _).trans (((cell_far (p := ⟨gb161, _, none⟩) NB186_161.out _).trans (hHeld.2.2.2.2.2.2.2))))))))⟩ (fun hHeld => ?_)
  clear hK K
  refine one_ (i := 9) (N := none) #[true, true, true, true, true, true, true, true, true, true] rfl rfl (one_of HT_.out (by kernel_rfl)) (by decide) (fun K hK => ?_)
  have hs62 : w53.cell? ⟨gb162, 0, none⟩ = some (.int .i64 0) := (blk_cell BK162.out 0).trans rfl
  have hfs62 := blk_frozen BK162.out 0
  have hns62_0 := NB160_162.out
  have hns62_1 := NB161_162.out
  have hns62_3 := NB173_162.out
  have hns62_4 := NB186_162.out
  have hms62_0 := NB162_160.out
  have hms62_1 := NB162_161.out
  have hms62_3 := NB162_173.out
  have hms62_4 := NB162_186.out
  have hs63 : w53.cell? ⟨gb162, 1, none⟩ = some (.int .i64 0) := (blk_cell BK162.out 1).trans rfl
  have hfs63 := blk_frozen BK162.out 1
  have hns63_0 := NB160_162.out
  have hns63_1 := NB161_162.out
  have hns63_3 := NB173_162.out
  have hns63_4 := NB186_162.out
  have hms63_0 := NB162_160.out
  have hms63_1 := NB162_161.out
  have hms63_3 := NB162_173.out
  have hms63_4 := NB162_186.out
  refine skip_ (w1 := ?_) ?hwx ?hN ?_ ?_; (case hwx => rfl); (case hN => rfl)
  rotate_left
  · go_simp
    rfl
  refine hK.out _ _ ⟨((cell_far (p := ⟨gb162, _, none⟩) NB173_162.out _).trans (((cell_far (p := ⟨gb162, _, none⟩) NB173_162.out _).trans (hHeld.1)))), ((cell_far (p := ⟨gb162, _, none⟩) NB173_162.out _).trans (((cell_far (p := ⟨gb162, _, none⟩) NB173_162.out _).trans (hHeld.2.1)))), ((cell_far (p := ⟨gb162, _, none⟩) NB173_162.out _).trans (((cell_far (p := ⟨gb162, _, none⟩) NB173_162.out _).trans (hHeld.2.2.1)))), ((cell_far (p := ⟨gb162, _, none⟩) NB173_162.out _).trans (((cell_far (p := ⟨gb162, _, none⟩) NB173_162.out _).trans (hHeld.2.2.2.1)))), ((cell_far (p := ⟨gb162, _, none⟩) NB186_162.out _).trans (((cell_far (p := ⟨gb162, _, none⟩) NB186_162.out _).trans (hHeld.2.2.2.2.1)))), ((cell_far (p := ⟨gb162, _, none⟩) NB186_162.out _).trans (((cell_far (p := ⟨gb162, _, none⟩) NB186_162.out _).trans (hHeld.2.2.2.2.2.1)))), ((cell_far (p := ⟨gb162, _, none⟩) NB186_162.out _).trans (((cell_far (p := ⟨gb162, _, none⟩) NB186_162.out _).trans (hHeld.2.2.2.2.2.2.1)))), ((cell_far (p := ⟨gb162, _, none⟩) NB186_162.out _).trans (((cell_far (p := ⟨gb162, _, none⟩) NB186_162.out _).trans (hHeld.2.2.2.2.2.2.2))))⟩ (fun hHeld => ?_)
  clear hK K
  refine done_ (done_of HT_.out (by kernel_rfl)) ?_
  try go_wp2
  refine bodyPost_ret (results_list (rs := [.cell 2 35, .cell 3 35, .cell 4 32]) rfl (by simp) (.cell gb160 35 #[.int .i64 t167, .int .i64 t170, .int .i64 (wrap64 (t167 + t174)), .int .i64 (wrap64 (t170 + t177))] (0, 0) _ rfl (by apply blk_fin; (focus ((with_reducible repeat (first | apply blk_putQ | refine blk_farQ NB160_162.out ?_ | refine blk_farQ NB160_161.out ?_ | refine blk_drewN ?_ _ | refine blk_drew ?_ | refine blk_alloc ?_ _)); exact BK160.out)); first | (simp only [List.setIfInBounds_toArray, List.set_cons_zero, List.set_cons_succ]; done) | rfl) Try.underlying35 rfl (by kernel_rfl) (.cell gb161 35 #[.int .i64 t180, .int .i64 t183, .int .i64 (wrap64 (t180 + t187)), .int .i64 (wrap64 (t183 + t190))] (0, 0) _ rfl (by apply blk_fin; (focus ((with_reducible repeat (first | apply blk_putQ | refine blk_farQ NB161_162.out ?_ | refine blk_farQ NB161_160.out ?_ | refine blk_drewN ?_ _ | refine blk_drew ?_ | refine blk_alloc ?_ _)); exact BK161.out)); first | (simp only [List.setIfInBounds_toArray, List.set_cons_zero, List.set_cons_succ]; done) | rfl) Try.underlying35 rfl (by kernel_rfl) (.cell gb162 32 #[.int .i64 t193, .int .i64 t196] (0, 0) _ rfl (by apply blk_fin; (focus ((with_reducible repeat (first | apply blk_putQ | refine blk_farQ NB162_161.out ?_ | refine blk_farQ NB162_160.out ?_ | refine blk_drewN ?_ _ | refine blk_drew ?_ | refine blk_alloc ?_ _)); exact BK162.out)); first | (simp only [List.setIfInBounds_toArray, List.set_cons_zero, List.set_cons_succ]; done) | rfl) Try.underlying32 rfl (by kernel_rfl) .nil)))) rfl ?_
  exact ⟨by first | rfl | (simp [errW_none, errW_some] <;> rfl) | (simp [*, errW_none, errW_some] <;> rfl), by repeat (first | (with_reducible first | exact HB.out | apply below_alloc | apply pw_below_drewN | apply below_drew1 | refine below_set ?_ (IsS161.ge HI166.out) | refine below_set ?_ GE160.out | refine below_set ?_ GE161.out | refine below_set ?_ GE162.out | refine below_set ?_ GE173.out | refine below_set ?_ GE186.out) | exact HB.out)⟩

end Go.Proofs.Ytgdlbilpfmjeaaa.MFnCovers
