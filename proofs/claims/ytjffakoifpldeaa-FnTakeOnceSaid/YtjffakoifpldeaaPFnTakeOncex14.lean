-- printed by a program of this session (wip/xp/xprint.py) out of the translation; Lean checks it
import Derived.Test.YtjffakoifpldeaaPFnTakeOncex0
import Derived.Test.YtjffakoifpldeaaPFnTakeOncex6
import Derived.Test.YtjffakoifpldeaaPFnTakeOncex10
import Derived.Test.YtjffakoifpldeaaPFnTakeOncex11
import Derived.Test.YtjffakoifpldeaaPFnTakeOncex12
import Derived.Test.YtjffakoifpldeaaPFnTakeOncex13
namespace Go.Proofs.Ytjffakoifpldeaa.PFnTakeOnce
open Go.RowKit Go.Proofs.YtjffakoifpldeaaW.PrintWords Go.Proofs.YtjffakoifpldeaaW.PrintLast Go.Proofs.YtjffakoifpldeaaW.PrintMore
attribute [local go_sem] max2_int min2_int max_two min_two max_three min_three max_four min_four   -- for this text's walks alone
set_option linter.unusedVariables false
set_option linter.unusedSimpArgs false

theorem au14_0 {p : Prop} (h : p := by repeat (first | (with_reducible first | exact HI359.out | apply IsS116.alloc | apply IsS116.drewN | apply IsS116.drew | apply IsS116.set_1 | apply IsS116.set_2 | apply IsS116.set_3 | refine IsS116.far ?_ NB359_354.out _ | refine IsS116.far ?_ NB359_369.out _) | exact HI359.out)) : p := h
theorem au14_1 {p : Prop} (h : p := by repeat (first | (with_reducible first | exact HB.out | apply below_alloc | apply pw_below_drewN | apply below_drew1 | refine below_set ?_ (IsS116.ge HI359.out) | refine below_set ?_ GE354.out | refine below_set ?_ GE369.out) | exact HB.out)) : p := h
theorem au14_2 {p : Prop} (h : p := by repeat (first | (with_reducible first | exact HB.out | apply below_alloc | apply pw_below_drewN | apply below_drew1 | refine below_set ?_ (IsS116.ge HI359.out) | refine below_set ?_ GE354.out) | exact HB.out)) : p := h
theorem au14_3 {p : Prop} (h : p := by (with_reducible repeat (first | refine blk_drewN ?_ _ | refine blk_drew ?_ | refine blk_alloc ?_ _)); refine blk_put (cs := #[.string t360, .int .i64 t361, .int .i64 t362, .slice none 0 0]) ?_ 3 _ rfl; (with_reducible repeat (first | refine blk_drewN ?_ _ | refine blk_drew ?_ | refine blk_alloc ?_ _)); refine blk_put (cs := #[.string t360, .int .i64 t361, .int .i64 0, .slice none 0 0]) ?_ 2 _ rfl; (with_reducible repeat (first | refine blk_drewN ?_ _ | refine blk_drew ?_ | refine blk_alloc ?_ _)); refine blk_put (cs := #[.string t360, .int .i64 0, .int .i64 0, .slice none 0 0]) ?_ 1 _ rfl; (with_reducible repeat (first | refine blk_drewN ?_ _ | refine blk_drew ?_ | refine blk_alloc ?_ _)); refine blk_put (cs := #[.string (⟨#[]⟩ : ByteArray), .int .i64 0, .int .i64 0, .slice none 0 0]) ?_ 0 _ rfl; (with_reducible repeat (first | refine blk_drewN ?_ _ | refine blk_drew ?_ | refine blk_alloc ?_ _)); exact BK354.out) : p := h
theorem au14_4 {p : Prop} (h : p := by (with_reducible repeat (first | refine blk_drewN ?_ _ | refine blk_drew ?_ | refine blk_alloc ?_ _)); refine blk_put (cs := #[.string t360, .int .i64 t361, .int .i64 t362, .slice none 0 0]) ?_ 3 _ rfl; (with_reducible repeat (first | refine blk_drewN ?_ _ | refine blk_drew ?_ | refine blk_alloc ?_ _)); refine blk_put (cs := #[.string t360, .int .i64 t361, .int .i64 0, .slice none 0 0]) ?_ 2 _ rfl; (with_reducible repeat (first | refine blk_drewN ?_ _ | refine blk_drew ?_ | refine blk_alloc ?_ _)); refine blk_put (cs := #[.string t360, .int .i64 0, .int .i64 0, .slice none 0 0]) ?_ 1 _ rfl; (with_reducible repeat (first | refine blk_drewN ?_ _ | refine blk_drew ?_ | refine blk_alloc ?_ _)); refine blk_put (cs := #[.string (⟨#[]⟩ : ByteArray), .int .i64 0, .int .i64 0, .slice none 0 0]) ?_ 0 _ rfl; (with_reducible repeat (first | refine blk_drewN ?_ _ | refine blk_drew ?_ | refine blk_alloc ?_ _)); exact BK369.out) : p := h
theorem au14_5 {p : Prop} (h : p := by repeat (first | (with_reducible first | exact HB.out | apply below_alloc | apply pw_below_drewN | apply below_drew1 | refine below_set ?_ (IsS116.ge HI359.out) | refine below_set ?_ GE354.out | refine below_set ?_ GE369.out) | exact HB.out)) : p := h
theorem au14_6 {p : Prop} (h : p := by (with_reducible repeat (first | refine blk_drewN ?_ _ | refine blk_drew ?_ | refine blk_alloc ?_ _)); refine blk_far ?_ NB354_369.out _; (with_reducible repeat (first | refine blk_drewN ?_ _ | refine blk_drew ?_ | refine blk_alloc ?_ _)); refine blk_far ?_ NB354_369.out _; (with_reducible repeat (first | refine blk_drewN ?_ _ | refine blk_drew ?_ | refine blk_alloc ?_ _)); refine blk_far ?_ NB354_369.out _; (with_reducible repeat (first | refine blk_drewN ?_ _ | refine blk_drew ?_ | refine blk_alloc ?_ _)); refine blk_far ?_ NB354_369.out _; (with_reducible repeat (first | refine blk_drewN ?_ _ | refine blk_drew ?_ | refine blk_alloc ?_ _)); exact BK354.out) : p := h
theorem au14_7 {p : Prop} (h : p := by repeat (first | (with_reducible first | exact HI359.out | apply IsS116.alloc | apply IsS116.drewN | apply IsS116.drew | apply IsS116.set_1 | apply IsS116.set_2 | apply IsS116.set_3 | refine IsS116.far ?_ NB359_354.out _ | refine IsS116.far ?_ NB359_369.out _) | exact HI359.out)) : p := h
theorem au14_8 {p : Prop} (h : p := by repeat (first | (with_reducible first | exact HB.out | apply below_alloc | apply pw_below_drewN | apply below_drew1 | refine below_set ?_ (IsS116.ge HI359.out) | refine below_set ?_ GE354.out | refine below_set ?_ GE369.out) | exact HB.out)) : p := h
theorem au14_9 {p : Prop} (h : p := by repeat (first | (with_reducible first | exact HI359.out | apply IsS116.alloc | apply IsS116.drewN | apply IsS116.drew | apply IsS116.set_1 | apply IsS116.set_2 | apply IsS116.set_3 | refine IsS116.far ?_ NB359_354.out _) | exact HI359.out)) : p := h
theorem au14_10 {p : Prop} (h : p := by repeat (first | (with_reducible first | exact HI359.out | apply IsS116.alloc | apply IsS116.drewN | apply IsS116.drew | apply IsS116.set_1 | apply IsS116.set_2 | apply IsS116.set_3 | refine IsS116.far ?_ NB359_354.out _) | exact HI359.out)) : p := h
theorem au14_11 {p : Prop} (h : p := by repeat (first | (with_reducible first | exact HB.out | apply below_alloc | apply pw_below_drewN | apply below_drew1 | refine below_set ?_ (IsS116.ge HI359.out) | refine below_set ?_ GE354.out) | exact HB.out)) : p := h
theorem au14_12 {p : Prop} (h : p := by repeat (first | (with_reducible first | exact HB.out | apply below_alloc | apply pw_below_drewN | apply below_drew1 | refine below_set ?_ GE354.out) | exact HB.out)) : p := h
theorem au14_13 {p : Prop} (h : p := by first | rfl | (simp [errW_none, errW_some] <;> rfl) | (simp [*, errW_none, errW_some] <;> rfl)) : p := h

/-! ### spec_DrawPartnerTake: function 50 -/
def spec_DrawPartnerTake.f (k : Nat) (l0 : List Int) : Option (ByteArray × Int × Int × (List (S62)) × Int × Int) := (spec_l01Source.f k l0).bind fun bt355 => ((spec_l01Src_l07Partner.f k bt355.1 bt355.2.1 bt355.2.2.1 bt355.2.2.2).bind fun bt360 => ((spec_l01Src_n.f bt355.1 bt360.2.2.2.2.1 bt360.2.2.2.2.2.1 bt360.2.2.2.2.2.2 70).bind fun bt370 => ((spec_l01Src_one.f bt355.1 bt370.2.1 bt370.2.2.1 bt370.2.2.2 10).bind fun bt374 => (if bt374.1 = true then ((some (([0, 999999, 1000000, 1] : List Int) : List Int)).bind fun y378 => ((spec_l01Src_n.f bt355.1 bt374.2.1 bt374.2.2.1 bt374.2.2.2 4).bind fun bt381 => (if 0 ≤ bt381.1 then (if bt381.1 < (y378.length : Int) then ((spec_l01Src_n.f bt355.1 bt381.2.1 bt381.2.2.1 bt381.2.2.2 15).bind fun bt386 => ((spec_l01Src_n.f bt355.1 bt386.2.1 bt386.2.2.1 bt386.2.2.2 20).bind fun bt390 => ((spec_l01Max.f 0 (wrap64 (bt390.1 - 18))).bind fun t394 => (some (bt360.1, bt360.2.1, bt360.2.2.1, bt360.2.2.2.1, rd y378 bt381.1, wrap64 (bt386.1 - t394)))))) else (none)) else (none)))) else ((spec_l01Src_n.f bt355.1 bt374.2.1 bt374.2.2.1 bt374.2.2.2 15).bind fun bt395 => ((spec_l01Src_n.f bt355.1 bt395.2.1 bt395.2.2.1 bt395.2.2.2 20).bind fun bt399 => ((spec_l01Max.f 0 (wrap64 (bt399.1 - 18))).bind fun t403 => (some (bt360.1, bt360.2.1, bt360.2.2.1, bt360.2.2.2.1, wrap64 ((wrap64 (bt360.2.1 + bt370.1)) - 4), wrap64 (bt395.1 - t403))))))))))
theorem spec_DrawPartnerTake.mono : ∀ a0 k, LeO (spec_DrawPartnerTake.f k a0) (spec_DrawPartnerTake.f (k + 1) a0) := by
  intro a0 k
  unfold spec_DrawPartnerTake.f
  repeat' first
      | (with_reducible exact spec_l01Source.mono _ _)
      | (with_reducible exact spec_l01Src_l07Partner.mono _ _ _ _ _)
      | (with_reducible exact LeO.refl _)
      | (with_reducible exact LeO.none _)
      | (with_reducible refine LeO.ite ?_ ?_)
      | (with_reducible refine LeO.bind ?_ (fun _ => ?_))
      | exact spec_l01Source.mono _ _
      | exact spec_l01Src_l07Partner.mono _ _ _ _ _
      | exact LeO.none _
      | refine LeO.ite ?_ ?_
      | refine LeO.bind ?_ (fun _ => ?_)
def spec_DrawPartnerTake.T6 : Bool × List (List Nat × List Nat) := (true, [([], []), ([], []), ([], []), ([2], [2]), ([], []), ([4, 3], [4]), ([5], [5]), ([6, 5], [6]), ([3, 7], [3, 7]), ([0, 7, 0], [0]), ([1, 9, 0, 1, 9], [1]), ([8, 10, 0, 1, 2, 3, 4, 5, 6, 7, 8, 9, 10], [8])])
def spec_DrawPartnerTake.B6 : List Nat := [0, 0, 0, 4, 0, 28, 60, 124, 252, 253, 767, 2047]
theorem spec_DrawPartnerTake.tab6 : rtab .any (opsOf Try.f50 6) = spec_DrawPartnerTake.T6 := by kernel_rfl
theorem spec_DrawPartnerTake.bits6 : waitsOk spec_DrawPartnerTake.T6.2 spec_DrawPartnerTake.B6 = true := by kernel_rfl
set_option maxHeartbeats 8000000 in
set_option maxRecDepth 100000 in
theorem spec_DrawPartnerTake.calls (k : Nat) (A0 : Option Addr) (c0 : Nat) (l0 : List Int) (r1 : ByteArray) (r2 : Int) (r3 : Int) (r4 : List (S62)) (r5 : Int) (r6 : Int) (w : World) (hr0 : Kd.C (Kd.int .u8) w A0 l0.length l0) (hc0 : l0.length ≤ c0) (h : spec_DrawPartnerTake.f k l0 = some (r1, r2, r3, r4, r5, r6)) :
    Calls Try.prog 50 #[.slice A0 l0.length c0] w fun e w' => ∃ v3_ : Value, e = .returned (.tuple #[.agg #[.string r1, .int .i64 r2, .int .i64 r3, v3_], .int .i64 r5, .int .i64 r6]) ∧ Kd.R k62 62 w' w.heap.size (fun _ => True) v3_ r4 ∧ Below w.heap.size w w' := by
  have hu51 := Try.underlying51
  have HR0 := Aside0.mk hr0
  have HC0 := Aside0.mk hc0
  clear hr0 hc0
  have HB := Aside0.mk (Below.refl w.heap.size w)
  have H : ((spec_l01Source.f k l0).bind fun bt355 => ((spec_l01Src_l07Partner.f k bt355.1 bt355.2.1 bt355.2.2.1 bt355.2.2.2).bind fun bt360 => ((spec_l01Src_n.f bt355.1 bt360.2.2.2.2.1 bt360.2.2.2.2.2.1 bt360.2.2.2.2.2.2 70).bind fun bt370 => ((spec_l01Src_one.f bt355.1 bt370.2.1 bt370.2.2.1 bt370.2.2.2 10).bind fun bt374 => (if bt374.1 = true then ((some (([0, 999999, 1000000, 1] : List Int) : List Int)).bind fun y378 => ((spec_l01Src_n.f bt355.1 bt374.2.1 bt374.2.2.1 bt374.2.2.2 4).bind fun bt381 => (if 0 ≤ bt381.1 then (if bt381.1 < (y378.length : Int) then ((spec_l01Src_n.f bt355.1 bt381.2.1 bt381.2.2.1 bt381.2.2.2 15).bind fun bt386 => ((spec_l01Src_n.f bt355.1 bt386.2.1 bt386.2.2.1 bt386.2.2.2 20).bind fun bt390 => ((spec_l01Max.f 0 (wrap64 (bt390.1 - 18))).bind fun t394 => (some (bt360.1, bt360.2.1, bt360.2.2.1, bt360.2.2.2.1, rd y378 bt381.1, wrap64 (bt386.1 - t394)))))) else (none)) else (none)))) else ((spec_l01Src_n.f bt355.1 bt374.2.1 bt374.2.2.1 bt374.2.2.2 15).bind fun bt395 => ((spec_l01Src_n.f bt355.1 bt395.2.1 bt395.2.2.1 bt395.2.2.2 20).bind fun bt399 => ((spec_l01Max.f 0 (wrap64 (bt399.1 - 18))).bind fun t403 => (some (bt360.1, bt360.2.1, bt360.2.2.1, bt360.2.2.2.1, wrap64 ((wrap64 (bt360.2.1 + bt370.1)) - 4), wrap64 (bt395.1 - t403))))))))))) = some (r1, r2, r3, r4, r5, r6) := h
  clear h
  replace H := Option.bind_eq_some_iff.mp H
  obtain ⟨⟨t355, t356, t357, t358⟩, A20, H⟩ := H
  replace H : ((spec_l01Src_l07Partner.f k t355 t356 t357 t358).bind fun bt360 => ((spec_l01Src_n.f t355 bt360.2.2.2.2.1 bt360.2.2.2.2.2.1 bt360.2.2.2.2.2.2 70).bind fun bt370 => ((spec_l01Src_one.f t355 bt370.2.1 bt370.2.2.1 bt370.2.2.2 10).bind fun bt374 => (if bt374.1 = true then ((some (([0, 999999, 1000000, 1] : List Int) : List Int)).bind fun y378 => ((spec_l01Src_n.f t355 bt374.2.1 bt374.2.2.1 bt374.2.2.2 4).bind fun bt381 => (if 0 ≤ bt381.1 then (if bt381.1 < (y378.length : Int) then ((spec_l01Src_n.f t355 bt381.2.1 bt381.2.2.1 bt381.2.2.2 15).bind fun bt386 => ((spec_l01Src_n.f t355 bt386.2.1 bt386.2.2.1 bt386.2.2.2 20).bind fun bt390 => ((spec_l01Max.f 0 (wrap64 (bt390.1 - 18))).bind fun t394 => (some (bt360.1, bt360.2.1, bt360.2.2.1, bt360.2.2.2.1, rd y378 bt381.1, wrap64 (bt386.1 - t394)))))) else (none)) else (none)))) else ((spec_l01Src_n.f t355 bt374.2.1 bt374.2.2.1 bt374.2.2.2 15).bind fun bt395 => ((spec_l01Src_n.f t355 bt395.2.1 bt395.2.2.1 bt395.2.2.2 20).bind fun bt399 => ((spec_l01Max.f 0 (wrap64 (bt399.1 - 18))).bind fun t403 => (some (bt360.1, bt360.2.1, bt360.2.2.1, bt360.2.2.2.1, wrap64 ((wrap64 (bt360.2.1 + bt370.1)) - 4), wrap64 (bt395.1 - t403)))))))))) = some (r1, r2, r3, r4, r5, r6) := H
  have A2 := Aside0.mk A20
  clear A20
  replace H := Option.bind_eq_some_iff.mp H
  obtain ⟨⟨t360, t361, t362, t363, t366, t367, t368⟩, A30, H⟩ := H
  replace H : ((spec_l01Src_n.f t355 t366 t367 t368 70).bind fun bt370 => ((spec_l01Src_one.f t355 bt370.2.1 bt370.2.2.1 bt370.2.2.2 10).bind fun bt374 => (if bt374.1 = true then ((some (([0, 999999, 1000000, 1] : List Int) : List Int)).bind fun y378 => ((spec_l01Src_n.f t355 bt374.2.1 bt374.2.2.1 bt374.2.2.2 4).bind fun bt381 => (if 0 ≤ bt381.1 then (if bt381.1 < (y378.length : Int) then ((spec_l01Src_n.f t355 bt381.2.1 bt381.2.2.1 bt381.2.2.2 15).bind fun bt386 => ((spec_l01Src_n.f t355 bt386.2.1 bt386.2.2.1 bt386.2.2.2 20).bind fun bt390 => ((spec_l01Max.f 0 (wrap64 (bt390.1 - 18))).bind fun t394 => (some (t360, t361, t362, t363, rd y378 bt381.1, wrap64 (bt386.1 - t394)))))) else (none)) else (none)))) else ((spec_l01Src_n.f t355 bt374.2.1 bt374.2.2.1 bt374.2.2.2 15).bind fun bt395 => ((spec_l01Src_n.f t355 bt395.2.1 bt395.2.2.1 bt395.2.2.2 20).bind fun bt399 => ((spec_l01Max.f 0 (wrap64 (bt399.1 - 18))).bind fun t403 => (some (t360, t361, t362, t363, wrap64 ((wrap64 (t361 + bt370.1)) - 4), wrap64 (bt395.1 - t403))))))))) = some (r1, r2, r3, r4, r5, r6) := H
  have A3 := Aside0.mk A30
  clear A30
  replace H := Option.bind_eq_some_iff.mp H
  obtain ⟨⟨t370, t371, t372, t373⟩, A40, H⟩ := H
  replace H : ((spec_l01Src_one.f t355 t371 t372 t373 10).bind fun bt374 => (if bt374.1 = true then ((some (([0, 999999, 1000000, 1] : List Int) : List Int)).bind fun y378 => ((spec_l01Src_n.f t355 bt374.2.1 bt374.2.2.1 bt374.2.2.2 4).bind fun bt381 => (if 0 ≤ bt381.1 then (if bt381.1 < (y378.length : Int) then ((spec_l01Src_n.f t355 bt381.2.1 bt381.2.2.1 bt381.2.2.2 15).bind fun bt386 => ((spec_l01Src_n.f t355 bt386.2.1 bt386.2.2.1 bt386.2.2.2 20).bind fun bt390 => ((spec_l01Max.f 0 (wrap64 (bt390.1 - 18))).bind fun t394 => (some (t360, t361, t362, t363, rd y378 bt381.1, wrap64 (bt386.1 - t394)))))) else (none)) else (none)))) else ((spec_l01Src_n.f t355 bt374.2.1 bt374.2.2.1 bt374.2.2.2 15).bind fun bt395 => ((spec_l01Src_n.f t355 bt395.2.1 bt395.2.2.1 bt395.2.2.2 20).bind fun bt399 => ((spec_l01Max.f 0 (wrap64 (bt399.1 - 18))).bind fun t403 => (some (t360, t361, t362, t363, wrap64 ((wrap64 (t361 + t370)) - 4), wrap64 (bt395.1 - t403)))))))) = some (r1, r2, r3, r4, r5, r6) := H
  have A4 := Aside0.mk A40
  clear A40
  replace H := Option.bind_eq_some_iff.mp H
  obtain ⟨⟨t374, t375, t376, t377⟩, A50, H⟩ := H
  replace H : (if t374 = true then ((some (([0, 999999, 1000000, 1] : List Int) : List Int)).bind fun y378 => ((spec_l01Src_n.f t355 t375 t376 t377 4).bind fun bt381 => (if 0 ≤ bt381.1 then (if bt381.1 < (y378.length : Int) then ((spec_l01Src_n.f t355 bt381.2.1 bt381.2.2.1 bt381.2.2.2 15).bind fun bt386 => ((spec_l01Src_n.f t355 bt386.2.1 bt386.2.2.1 bt386.2.2.2 20).bind fun bt390 => ((spec_l01Max.f 0 (wrap64 (bt390.1 - 18))).bind fun t394 => (some (t360, t361, t362, t363, rd y378 bt381.1, wrap64 (bt386.1 - t394)))))) else (none)) else (none)))) else ((spec_l01Src_n.f t355 t375 t376 t377 15).bind fun bt395 => ((spec_l01Src_n.f t355 bt395.2.1 bt395.2.2.1 bt395.2.2.2 20).bind fun bt399 => ((spec_l01Max.f 0 (wrap64 (bt399.1 - 18))).bind fun t403 => (some (t360, t361, t362, t363, wrap64 ((wrap64 (t361 + t370)) - 4), wrap64 (bt395.1 - t403))))))) = some (r1, r2, r3, r4, r5, r6) := H
  have A5 := Aside0.mk A50
  clear A50
  by_cases c6 : t374 = true
  · subst c6
    have H1 : ((some (([0, 999999, 1000000, 1] : List Int) : List Int)).bind fun y378 => ((spec_l01Src_n.f t355 t375 t376 t377 4).bind fun bt381 => (if 0 ≤ bt381.1 then (if bt381.1 < (y378.length : Int) then ((spec_l01Src_n.f t355 bt381.2.1 bt381.2.2.1 bt381.2.2.2 15).bind fun bt386 => ((spec_l01Src_n.f t355 bt386.2.1 bt386.2.2.1 bt386.2.2.2 20).bind fun bt390 => ((spec_l01Max.f 0 (wrap64 (bt390.1 - 18))).bind fun t394 => (some (t360, t361, t362, t363, rd y378 bt381.1, wrap64 (bt386.1 - t394)))))) else (none)) else (none)))) = some (r1, r2, r3, r4, r5, r6) := by rw [if_pos rfl] at H; exact H
    clear H
    have H := H1
    clear H1
    obtain ⟨y378, hy378⟩ : ∃ y_ : List Int, y_ = (([0, 999999, 1000000, 1] : List Int)) := ⟨_, rfl⟩
    replace H : ((spec_l01Src_n.f t355 t375 t376 t377 4).bind fun bt381 => (if 0 ≤ bt381.1 then (if bt381.1 < (y378.length : Int) then ((spec_l01Src_n.f t355 bt381.2.1 bt381.2.2.1 bt381.2.2.2 15).bind fun bt386 => ((spec_l01Src_n.f t355 bt386.2.1 bt386.2.2.1 bt386.2.2.2 20).bind fun bt390 => ((spec_l01Max.f 0 (wrap64 (bt390.1 - 18))).bind fun t394 => (some (t360, t361, t362, t363, rd y378 bt381.1, wrap64 (bt386.1 - t394)))))) else (none)) else (none))) = some (r1, r2, r3, r4, r5, r6) := by first | (rw [hy378]; with_reducible exact H) | (have H2_ := (Option.bind_some _ _).symm.trans H; rw [hy378]; with_reducible exact H2_) | (have H2_ := (Option.bind_some _ _).symm.trans H; with_reducible exact H2_) | with_reducible exact H | (rw [hy378]; exact H) | exact H
    have Ny378 := Aside0.mk hy378
    clear hy378
    replace H := Option.bind_eq_some_iff.mp H
    obtain ⟨⟨t381, t382, t383, t384⟩, A70, H⟩ := H
    replace H : (if 0 ≤ t381 then (if t381 < (y378.length : Int) then ((spec_l01Src_n.f t355 t382 t383 t384 15).bind fun bt386 => ((spec_l01Src_n.f t355 bt386.2.1 bt386.2.2.1 bt386.2.2.2 20).bind fun bt390 => ((spec_l01Max.f 0 (wrap64 (bt390.1 - 18))).bind fun t394 => (some (t360, t361, t362, t363, rd y378 t381, wrap64 (bt386.1 - t394)))))) else (none)) else (none)) = some (r1, r2, r3, r4, r5, r6) := H
    have A7 := Aside0.mk A70
    clear A70
    by_cases c8 : 0 ≤ t381
    · rw [if_pos c8] at H
      have c8b0 : decide (0 ≤ t381) = true := decide_eq_true c8
      clear c8
      by_cases c9 : t381 < (y378.length : Int)
      · rw [if_pos c9] at H
        have c9b0 : decide (t381 < (y378.length : Int)) = true := decide_eq_true c9
        clear c9
        replace H := Option.bind_eq_some_iff.mp H
        obtain ⟨⟨t386, t387, t388, t389⟩, A100, H⟩ := H
        replace H : ((spec_l01Src_n.f t355 t387 t388 t389 20).bind fun bt390 => ((spec_l01Max.f 0 (wrap64 (bt390.1 - 18))).bind fun t394 => (some (t360, t361, t362, t363, rd y378 t381, wrap64 (t386 - t394))))) = some (r1, r2, r3, r4, r5, r6) := H
        have A10 := Aside0.mk A100
        clear A100
        replace H := Option.bind_eq_some_iff.mp H
        obtain ⟨⟨t390, t391, t392, t393⟩, A110, H⟩ := H
        replace H : ((spec_l01Max.f 0 (wrap64 (t390 - 18))).bind fun t394 => (some (t360, t361, t362, t363, rd y378 t381, wrap64 (t386 - t394)))) = some (r1, r2, r3, r4, r5, r6) := H
        have A11 := Aside0.mk A110
        clear A110
        replace H := Option.bind_eq_some_iff.mp H
        obtain ⟨t394, A120, H⟩ := H
        replace H : (some (t360, t361, t362, t363, rd y378 t381, wrap64 (t386 - t394))) = some (r1, r2, r3, r4, r5, r6) := H
        have A12 := Aside0.mk A120
        clear A120
        simp only [Option.some.injEq, Prod.mk.injEq] at H
        obtain ⟨rfl, rfl, rfl, rfl, rfl, rfl⟩ := H
        go_enter Try.func50, Try.ntmps50
        try go_wp2_with (first | ((with_reducible refine gate_dst (N := 2) rfl ?_); refine box_event ?hg (N := 2) ?hd (cs := #[.string (⟨#[]⟩ : ByteArray), .int .i64 0, .int .i64 0, .slice none 0 0]) (t := 51) ?hr ?_; (case hd => rfl); (case hg => rfl); (case hr => exact hr_); intro gb354 hg w13 hbox hb; have n0_ := Aside0.mk (below_step bl_ hb); have n1_ := Aside0.mk (hbox); have n2_ := Aside0.mk (gw_ hg bl_); have n3_ := Aside0.mk (gw_ hg bl_); clear HB; have HB := n0_; have BK354 := n1_; have GW354 := n2_; have GE354 := n3_; clear n0_ n1_ n2_ n3_; clear hb hbox hg) | ((with_reducible refine gate_callee (f := 71) rfl ?_); refine gl_ 9 Try.func71 #[.slice A0 l0.length c0] ?_ rfl rfl rfl rfl; (with_reducible refine (spec_l01Source.calls k _ _ l0 t355 t356 t357 t358 w _ ?side1 ?side2 ?side3 A2.out).mono ?_); (case side1 => exact au14_12); (case side2 => exact HR0.out); (case side3 => exact HC0.out); rintro e w14 ⟨g359, rfl, hi, hb, hb2⟩; refine ⟨_, rfl, ?_⟩; have n0_ := Aside0.mk (blkb_ BK354 hb2); have n1_ := Aside0.mk (hb); have n2_ := Aside0.mk (hi); have n3_ := Aside0.mk (IsS116.ne_blk hi (blkb_ BK354 hb2) (by decide)); have n4_ := Aside0.mk (Ne.symm (IsS116.ne_blk hi (blkb_ BK354 hb2) (by decide))); clear BK354; clear HB; have BK354 := n0_; have HB := n1_; have HI359 := n2_; have NB359_354 := n3_; have NB354_359 := n4_; clear n0_ n1_ n2_ n3_ n4_; (try clear hb); (try clear hb2); (try clear hk); (try clear hi)) | ((with_reducible refine gate_callee (f := 100) rfl ?_); refine gl_ 11 Try.func100 #[.pointer (some ⟨g359, 0, none⟩)] ?_ rfl rfl rfl rfl; (with_reducible refine (spec_l01Src_l07Partner.calls k g359 t355 t356 t357 t358 t360 t361 t362 t363 t366 t367 t368 w _ ?side1 ?side2 A3.out).mono ?_); (case side1 => exact au14_10); (case side2 => exact au14_11); rintro e w15 ⟨v364, rfl, ho0, hi, hb, hk⟩; refine ⟨_, rfl, ?_⟩; have n0_ := Aside0.mk (KeepBut.blk hk (g' := gb354) (o := .cells #[.string (⟨#[]⟩ : ByteArray), .int .i64 0, .int .i64 0, .slice none 0 0] 51 (0, 0)) (bk_ BK354) NB354_359.out (by simp)); have n1_ := Aside0.mk (Kd.R_lower ho0 (below_size au14_2)); have n2_ := Aside0.mk (hb); have n3_ := Aside0.mk (hi); clear BK354; clear HB; clear HI359; have BK354 := n0_; have HO365 := n1_; have HB := n2_; have HI359 := n3_; clear n0_ n1_ n2_ n3_; (try clear hb); (try clear hb2); (try clear hk); (try clear hi); (try clear ho0)) | ((with_reducible refine gate_dst (N := 6) rfl ?_); refine box_event ?hg (N := 6) ?hd (cs := #[.string (⟨#[]⟩ : ByteArray), .int .i64 0, .int .i64 0, .slice none 0 0]) (t := 51) ?hr ?_; (case hd => rfl); (case hg => rfl); (case hr => exact hr_); intro gb369 hg w16 hbox hb; have n0_ := Aside0.mk (Kd.R_below (rk_ HO365) hb); have n1_ := Aside0.mk (blkb_ BK354 hb); have n2_ := Aside0.mk (IsS116.below au14_9 hb); have n3_ := Aside0.mk (below_step au14_2 hb); have n4_ := Aside0.mk (hbox); have n5_ := Aside0.mk ((by rw [hg]; exact (below_size au14_2) : w.heap.size ≤ gb369)); have n6_ := Aside0.mk ((by rw [hg]; exact (below_size au14_2) : w.heap.size ≤ gb369)); have n7_ := Aside0.mk (gn_ hg (blkl_ BK354)); have n8_ := Aside0.mk (gm_ hg (blkl_ BK354)); have n9_ := Aside0.mk ((by rw [hg]; exact Nat.ne_of_lt (IsS116.lt (show IsS116 w _ g359 t355 t366 t367 t368 from by repeat (first | (with_reducible first | exact HI359.out | apply IsS116.alloc | apply IsS116.drewN | apply IsS116.drew | apply IsS116.set_1 | apply IsS116.set_2 | apply IsS116.set_3 | refine IsS116.far ?_ NB359_354.out _) | exact HI359.out))) : g359 ≠ gb369)); have n10_ := Aside0.mk ((by rw [hg]; exact Nat.ne_of_gt (IsS116.lt (show IsS116 w _ g359 t355 t366 t367 t368 from by repeat (first | (with_reducible first | exact HI359.out | apply IsS116.alloc | apply IsS116.drewN | apply IsS116.drew | apply IsS116.set_1 | apply IsS116.set_2 | apply IsS116.set_3 | refine IsS116.far ?_ NB359_354.out _) | exact HI359.out))) : gb369 ≠ g359)); clear HO365; clear BK354; clear HI359; clear HB; have HO365 := n0_; have BK354 := n1_; have HI359 := n2_; have HB := n3_; have BK369 := n4_; have GW369 := n5_; have GE369 := n6_; have NB354_369 := n7_; have NB369_354 := n8_; have NB359_369 := n9_; have NB369_359 := n10_; clear n0_ n1_ n2_ n3_ n4_ n5_ n6_ n7_ n8_ n9_ n10_; clear hb hbox hg; have hnb17 := NB369_354.out; have hnc17 := NB354_369.out; have hnb18 := NB369_359.out; have hnc18 := NB359_369.out; obtain ⟨hcz19_0, hcz19_1, hcz19_2, hcz19_3, hfz19_0, hfz19_1, hfz19_2, hfz19_3⟩ := cellsF4 BK369.out; obtain ⟨Ao20, co20, eo20⟩ := Kd.R_slice HO365.out; subst eo20))
        have n0_ : Aside0 (Kd.R k62 62 ((((w16.setCell ⟨gb369, 0, none⟩ (.string t360)).setCell ⟨gb369, 1, none⟩ (.int .i64 t361)).setCell ⟨gb369, 2, none⟩ (.int .i64 t362)).setCell ⟨gb369, 3, none⟩ (.slice Ao20 t363.length co20)) w.heap.size (fun _ => True) (.slice Ao20 t363.length co20) t363) := ⟨by (with_reducible repeat (first | apply Kd.R_alloc | apply Kd.R_drewN | apply Kd.R_drew)); exact Kd.R_mono (Kd.R_far (p := ⟨gb369, 3, none⟩) (Kd.R_far (p := ⟨gb369, 2, none⟩) (Kd.R_far (p := ⟨gb369, 1, none⟩) (Kd.R_far (p := ⟨gb369, 0, none⟩) (Kd.R_types HO365.out BK369.out (by decide)) (fun _ hk => hk.2) (.string t360)) (fun _ hk => hk.2) (.int .i64 t361)) (fun _ hk => hk.2) (.int .i64 t362)) (fun _ hk => hk.2) (.slice Ao20 t363.length co20)) (fun _ hk => trivial)⟩
        have n1_ : Aside0 (((((w16.setCell ⟨gb369, 0, none⟩ (.string t360)).setCell ⟨gb369, 1, none⟩ (.int .i64 t361)).setCell ⟨gb369, 2, none⟩ (.int .i64 t362)).setCell ⟨gb369, 3, none⟩ (.slice Ao20 t363.length co20)).heap[gb354]? = some (.cells #[.string (⟨#[]⟩ : ByteArray), .int .i64 0, .int .i64 0, .slice none 0 0] 51 (0, 0))) := ⟨au14_6⟩
        have n2_ : Aside0 (((((w16.setCell ⟨gb369, 0, none⟩ (.string t360)).setCell ⟨gb369, 1, none⟩ (.int .i64 t361)).setCell ⟨gb369, 2, none⟩ (.int .i64 t362)).setCell ⟨gb369, 3, none⟩ (.slice Ao20 t363.length co20)).heap[gb369]? = some (.cells #[.string t360, .int .i64 t361, .int .i64 t362, .slice Ao20 t363.length co20] 51 (0, 0))) := ⟨au14_4⟩
        have n3_ : Aside0 (IsS116 w ((((w16.setCell ⟨gb369, 0, none⟩ (.string t360)).setCell ⟨gb369, 1, none⟩ (.int .i64 t361)).setCell ⟨gb369, 2, none⟩ (.int .i64 t362)).setCell ⟨gb369, 3, none⟩ (.slice Ao20 t363.length co20)) g359 t355 t366 t367 t368) := ⟨au14_7⟩
        have n4_ : Aside0 (Below w.heap.size w ((((w16.setCell ⟨gb369, 0, none⟩ (.string t360)).setCell ⟨gb369, 1, none⟩ (.int .i64 t361)).setCell ⟨gb369, 2, none⟩ (.int .i64 t362)).setCell ⟨gb369, 3, none⟩ (.slice Ao20 t363.length co20))) := ⟨au14_5⟩
        (try clear HO365)
        (try clear BK354)
        (try clear BK369)
        (try clear HI359)
        (try clear HB)
        generalize ((((w16.setCell ⟨gb369, 0, none⟩ (.string t360)).setCell ⟨gb369, 1, none⟩ (.int .i64 t361)).setCell ⟨gb369, 2, none⟩ (.int .i64 t362)).setCell ⟨gb369, 3, none⟩ (.slice Ao20 t363.length co20)) = w21 at n0_ n1_ n2_ n3_ n4_ ⊢
        have HO365 := n0_
        have BK354 := n1_
        have BK369 := n2_
        have HI359 := n3_
        have HB := n4_
        clear n0_ n1_ n2_ n3_ n4_
        have n0_ := Aside0.mk (Kd.R_drew HO365.out)
        have n1_ := Aside0.mk (blk_drew BK354.out)
        have n2_ := Aside0.mk (blk_drew BK369.out)
        have n3_ := Aside0.mk (IsS116.drew HI359.out)
        have n4_ := Aside0.mk (below_drew1 HB.out)
        clear HO365
        clear BK354
        clear BK369
        clear HI359
        clear HB
        have HO365 := n0_
        have BK354 := n1_
        have BK369 := n2_
        have HI359 := n3_
        have HB := n4_
        clear n0_ n1_ n2_ n3_ n4_
        refine start_ (n := 7) (S := fun w' => w'.cell? ⟨gb369, 0, none⟩ = some (.string t360) ∧ w'.cell? ⟨gb369, 1, none⟩ = some (.int .i64 t361) ∧ w'.cell? ⟨gb369, 2, none⟩ = some (.int .i64 t362) ∧ w'.cell? ⟨gb369, 3, none⟩ = some (.slice Ao20 t363.length co20)) (ds := []) (bs 7 0) (by kernel_rfl) rfl rfl ⟨(blk_cell BK369.out 0).trans rfl, (blk_cell BK369.out 1).trans rfl, (blk_cell BK369.out 2).trans rfl, (blk_cell BK369.out 3).trans rfl⟩ (fun hHeld => ?_)
        generalize w21.drew = w22 at HO365 BK354 BK369 HI359 HB hHeld ⊢
        refine pure_ (i := 0) (N := some 12) (v := ?_) (a' := ?_) (bs 7 1) rfl rfl (by kernel_rfl) (fun _ _ _ h => h) (Or.inl ⟨by rfl, ?_⟩) ?_ ?_
        rotate_left
        · intro w'
          go_simp
          with_reducible rfl
        rotate_left
        · simp only [Act.put, List.setIfInBounds_toArray, List.set_cons_zero, List.set_cons_succ, i64_w, i32_w]
          rfl
        refine pure_ (i := 2) (N := some 14) (v := ?_) (a' := ?_) (bs 7 5) rfl rfl (by kernel_rfl) (fun _ _ _ h => h) (Or.inl ⟨by rfl, ?_⟩) ?_ ?_
        rotate_left
        · intro w'
          go_simp
          with_reducible rfl
        rotate_left
        · simp only [Act.put, List.setIfInBounds_toArray, List.set_cons_zero, List.set_cons_succ, i64_w, i32_w]
          rfl
        refine take_ (i := 1) (N := some 13) (v := ?_) (a' := ?_) (bs 7 7) rfl rfl (by kernel_rfl) (fun _ _ _ h => h) (Or.inl ⟨by rfl, ?_⟩) hHeld ?_ ?_
        rotate_left
        · rintro w' ⟨s0, s1, s2, s3⟩
          go_simp
          with_reducible rfl
        rotate_left
        · simp only [Act.put, List.setIfInBounds_toArray, List.set_cons_zero, List.set_cons_succ, i64_w, i32_w]
          rfl
        refine one_ (i := 3) (N := some 15) (bs 7 15) rfl rfl (by kernel_rfl) (by decide) (fun K hK => ?_)
        refine gr_ Try.func101 #[.pointer (some ⟨g359, 0, none⟩), .int .i64 70] (by rfl) ?_ rfl rfl rfl
        with_reducible refine (spec_l01Src_n.calls g359 t355 t366 t367 t368 70 t370 t371 t372 t373 w _ ?side1 ?side2 A4.out).mono ?_
        (case side1 => exact au14_0)
        (case side2 => exact au14_1)
        rintro e w23 ⟨rfl, hi, hb, hk⟩
        refine ⟨_, rfl, ?_⟩
        have n0_ := Aside0.mk (KeepBut.blk hk (g' := gb354) (o := .cells #[.string (⟨#[]⟩ : ByteArray), .int .i64 0, .int .i64 0, .slice none 0 0] 51 (0, 0)) (bk_ BK354) NB354_359.out (by simp))
        have n1_ := Aside0.mk (Kd.R_mono (Kd.R_keep (IsS116.apart (show IsS116 w _ g359 t355 t366 t367 t368 from by repeat (first | (with_reducible first | exact HI359.out | apply IsS116.alloc | apply IsS116.drewN | apply IsS116.drew | apply IsS116.set_1 | apply IsS116.set_2 | apply IsS116.set_3 | refine IsS116.far ?_ NB359_354.out _ | refine IsS116.far ?_ NB359_369.out _) | exact HI359.out)) (rk_ HO365) (by decide)) hk (fun _ h => h.2)) (fun _ h => h.1))
        have n2_ := Aside0.mk (KeepBut.blk hk (g' := gb369) (o := .cells #[.string t360, .int .i64 t361, .int .i64 t362, .slice Ao20 t363.length co20] 51 (0, 0)) (bk_ BK369) NB369_359.out (by simp))
        have n3_ := Aside0.mk (hb)
        have n4_ := Aside0.mk (hi)
        clear BK354
        clear HO365
        clear BK369
        clear HB
        clear HI359
        have BK354 := n0_
        have HO365 := n1_
        have BK369 := n2_
        have HB := n3_
        have HI359 := n4_
        clear n0_ n1_ n2_ n3_ n4_
        (try clear hb)
        (try clear hb2)
        (try clear hk)
        (try clear hi)
        refine hK.out _ _ ⟨(blk_cell BK369.out 0).trans rfl, (blk_cell BK369.out 1).trans rfl, (blk_cell BK369.out 2).trans rfl, (blk_cell BK369.out 3).trans rfl⟩ (fun hHeld => ?_)
        clear hK K
        refine norm_ (a' := ?_) ?_ ?_
        rotate_left
        · show Act.put _ (some 15) _ = _
          simp only [Act.put, List.setIfInBounds_toArray, List.set_cons_zero, List.set_cons_succ, i64_w, i32_w]
          rfl
        refine pure_ (i := 4) (N := some 16) (v := ?_) (a' := ?_) (bs 7 31) rfl rfl (by kernel_rfl) (fun _ _ _ h => h) (Or.inl ⟨by rfl, ?_⟩) ?_ ?_
        rotate_left
        · intro w'
          go_simp
          with_reducible rfl
        rotate_left
        · simp only [Act.put, List.setIfInBounds_toArray, List.set_cons_zero, List.set_cons_succ, i64_w, i32_w]
          rfl
        refine pure_ (i := 5) (N := some 17) (v := ?_) (a' := ?_) (bs 7 63) rfl rfl (by kernel_rfl) (fun _ _ _ h => h) (Or.inl ⟨by rfl, ?_⟩) ?_ ?_
        rotate_left
        · intro w'
          go_simp
          with_reducible rfl
        rotate_left
        · simp only [Act.put, List.setIfInBounds_toArray, List.set_cons_zero, List.set_cons_succ, i64_w, i32_w]
          rfl
        refine pure_ (i := 6) (N := some 7) (v := ?_) (a' := ?_) (bs 7 127) rfl rfl (by kernel_rfl) (fun _ _ _ h => h) (Or.inl ⟨by rfl, ?_⟩) ?_ ?_
        rotate_left
        · intro w'
          go_simp
          with_reducible rfl
        rotate_left
        · simp only [Act.put, List.setIfInBounds_toArray, List.set_cons_zero, List.set_cons_succ, i64_w, i32_w]
          rfl
        refine done_ (by kernel_rfl) ?_
        try go_wp2_with (first | ((with_reducible refine gate_callee (f := 74) rfl ?_); refine gl_ 19 Try.func74 #[.pointer (some ⟨g359, 0, none⟩), .int .i64 10] ?_ rfl rfl rfl rfl; (with_reducible refine (spec_l01Src_one.calls g359 t355 t371 t372 t373 10 true t375 t376 t377 w _ ?side1 ?side2 A5.out).mono ?_); (case side1 => exact au14_0); (case side2 => exact au14_1); rintro e w24 ⟨rfl, hi, hb, hk⟩; refine ⟨_, rfl, ?_⟩; have n0_ := Aside0.mk (KeepBut.blk hk (g' := gb354) (o := .cells #[.string (⟨#[]⟩ : ByteArray), .int .i64 0, .int .i64 0, .slice none 0 0] 51 (0, 0)) (bk_ BK354) NB354_359.out (by simp)); have n1_ := Aside0.mk (Kd.R_mono (Kd.R_keep (IsS116.apart (show IsS116 w _ g359 t355 t371 t372 t373 from by repeat (first | (with_reducible first | exact HI359.out | apply IsS116.alloc | apply IsS116.drewN | apply IsS116.drew | apply IsS116.set_1 | apply IsS116.set_2 | apply IsS116.set_3 | refine IsS116.far ?_ NB359_354.out _ | refine IsS116.far ?_ NB359_369.out _) | exact HI359.out)) (rk_ HO365) (by decide)) hk (fun _ h => h.2)) (fun _ h => h.1)); have n2_ := Aside0.mk (KeepBut.blk hk (g' := gb369) (o := .cells #[.string t360, .int .i64 t361, .int .i64 t362, .slice Ao20 t363.length co20] 51 (0, 0)) (bk_ BK369) NB369_359.out (by simp)); have n3_ := Aside0.mk (hb); have n4_ := Aside0.mk (hi); clear BK354; clear HO365; clear BK369; clear HB; clear HI359; have BK354 := n0_; have HO365 := n1_; have BK369 := n2_; have HB := n3_; have HI359 := n4_; clear n0_ n1_ n2_ n3_ n4_; (try clear hb); (try clear hb2); (try clear hk); (try clear hi)) | ((with_reducible refine gate_dst (N := 20) rfl ?_); refine Kd.R_lit (Kd.int .i64) _ 2 ?hg (N := 20) ?hd (xs := ([0, 999999, 1000000, 1] : List Int)) (inner := [.int .i64 0, .int .i64 999999, .int .i64 1000000, .int .i64 1]) (ok := fun _ => True) (okp := fun _ => True) ?hr ?hp (fun _ hk => hk) trivial (Below.refl _ _) (Nat.le_refl _) (by simp) ?_; (case hd => rfl); (case hg => rfl); (case hr => exact hr_); (case hp => exact (Reps.one (show Kd.M (Kd.int .i64) _ _ _ 0 [.int .i64 0] from rfl) (Reps.one (show Kd.M (Kd.int .i64) _ _ _ 999999 [.int .i64 999999] from rfl) (Reps.one (show Kd.M (Kd.int .i64) _ _ _ 1000000 [.int .i64 1000000] from rfl) (Reps.one (show Kd.M (Kd.int .i64) _ _ _ 1 [.int .i64 1] from rfl) (Reps.none _ _)))))); intro v379 w25 ho26 hb hg_ hnew_; clear hg_ hnew_; (first | rw [← Ny378.out] at ho26 | (simp only [Int.reduceToNat] at ho26; rw [← Ny378.out] at ho26)); have n0_ := Aside0.mk (Kd.R_below (rk_ HO365) hb); have n1_ := Aside0.mk (Kd.R_lower ho26 (below_size au14_8)); have n2_ := Aside0.mk (blkb_ BK354 hb); have n3_ := Aside0.mk (IsS116.below (by repeat (first | (with_reducible first | exact HI359.out | apply IsS116.alloc | apply IsS116.drewN | apply IsS116.drew | apply IsS116.set_1 | apply IsS116.set_2 | apply IsS116.set_3 | refine IsS116.far ?_ NB359_354.out _ | refine IsS116.far ?_ NB359_369.out _) | exact HI359.out)) hb); have n4_ := Aside0.mk (blkb_ BK369 hb); have n5_ := Aside0.mk (below_step au14_8 hb); clear HO365; clear BK354; clear HI359; clear BK369; clear HB; have HO365 := n0_; have HO380 := n1_; have BK354 := n2_; have HI359 := n3_; have BK369 := n4_; have HB := n5_; clear n0_ n1_ n2_ n3_ n4_ n5_; clear hb ho26) | ((with_reducible refine gate_callee (f := 101) rfl ?_); refine gl_ 22 Try.func101 #[.pointer (some ⟨g359, 0, none⟩), .int .i64 4] ?_ rfl rfl rfl rfl; (with_reducible refine (spec_l01Src_n.calls g359 t355 t375 t376 t377 4 t381 t382 t383 t384 w _ ?side1 ?side2 A7.out).mono ?_); (case side1 => exact au14_0); (case side2 => exact au14_1); rintro e w27 ⟨rfl, hi, hb, hk⟩; refine ⟨_, rfl, ?_⟩; have n0_ := Aside0.mk (KeepBut.blk hk (g' := gb354) (o := .cells #[.string (⟨#[]⟩ : ByteArray), .int .i64 0, .int .i64 0, .slice none 0 0] 51 (0, 0)) (bk_ BK354) NB354_359.out (by simp)); have n1_ := Aside0.mk (Kd.R_mono (Kd.R_keep (IsS116.apart (show IsS116 w _ g359 t355 t375 t376 t377 from by repeat (first | (with_reducible first | exact HI359.out | apply IsS116.alloc | apply IsS116.drewN | apply IsS116.drew | apply IsS116.set_1 | apply IsS116.set_2 | apply IsS116.set_3 | refine IsS116.far ?_ NB359_354.out _ | refine IsS116.far ?_ NB359_369.out _) | exact HI359.out)) (rk_ HO365) (by decide)) hk (fun _ h => h.2)) (fun _ h => h.1)); have n2_ := Aside0.mk (KeepBut.blk hk (g' := gb369) (o := .cells #[.string t360, .int .i64 t361, .int .i64 t362, .slice Ao20 t363.length co20] 51 (0, 0)) (bk_ BK369) NB369_359.out (by simp)); have n3_ := Aside0.mk (Kd.R_mono (Kd.R_keep (IsS116.apart (show IsS116 w _ g359 t355 t375 t376 t377 from by repeat (first | (with_reducible first | exact HI359.out | apply IsS116.alloc | apply IsS116.drewN | apply IsS116.drew | apply IsS116.set_1 | apply IsS116.set_2 | apply IsS116.set_3 | refine IsS116.far ?_ NB359_354.out _ | refine IsS116.far ?_ NB359_369.out _) | exact HI359.out)) (rk_ HO380) (by decide)) hk (fun _ h => h.2)) (fun _ h => h.1)); have n4_ := Aside0.mk (hb); have n5_ := Aside0.mk (hi); clear BK354; clear HO365; clear BK369; clear HO380; clear HB; clear HI359; have BK354 := n0_; have HO365 := n1_; have BK369 := n2_; have HO380 := n3_; have HB := n4_; have HI359 := n5_; clear n0_ n1_ n2_ n3_ n4_ n5_; (try clear hb); (try clear hb2); (try clear hk); (try clear hi); obtain ⟨Ao28, co28, eo28⟩ := Kd.R_slice HO380.out; subst eo28; have p385 : 0 ≤ (t381 : Int) := of_decide_eq_true as_; have q385 : t381 < (y378.length : Int) := of_decide_eq_true as_; obtain ⟨ad385, e385, hx385_0⟩ := Kd.at_int (Kd.R_reads' HO380.out).2.2 t381 p385 q385; cases e385; replace p385 := eq_true p385; replace q385 := eq_true q385))
        have n0_ := Aside0.mk (Kd.R_drew HO365.out)
        have n1_ := Aside0.mk (Kd.R_drew HO380.out)
        have n2_ := Aside0.mk (blk_drew BK354.out)
        have n3_ := Aside0.mk (blk_drew BK369.out)
        have n4_ := Aside0.mk (IsS116.drew HI359.out)
        have n5_ := Aside0.mk (below_drew1 HB.out)
        clear HO365
        clear HO380
        clear BK354
        clear BK369
        clear HI359
        clear HB
        have HO365 := n0_
        have HO380 := n1_
        have BK354 := n2_
        have BK369 := n3_
        have HI359 := n4_
        have HB := n5_
        clear n0_ n1_ n2_ n3_ n4_ n5_
        refine start_ (n := 12) (S := fun w' => w'.cell? ⟨gb369, 0, none⟩ = some (.string t360) ∧ w'.cell? ⟨gb369, 1, none⟩ = some (.int .i64 t361) ∧ w'.cell? ⟨gb369, 2, none⟩ = some (.int .i64 t362) ∧ w'.cell? ⟨gb369, 3, none⟩ = some (.slice Ao20 t363.length co20)) (ds := []) (bs 12 0) (by kernel_rfl) rfl rfl ⟨(blk_cell BK369.out 0).trans rfl, (blk_cell BK369.out 1).trans rfl, (blk_cell BK369.out 2).trans rfl, (blk_cell BK369.out 3).trans rfl⟩ (fun hHeld => ?_); refine with_tabW spec_DrawPartnerTake.tab6 spec_DrawPartnerTake.bits6 (fun HT_ HW_ => ?_)
        generalize w27.drew = w29 at HO365 HO380 BK354 BK369 HI359 HB hHeld ⊢
        refine pu_ 1 26 (bs 12 2) HT_ ?_ rfl rfl
        refine pu_ 2 27 (bs 12 6) HT_ ?_ rfl rfl
        refine pu_ 4 29 (bs 12 22) HT_ ?_ rfl rfl
        refine tk_ 0 25 (bs 12 23) HT_ HW_ hHeld (by rintro w' ⟨s0, s1, s2, s3⟩; go_simp; with_reducible rfl) ?_ rfl rfl
        refine one_ (i := 3) (N := some 28) (bs 12 31) rfl rfl (one_of HT_.out (by kernel_rfl)) (by decide) (fun K hK => ?_)
        refine gr_ Try.func101 #[.pointer (some ⟨g359, 0, none⟩), .int .i64 15] (by rfl) ?_ rfl rfl rfl
        with_reducible refine (spec_l01Src_n.calls g359 t355 t382 t383 t384 15 t386 t387 t388 t389 w _ ?side1 ?side2 A10.out).mono ?_
        (case side1 => exact au14_0)
        (case side2 => exact au14_1)
        rintro e w30 ⟨rfl, hi, hb, hk⟩
        refine ⟨_, rfl, ?_⟩
        have n0_ := Aside0.mk (KeepBut.blk hk (g' := gb354) (o := .cells #[.string (⟨#[]⟩ : ByteArray), .int .i64 0, .int .i64 0, .slice none 0 0] 51 (0, 0)) (bk_ BK354) NB354_359.out (by simp))
        have n1_ := Aside0.mk (Kd.R_mono (Kd.R_keep (IsS116.apart (show IsS116 w _ g359 t355 t382 t383 t384 from by repeat (first | (with_reducible first | exact HI359.out | apply IsS116.alloc | apply IsS116.drewN | apply IsS116.drew | apply IsS116.set_1 | apply IsS116.set_2 | apply IsS116.set_3 | refine IsS116.far ?_ NB359_354.out _ | refine IsS116.far ?_ NB359_369.out _) | exact HI359.out)) (rk_ HO365) (by decide)) hk (fun _ h => h.2)) (fun _ h => h.1))
        have n2_ := Aside0.mk (KeepBut.blk hk (g' := gb369) (o := .cells #[.string t360, .int .i64 t361, .int .i64 t362, .slice Ao20 t363.length co20] 51 (0, 0)) (bk_ BK369) NB369_359.out (by simp))
        have n3_ := Aside0.mk (Kd.R_mono (Kd.R_keep (IsS116.apart (show IsS116 w _ g359 t355 t382 t383 t384 from by repeat (first | (with_reducible first | exact HI359.out | apply IsS116.alloc | apply IsS116.drewN | apply IsS116.drew | apply IsS116.set_1 | apply IsS116.set_2 | apply IsS116.set_3 | refine IsS116.far ?_ NB359_354.out _ | refine IsS116.far ?_ NB359_369.out _) | exact HI359.out)) (rk_ HO380) (by decide)) hk (fun _ h => h.2)) (fun _ h => h.1))
        have n4_ := Aside0.mk (hb)
        have n5_ := Aside0.mk (hi)
        clear BK354
        clear HO365
        clear BK369
        clear HO380
        clear HB
        clear HI359
        have BK354 := n0_
        have HO365 := n1_
        have BK369 := n2_
        have HO380 := n3_
        have HB := n4_
        have HI359 := n5_
        clear n0_ n1_ n2_ n3_ n4_ n5_
        (try clear hb)
        (try clear hb2)
        (try clear hk)
        (try clear hi)
        refine hK.out _ _ ⟨(blk_cell BK369.out 0).trans rfl, (blk_cell BK369.out 1).trans rfl, (blk_cell BK369.out 2).trans rfl, (blk_cell BK369.out 3).trans rfl⟩ (fun hHeld => ?_)
        clear hK K
        refine norm_ (a' := ?_) ?_ ?_
        rotate_left
        · show Act.put _ (some 28) _ = _
          simp only [Act.put, List.setIfInBounds_toArray, List.set_cons_zero, List.set_cons_succ, i64_w, i32_w]
          rfl
        refine one_ (i := 5) (N := some 30) (bs 12 63) rfl rfl (one_of HT_.out (by kernel_rfl)) (by decide) (fun K hK => ?_)
        refine gr_ Try.func101 #[.pointer (some ⟨g359, 0, none⟩), .int .i64 20] (by rfl) ?_ rfl rfl rfl
        with_reducible refine (spec_l01Src_n.calls g359 t355 t387 t388 t389 20 t390 t391 t392 t393 w _ ?side1 ?side2 A11.out).mono ?_
        (case side1 => exact au14_0)
        (case side2 => exact au14_1)
        rintro e w31 ⟨rfl, hi, hb, hk⟩
        refine ⟨_, rfl, ?_⟩
        have n0_ := Aside0.mk (KeepBut.blk hk (g' := gb354) (o := .cells #[.string (⟨#[]⟩ : ByteArray), .int .i64 0, .int .i64 0, .slice none 0 0] 51 (0, 0)) (bk_ BK354) NB354_359.out (by simp))
        have n1_ := Aside0.mk (Kd.R_mono (Kd.R_keep (IsS116.apart (show IsS116 w _ g359 t355 t387 t388 t389 from by repeat (first | (with_reducible first | exact HI359.out | apply IsS116.alloc | apply IsS116.drewN | apply IsS116.drew | apply IsS116.set_1 | apply IsS116.set_2 | apply IsS116.set_3 | refine IsS116.far ?_ NB359_354.out _ | refine IsS116.far ?_ NB359_369.out _) | exact HI359.out)) (rk_ HO365) (by decide)) hk (fun _ h => h.2)) (fun _ h => h.1))
        have n2_ := Aside0.mk (KeepBut.blk hk (g' := gb369) (o := .cells #[.string t360, .int .i64 t361, .int .i64 t362, .slice Ao20 t363.length co20] 51 (0, 0)) (bk_ BK369) NB369_359.out (by simp))
        have n3_ := Aside0.mk (Kd.R_mono (Kd.R_keep (IsS116.apart (show IsS116 w _ g359 t355 t387 t388 t389 from by repeat (first | (with_reducible first | exact HI359.out | apply IsS116.alloc | apply IsS116.drewN | apply IsS116.drew | apply IsS116.set_1 | apply IsS116.set_2 | apply IsS116.set_3 | refine IsS116.far ?_ NB359_354.out _ | refine IsS116.far ?_ NB359_369.out _) | exact HI359.out)) (rk_ HO380) (by decide)) hk (fun _ h => h.2)) (fun _ h => h.1))
        have n4_ := Aside0.mk (hb)
        have n5_ := Aside0.mk (hi)
        clear BK354
        clear HO365
        clear BK369
        clear HO380
        clear HB
        clear HI359
        have BK354 := n0_
        have HO365 := n1_
        have BK369 := n2_
        have HO380 := n3_
        have HB := n4_
        have HI359 := n5_
        clear n0_ n1_ n2_ n3_ n4_ n5_
        (try clear hb)
        (try clear hb2)
        (try clear hk)
        (try clear hi)
        refine hK.out _ _ ⟨(blk_cell BK369.out 0).trans rfl, (blk_cell BK369.out 1).trans rfl, (blk_cell BK369.out 2).trans rfl, (blk_cell BK369.out 3).trans rfl⟩ (fun hHeld => ?_)
        clear hK K
        refine norm_ (a' := ?_) ?_ ?_
        rotate_left
        · show Act.put _ (some 30) _ = _
          simp only [Act.put, List.setIfInBounds_toArray, List.set_cons_zero, List.set_cons_succ, i64_w, i32_w]
          rfl
        refine pu_ 6 31 (bs 12 127) HT_ ?_ rfl rfl
        refine one_ (i := 7) (N := some 32) (bs 12 255) rfl rfl (one_of HT_.out (by kernel_rfl)) (by decide) (fun K hK => ?_)
        refine gr_ Try.func90 #[.int .i64 0, .int .i64 (wrap64 (t390 - 18))] (by rfl) ?_ rfl rfl rfl
        with_reducible refine (spec_l01Max.calls 0 (wrap64 (t390 - 18)) t394 _ A12.out).mono ?_
        rintro e w' ⟨rfl, ⟨nd, rfl⟩⟩
        refine ⟨_, rfl, ?_⟩
        refine hK.out _ _ ⟨(blk_cell BK369.out 0).trans rfl, (blk_cell BK369.out 1).trans rfl, (blk_cell BK369.out 2).trans rfl, (blk_cell BK369.out 3).trans rfl⟩ (fun hHeld => ?_)
        clear hK K
        refine norm_ (a' := ?_) ?_ ?_
        rotate_left
        · show Act.put _ (some 32) _ = _
          simp only [Act.put, List.setIfInBounds_toArray, List.set_cons_zero, List.set_cons_succ, i64_w, i32_w]
          rfl
        refine pu_ 8 33 (bs 12 511) HT_ ?_ rfl rfl
        refine one_ (i := 9) (N := none) (bs 12 1023) rfl rfl (one_of HT_.out (by kernel_rfl)) (by decide) (fun K hK => ?_)
        have hs32 : w31.cell? ⟨gb354, 0, none⟩ = some (.string (⟨#[]⟩ : ByteArray)) := (blk_cell BK354.out 0).trans rfl
        have hfs32 := blk_frozen BK354.out 0
        have hns32_1 := NB369_354.out
        have hms32_1 := NB354_369.out
        have hs33 : w31.cell? ⟨gb354, 1, none⟩ = some (.int .i64 0) := (blk_cell BK354.out 1).trans rfl
        have hfs33 := blk_frozen BK354.out 1
        have hns33_1 := NB369_354.out
        have hms33_1 := NB354_369.out
        have hs34 : w31.cell? ⟨gb354, 2, none⟩ = some (.int .i64 0) := (blk_cell BK354.out 2).trans rfl
        have hfs34 := blk_frozen BK354.out 2
        have hns34_1 := NB369_354.out
        have hms34_1 := NB354_369.out
        have hs35 : w31.cell? ⟨gb354, 3, none⟩ = some (.slice none 0 0) := (blk_cell BK354.out 3).trans rfl
        have hfs35 := blk_frozen BK354.out 3
        have hns35_1 := NB369_354.out
        have hms35_1 := NB354_369.out
        refine skip_ (w1 := ?_) (by rfl) rfl ?_ ?_
        rotate_left
        · go_simp
          rfl
        refine hK.out _ _ ⟨((cell_far (p := ⟨gb354, _, none⟩) NB369_354.out _).trans (((cell_far (p := ⟨gb354, _, none⟩) NB369_354.out _).trans (((cell_far (p := ⟨gb354, _, none⟩) NB369_354.out _).trans (((cell_far (p := ⟨gb354, _, none⟩) NB369_354.out _).trans (hHeld.1)))))))), ((cell_far (p := ⟨gb354, _, none⟩) NB369_354.out _).trans (((cell_far (p := ⟨gb354, _, none⟩) NB369_354.out _).trans (((cell_far (p := ⟨gb354, _, none⟩) NB369_354.out _).trans (((cell_far (p := ⟨gb354, _, none⟩) NB369_354.out _).trans (hHeld.2.1)))))))), ((cell_far (p := ⟨gb354, _, none⟩) NB369_354.out _).trans (((cell_far (p := ⟨gb354, _, none⟩) NB369_354.out _).trans (((cell_far (p := ⟨gb354, _, none⟩) NB369_354.out _).trans (((cell_far (p := ⟨gb354, _, none⟩) NB369_354.out _).trans (hHeld.2.2.1)))))))), ((cell_far (p := ⟨gb354, _, none⟩) NB369_354.out _).trans (((cell_far (p := ⟨gb354, _, none⟩) NB369_354.out _).trans (((cell_far (p := ⟨gb354, _, none⟩) NB369_354.out _).trans (((cell_far (p := ⟨gb354, _, none⟩) NB369_354.out _).trans (hHeld.2.2.2))))))))⟩ (fun hHeld => ?_)
        clear hK K
        refine pu_ 10 3 (bs 12 2047) HT_ ?_ rfl rfl
        refine pu_ 11 4 (bs 12 4095) HT_ ?_ rfl rfl
        refine done_ (done_of HT_.out (by kernel_rfl)) ?_
        try go_wp2
        refine bodyPost_ret (results_ctt rfl _ _ gb354 51 #[.string t360, .int .i64 t361, .int .i64 t362, .slice Ao20 t363.length co20] (0, 0) _ rfl au14_3 Try.underlying51 rfl (by kernel_rfl)) rfl ?_
        exact ⟨_, au14_13, by (with_reducible repeat (first | apply Kd.R_alloc | apply Kd.R_drewN | apply Kd.R_drew)); exact Kd.R_mono (Kd.R_far (p := ⟨gb354, 3, none⟩) (Kd.R_far (p := ⟨gb354, 2, none⟩) (Kd.R_far (p := ⟨gb354, 1, none⟩) (Kd.R_far (p := ⟨gb354, 0, none⟩) (Kd.R_types HO365.out BK354.out (by decide)) (fun _ hk => hk.2) (.string t360)) (fun _ hk => hk.2) (.int .i64 t361)) (fun _ hk => hk.2) (.int .i64 t362)) (fun _ hk => hk.2) (.slice Ao20 t363.length co20)) (fun _ hk => trivial), au14_5⟩
      · rw [if_neg c9] at H
        exact absurd H (by simp)
    · rw [if_neg c8] at H
      exact absurd H (by simp)
  · replace c6 := Bool.eq_false_iff.mpr c6
    subst c6
    have H1 : ((spec_l01Src_n.f t355 t375 t376 t377 15).bind fun bt395 => ((spec_l01Src_n.f t355 bt395.2.1 bt395.2.2.1 bt395.2.2.2 20).bind fun bt399 => ((spec_l01Max.f 0 (wrap64 (bt399.1 - 18))).bind fun t403 => (some (t360, t361, t362, t363, wrap64 ((wrap64 (t361 + t370)) - 4), wrap64 (bt395.1 - t403)))))) = some (r1, r2, r3, r4, r5, r6) := by rw [if_neg (show ¬ (false = true) by decide)] at H; exact H
    clear H
    have H := H1
    clear H1
    replace H := Option.bind_eq_some_iff.mp H
    obtain ⟨⟨t395, t396, t397, t398⟩, A360, H⟩ := H
    replace H : ((spec_l01Src_n.f t355 t396 t397 t398 20).bind fun bt399 => ((spec_l01Max.f 0 (wrap64 (bt399.1 - 18))).bind fun t403 => (some (t360, t361, t362, t363, wrap64 ((wrap64 (t361 + t370)) - 4), wrap64 (t395 - t403))))) = some (r1, r2, r3, r4, r5, r6) := H
    have A36 := Aside0.mk A360
    clear A360
    replace H := Option.bind_eq_some_iff.mp H
    obtain ⟨⟨t399, t400, t401, t402⟩, A370, H⟩ := H
    replace H : ((spec_l01Max.f 0 (wrap64 (t399 - 18))).bind fun t403 => (some (t360, t361, t362, t363, wrap64 ((wrap64 (t361 + t370)) - 4), wrap64 (t395 - t403)))) = some (r1, r2, r3, r4, r5, r6) := H
    have A37 := Aside0.mk A370
    clear A370
    replace H := Option.bind_eq_some_iff.mp H
    obtain ⟨t403, A380, H⟩ := H
    replace H : (some (t360, t361, t362, t363, wrap64 ((wrap64 (t361 + t370)) - 4), wrap64 (t395 - t403))) = some (r1, r2, r3, r4, r5, r6) := H
    have A38 := Aside0.mk A380
    clear A380
    simp only [Option.some.injEq, Prod.mk.injEq] at H
    obtain ⟨rfl, rfl, rfl, rfl, rfl, rfl⟩ := H
    go_enter Try.func50, Try.ntmps50
    try go_wp2_with (first | ((with_reducible refine gate_dst (N := 2) rfl ?_); refine box_event ?hg (N := 2) ?hd (cs := #[.string (⟨#[]⟩ : ByteArray), .int .i64 0, .int .i64 0, .slice none 0 0]) (t := 51) ?hr ?_; (case hd => rfl); (case hg => rfl); (case hr => exact hr_); intro gb354 hg w39 hbox hb; have n0_ := Aside0.mk (below_step bl_ hb); have n1_ := Aside0.mk (hbox); have n2_ := Aside0.mk (gw_ hg bl_); have n3_ := Aside0.mk (gw_ hg bl_); clear HB; have HB := n0_; have BK354 := n1_; have GW354 := n2_; have GE354 := n3_; clear n0_ n1_ n2_ n3_; clear hb hbox hg) | ((with_reducible refine gate_callee (f := 71) rfl ?_); refine gl_ 9 Try.func71 #[.slice A0 l0.length c0] ?_ rfl rfl rfl rfl; (with_reducible refine (spec_l01Source.calls k _ _ l0 t355 t356 t357 t358 w _ ?side1 ?side2 ?side3 A2.out).mono ?_); (case side1 => exact au14_12); (case side2 => exact HR0.out); (case side3 => exact HC0.out); rintro e w40 ⟨g359, rfl, hi, hb, hb2⟩; refine ⟨_, rfl, ?_⟩; have n0_ := Aside0.mk (blkb_ BK354 hb2); have n1_ := Aside0.mk (hb); have n2_ := Aside0.mk (hi); have n3_ := Aside0.mk (IsS116.ne_blk hi (blkb_ BK354 hb2) (by decide)); have n4_ := Aside0.mk (Ne.symm (IsS116.ne_blk hi (blkb_ BK354 hb2) (by decide))); clear BK354; clear HB; have BK354 := n0_; have HB := n1_; have HI359 := n2_; have NB359_354 := n3_; have NB354_359 := n4_; clear n0_ n1_ n2_ n3_ n4_; (try clear hb); (try clear hb2); (try clear hk); (try clear hi)) | ((with_reducible refine gate_callee (f := 100) rfl ?_); refine gl_ 11 Try.func100 #[.pointer (some ⟨g359, 0, none⟩)] ?_ rfl rfl rfl rfl; (with_reducible refine (spec_l01Src_l07Partner.calls k g359 t355 t356 t357 t358 t360 t361 t362 t363 t366 t367 t368 w _ ?side1 ?side2 A3.out).mono ?_); (case side1 => exact au14_10); (case side2 => exact au14_11); rintro e w41 ⟨v364, rfl, ho0, hi, hb, hk⟩; refine ⟨_, rfl, ?_⟩; have n0_ := Aside0.mk (KeepBut.blk hk (g' := gb354) (o := .cells #[.string (⟨#[]⟩ : ByteArray), .int .i64 0, .int .i64 0, .slice none 0 0] 51 (0, 0)) (bk_ BK354) NB354_359.out (by simp)); have n1_ := Aside0.mk (Kd.R_lower ho0 (below_size au14_2)); have n2_ := Aside0.mk (hb); have n3_ := Aside0.mk (hi); clear BK354; clear HB; clear HI359; have BK354 := n0_; have HO365 := n1_; have HB := n2_; have HI359 := n3_; clear n0_ n1_ n2_ n3_; (try clear hb); (try clear hb2); (try clear hk); (try clear hi); (try clear ho0)) | ((with_reducible refine gate_dst (N := 6) rfl ?_); refine box_event ?hg (N := 6) ?hd (cs := #[.string (⟨#[]⟩ : ByteArray), .int .i64 0, .int .i64 0, .slice none 0 0]) (t := 51) ?hr ?_; (case hd => rfl); (case hg => rfl); (case hr => exact hr_); intro gb369 hg w42 hbox hb; have n0_ := Aside0.mk (Kd.R_below (rk_ HO365) hb); have n1_ := Aside0.mk (blkb_ BK354 hb); have n2_ := Aside0.mk (IsS116.below au14_9 hb); have n3_ := Aside0.mk (below_step au14_2 hb); have n4_ := Aside0.mk (hbox); have n5_ := Aside0.mk ((by rw [hg]; exact (below_size au14_2) : w.heap.size ≤ gb369)); have n6_ := Aside0.mk ((by rw [hg]; exact (below_size au14_2) : w.heap.size ≤ gb369)); have n7_ := Aside0.mk (gn_ hg (blkl_ BK354)); have n8_ := Aside0.mk (gm_ hg (blkl_ BK354)); have n9_ := Aside0.mk ((by rw [hg]; exact Nat.ne_of_lt (IsS116.lt (show IsS116 w _ g359 t355 t366 t367 t368 from by repeat (first | (with_reducible first | exact HI359.out | apply IsS116.alloc | apply IsS116.drewN | apply IsS116.drew | apply IsS116.set_1 | apply IsS116.set_2 | apply IsS116.set_3 | refine IsS116.far ?_ NB359_354.out _) | exact HI359.out))) : g359 ≠ gb369)); have n10_ := Aside0.mk ((by rw [hg]; exact Nat.ne_of_gt (IsS116.lt (show IsS116 w _ g359 t355 t366 t367 t368 from by repeat (first | (with_reducible first | exact HI359.out | apply IsS116.alloc | apply IsS116.drewN | apply IsS116.drew | apply IsS116.set_1 | apply IsS116.set_2 | apply IsS116.set_3 | refine IsS116.far ?_ NB359_354.out _) | exact HI359.out))) : gb369 ≠ g359)); clear HO365; clear BK354; clear HI359; clear HB; have HO365 := n0_; have BK354 := n1_; have HI359 := n2_; have HB := n3_; have BK369 := n4_; have GW369 := n5_; have GE369 := n6_; have NB354_369 := n7_; have NB369_354 := n8_; have NB359_369 := n9_; have NB369_359 := n10_; clear n0_ n1_ n2_ n3_ n4_ n5_ n6_ n7_ n8_ n9_ n10_; clear hb hbox hg; have hnb43 := NB369_354.out; have hnc43 := NB354_369.out; have hnb44 := NB369_359.out; have hnc44 := NB359_369.out; obtain ⟨hcz45_0, hcz45_1, hcz45_2, hcz45_3, hfz45_0, hfz45_1, hfz45_2, hfz45_3⟩ := cellsF4 BK369.out; obtain ⟨Ao46, co46, eo46⟩ := Kd.R_slice HO365.out; subst eo46))
    have n0_ : Aside0 (Kd.R k62 62 ((((w42.setCell ⟨gb369, 0, none⟩ (.string t360)).setCell ⟨gb369, 1, none⟩ (.int .i64 t361)).setCell ⟨gb369, 2, none⟩ (.int .i64 t362)).setCell ⟨gb369, 3, none⟩ (.slice Ao46 t363.length co46)) w.heap.size (fun _ => True) (.slice Ao46 t363.length co46) t363) := ⟨by (with_reducible repeat (first | apply Kd.R_alloc | apply Kd.R_drewN | apply Kd.R_drew)); exact Kd.R_mono (Kd.R_far (p := ⟨gb369, 3, none⟩) (Kd.R_far (p := ⟨gb369, 2, none⟩) (Kd.R_far (p := ⟨gb369, 1, none⟩) (Kd.R_far (p := ⟨gb369, 0, none⟩) (Kd.R_types HO365.out BK369.out (by decide)) (fun _ hk => hk.2) (.string t360)) (fun _ hk => hk.2) (.int .i64 t361)) (fun _ hk => hk.2) (.int .i64 t362)) (fun _ hk => hk.2) (.slice Ao46 t363.length co46)) (fun _ hk => trivial)⟩
    have n1_ : Aside0 (((((w42.setCell ⟨gb369, 0, none⟩ (.string t360)).setCell ⟨gb369, 1, none⟩ (.int .i64 t361)).setCell ⟨gb369, 2, none⟩ (.int .i64 t362)).setCell ⟨gb369, 3, none⟩ (.slice Ao46 t363.length co46)).heap[gb354]? = some (.cells #[.string (⟨#[]⟩ : ByteArray), .int .i64 0, .int .i64 0, .slice none 0 0] 51 (0, 0))) := ⟨au14_6⟩
    have n2_ : Aside0 (((((w42.setCell ⟨gb369, 0, none⟩ (.string t360)).setCell ⟨gb369, 1, none⟩ (.int .i64 t361)).setCell ⟨gb369, 2, none⟩ (.int .i64 t362)).setCell ⟨gb369, 3, none⟩ (.slice Ao46 t363.length co46)).heap[gb369]? = some (.cells #[.string t360, .int .i64 t361, .int .i64 t362, .slice Ao46 t363.length co46] 51 (0, 0))) := ⟨au14_4⟩
    have n3_ : Aside0 (IsS116 w ((((w42.setCell ⟨gb369, 0, none⟩ (.string t360)).setCell ⟨gb369, 1, none⟩ (.int .i64 t361)).setCell ⟨gb369, 2, none⟩ (.int .i64 t362)).setCell ⟨gb369, 3, none⟩ (.slice Ao46 t363.length co46)) g359 t355 t366 t367 t368) := ⟨au14_7⟩
    have n4_ : Aside0 (Below w.heap.size w ((((w42.setCell ⟨gb369, 0, none⟩ (.string t360)).setCell ⟨gb369, 1, none⟩ (.int .i64 t361)).setCell ⟨gb369, 2, none⟩ (.int .i64 t362)).setCell ⟨gb369, 3, none⟩ (.slice Ao46 t363.length co46))) := ⟨au14_5⟩
    (try clear HO365)
    (try clear BK354)
    (try clear BK369)
    (try clear HI359)
    (try clear HB)
    generalize ((((w42.setCell ⟨gb369, 0, none⟩ (.string t360)).setCell ⟨gb369, 1, none⟩ (.int .i64 t361)).setCell ⟨gb369, 2, none⟩ (.int .i64 t362)).setCell ⟨gb369, 3, none⟩ (.slice Ao46 t363.length co46)) = w47 at n0_ n1_ n2_ n3_ n4_ ⊢
    have HO365 := n0_
    have BK354 := n1_
    have BK369 := n2_
    have HI359 := n3_
    have HB := n4_
    clear n0_ n1_ n2_ n3_ n4_
    have n0_ := Aside0.mk (Kd.R_drew HO365.out)
    have n1_ := Aside0.mk (blk_drew BK354.out)
    have n2_ := Aside0.mk (blk_drew BK369.out)
    have n3_ := Aside0.mk (IsS116.drew HI359.out)
    have n4_ := Aside0.mk (below_drew1 HB.out)
    clear HO365
    clear BK354
    clear BK369
    clear HI359
    clear HB
    have HO365 := n0_
    have BK354 := n1_
    have BK369 := n2_
    have HI359 := n3_
    have HB := n4_
    clear n0_ n1_ n2_ n3_ n4_
    refine start_ (n := 7) (S := fun w' => w'.cell? ⟨gb369, 0, none⟩ = some (.string t360) ∧ w'.cell? ⟨gb369, 1, none⟩ = some (.int .i64 t361) ∧ w'.cell? ⟨gb369, 2, none⟩ = some (.int .i64 t362) ∧ w'.cell? ⟨gb369, 3, none⟩ = some (.slice Ao46 t363.length co46)) (ds := []) (bs 7 0) (by kernel_rfl) rfl rfl ⟨(blk_cell BK369.out 0).trans rfl, (blk_cell BK369.out 1).trans rfl, (blk_cell BK369.out 2).trans rfl, (blk_cell BK369.out 3).trans rfl⟩ (fun hHeld => ?_)
    generalize w47.drew = w48 at HO365 BK354 BK369 HI359 HB hHeld ⊢
    refine pure_ (i := 0) (N := some 12) (v := ?_) (a' := ?_) (bs 7 1) rfl rfl (by kernel_rfl) (fun _ _ _ h => h) (Or.inl ⟨by rfl, ?_⟩) ?_ ?_
    rotate_left
    · intro w'
      go_simp
      with_reducible rfl
    rotate_left
    · simp only [Act.put, List.setIfInBounds_toArray, List.set_cons_zero, List.set_cons_succ, i64_w, i32_w]
      rfl
    refine pure_ (i := 2) (N := some 14) (v := ?_) (a' := ?_) (bs 7 5) rfl rfl (by kernel_rfl) (fun _ _ _ h => h) (Or.inl ⟨by rfl, ?_⟩) ?_ ?_
    rotate_left
    · intro w'
      go_simp
      with_reducible rfl
    rotate_left
    · simp only [Act.put, List.setIfInBounds_toArray, List.set_cons_zero, List.set_cons_succ, i64_w, i32_w]
      rfl
    refine take_ (i := 1) (N := some 13) (v := ?_) (a' := ?_) (bs 7 7) rfl rfl (by kernel_rfl) (fun _ _ _ h => h) (Or.inl ⟨by rfl, ?_⟩) hHeld ?_ ?_
    rotate_left
    · rintro w' ⟨s0, s1, s2, s3⟩
      go_simp
      with_reducible rfl
    rotate_left
    · simp only [Act.put, List.setIfInBounds_toArray, List.set_cons_zero, List.set_cons_succ, i64_w, i32_w]
      rfl
    refine one_ (i := 3) (N := some 15) (bs 7 15) rfl rfl (by kernel_rfl) (by decide) (fun K hK => ?_)
    refine gr_ Try.func101 #[.pointer (some ⟨g359, 0, none⟩), .int .i64 70] (by rfl) ?_ rfl rfl rfl
    with_reducible refine (spec_l01Src_n.calls g359 t355 t366 t367 t368 70 t370 t371 t372 t373 w _ ?side1 ?side2 A4.out).mono ?_
    (case side1 => exact au14_0)
    (case side2 => exact au14_1)
    rintro e w49 ⟨rfl, hi, hb, hk⟩
    refine ⟨_, rfl, ?_⟩
    have n0_ := Aside0.mk (KeepBut.blk hk (g' := gb354) (o := .cells #[.string (⟨#[]⟩ : ByteArray), .int .i64 0, .int .i64 0, .slice none 0 0] 51 (0, 0)) (bk_ BK354) NB354_359.out (by simp))
    have n1_ := Aside0.mk (Kd.R_mono (Kd.R_keep (IsS116.apart (show IsS116 w _ g359 t355 t366 t367 t368 from by repeat (first | (with_reducible first | exact HI359.out | apply IsS116.alloc | apply IsS116.drewN | apply IsS116.drew | apply IsS116.set_1 | apply IsS116.set_2 | apply IsS116.set_3 | refine IsS116.far ?_ NB359_354.out _ | refine IsS116.far ?_ NB359_369.out _) | exact HI359.out)) (rk_ HO365) (by decide)) hk (fun _ h => h.2)) (fun _ h => h.1))
    have n2_ := Aside0.mk (KeepBut.blk hk (g' := gb369) (o := .cells #[.string t360, .int .i64 t361, .int .i64 t362, .slice Ao46 t363.length co46] 51 (0, 0)) (bk_ BK369) NB369_359.out (by simp))
    have n3_ := Aside0.mk (hb)
    have n4_ := Aside0.mk (hi)
    clear BK354
    clear HO365
    clear BK369
    clear HB
    clear HI359
    have BK354 := n0_
    have HO365 := n1_
    have BK369 := n2_
    have HB := n3_
    have HI359 := n4_
    clear n0_ n1_ n2_ n3_ n4_
    (try clear hb)
    (try clear hb2)
    (try clear hk)
    (try clear hi)
    refine hK.out _ _ ⟨(blk_cell BK369.out 0).trans rfl, (blk_cell BK369.out 1).trans rfl, (blk_cell BK369.out 2).trans rfl, (blk_cell BK369.out 3).trans rfl⟩ (fun hHeld => ?_)
    clear hK K
    refine norm_ (a' := ?_) ?_ ?_
    rotate_left
    · show Act.put _ (some 15) _ = _
      simp only [Act.put, List.setIfInBounds_toArray, List.set_cons_zero, List.set_cons_succ, i64_w, i32_w]
      rfl
    refine pure_ (i := 4) (N := some 16) (v := ?_) (a' := ?_) (bs 7 31) rfl rfl (by kernel_rfl) (fun _ _ _ h => h) (Or.inl ⟨by rfl, ?_⟩) ?_ ?_
    rotate_left
    · intro w'
      go_simp
      with_reducible rfl
    rotate_left
    · simp only [Act.put, List.setIfInBounds_toArray, List.set_cons_zero, List.set_cons_succ, i64_w, i32_w]
      rfl
    refine pure_ (i := 5) (N := some 17) (v := ?_) (a' := ?_) (bs 7 63) rfl rfl (by kernel_rfl) (fun _ _ _ h => h) (Or.inl ⟨by rfl, ?_⟩) ?_ ?_
    rotate_left
    · intro w'
      go_simp
      with_reducible rfl
    rotate_left
    · simp only [Act.put, List.setIfInBounds_toArray, List.set_cons_zero, List.set_cons_succ, i64_w, i32_w]
      rfl
    refine pure_ (i := 6) (N := some 7) (v := ?_) (a' := ?_) (bs 7 127) rfl rfl (by kernel_rfl) (fun _ _ _ h => h) (Or.inl ⟨by rfl, ?_⟩) ?_ ?_
    rotate_left
    · intro w'
      go_simp
      with_reducible rfl
    rotate_left
    · simp only [Act.put, List.setIfInBounds_toArray, List.set_cons_zero, List.set_cons_succ, i64_w, i32_w]
      rfl
    refine done_ (by kernel_rfl) ?_
    try go_wp2_with (first | ((with_reducible refine gate_callee (f := 74) rfl ?_); refine gl_ 19 Try.func74 #[.pointer (some ⟨g359, 0, none⟩), .int .i64 10] ?_ rfl rfl rfl rfl; (with_reducible refine (spec_l01Src_one.calls g359 t355 t371 t372 t373 10 false t375 t376 t377 w _ ?side1 ?side2 A5.out).mono ?_); (case side1 => exact au14_0); (case side2 => exact au14_1); rintro e w50 ⟨rfl, hi, hb, hk⟩; refine ⟨_, rfl, ?_⟩; have n0_ := Aside0.mk (KeepBut.blk hk (g' := gb354) (o := .cells #[.string (⟨#[]⟩ : ByteArray), .int .i64 0, .int .i64 0, .slice none 0 0] 51 (0, 0)) (bk_ BK354) NB354_359.out (by simp)); have n1_ := Aside0.mk (Kd.R_mono (Kd.R_keep (IsS116.apart (show IsS116 w _ g359 t355 t371 t372 t373 from by repeat (first | (with_reducible first | exact HI359.out | apply IsS116.alloc | apply IsS116.drewN | apply IsS116.drew | apply IsS116.set_1 | apply IsS116.set_2 | apply IsS116.set_3 | refine IsS116.far ?_ NB359_354.out _ | refine IsS116.far ?_ NB359_369.out _) | exact HI359.out)) (rk_ HO365) (by decide)) hk (fun _ h => h.2)) (fun _ h => h.1)); have n2_ := Aside0.mk (KeepBut.blk hk (g' := gb369) (o := .cells #[.string t360, .int .i64 t361, .int .i64 t362, .slice Ao46 t363.length co46] 51 (0, 0)) (bk_ BK369) NB369_359.out (by simp)); have n3_ := Aside0.mk (hb); have n4_ := Aside0.mk (hi); clear BK354; clear HO365; clear BK369; clear HB; clear HI359; have BK354 := n0_; have HO365 := n1_; have BK369 := n2_; have HB := n3_; have HI359 := n4_; clear n0_ n1_ n2_ n3_ n4_; (try clear hb); (try clear hb2); (try clear hk); (try clear hi)))
    have n0_ := Aside0.mk (Kd.R_drew HO365.out)
    have n1_ := Aside0.mk (blk_drew BK354.out)
    have n2_ := Aside0.mk (blk_drew BK369.out)
    have n3_ := Aside0.mk (IsS116.drew HI359.out)
    have n4_ := Aside0.mk (below_drew1 HB.out)
    clear HO365
    clear BK354
    clear BK369
    clear HI359
    clear HB
    have HO365 := n0_
    have BK354 := n1_
    have BK369 := n2_
    have HI359 := n3_
    have HB := n4_
    clear n0_ n1_ n2_ n3_ n4_
    refine start_ (n := 12) (S := fun w' => w'.cell? ⟨gb369, 0, none⟩ = some (.string t360) ∧ w'.cell? ⟨gb369, 1, none⟩ = some (.int .i64 t361) ∧ w'.cell? ⟨gb369, 2, none⟩ = some (.int .i64 t362) ∧ w'.cell? ⟨gb369, 3, none⟩ = some (.slice Ao46 t363.length co46)) (ds := []) (bs 12 0) (by kernel_rfl) rfl rfl ⟨(blk_cell BK369.out 0).trans rfl, (blk_cell BK369.out 1).trans rfl, (blk_cell BK369.out 2).trans rfl, (blk_cell BK369.out 3).trans rfl⟩ (fun hHeld => ?_); refine with_tabW spec_DrawPartnerTake.tab6 spec_DrawPartnerTake.bits6 (fun HT_ HW_ => ?_)
    generalize w50.drew = w51 at HO365 BK354 BK369 HI359 HB hHeld ⊢
    refine pu_ 1 26 (bs 12 2) HT_ ?_ rfl rfl
    refine pu_ 2 27 (bs 12 6) HT_ ?_ rfl rfl
    refine pu_ 4 29 (bs 12 22) HT_ ?_ rfl rfl
    refine tk_ 0 25 (bs 12 23) HT_ HW_ hHeld (by rintro w' ⟨s0, s1, s2, s3⟩; go_simp; with_reducible rfl) ?_ rfl rfl
    refine one_ (i := 3) (N := some 28) (bs 12 31) rfl rfl (one_of HT_.out (by kernel_rfl)) (by decide) (fun K hK => ?_)
    refine gr_ Try.func101 #[.pointer (some ⟨g359, 0, none⟩), .int .i64 15] (by rfl) ?_ rfl rfl rfl
    with_reducible refine (spec_l01Src_n.calls g359 t355 t375 t376 t377 15 t395 t396 t397 t398 w _ ?side1 ?side2 A36.out).mono ?_
    (case side1 => exact au14_0)
    (case side2 => exact au14_1)
    rintro e w52 ⟨rfl, hi, hb, hk⟩
    refine ⟨_, rfl, ?_⟩
    have n0_ := Aside0.mk (KeepBut.blk hk (g' := gb354) (o := .cells #[.string (⟨#[]⟩ : ByteArray), .int .i64 0, .int .i64 0, .slice none 0 0] 51 (0, 0)) (bk_ BK354) NB354_359.out (by simp))
    have n1_ := Aside0.mk (Kd.R_mono (Kd.R_keep (IsS116.apart (show IsS116 w _ g359 t355 t375 t376 t377 from by repeat (first | (with_reducible first | exact HI359.out | apply IsS116.alloc | apply IsS116.drewN | apply IsS116.drew | apply IsS116.set_1 | apply IsS116.set_2 | apply IsS116.set_3 | refine IsS116.far ?_ NB359_354.out _ | refine IsS116.far ?_ NB359_369.out _) | exact HI359.out)) (rk_ HO365) (by decide)) hk (fun _ h => h.2)) (fun _ h => h.1))
    have n2_ := Aside0.mk (KeepBut.blk hk (g' := gb369) (o := .cells #[.string t360, .int .i64 t361, .int .i64 t362, .slice Ao46 t363.length co46] 51 (0, 0)) (bk_ BK369) NB369_359.out (by simp))
    have n3_ := Aside0.mk (hb)
    have n4_ := Aside0.mk (hi)
    clear BK354
    clear HO365
    clear BK369
    clear HB
    clear HI359
    have BK354 := n0_
    have HO365 := n1_
    have BK369 := n2_
    have HB := n3_
    have HI359 := n4_
    clear n0_ n1_ n2_ n3_ n4_
    (try clear hb)
    (try clear hb2)
    (try clear hk)
    (try clear hi)
    refine hK.out _ _ ⟨(blk_cell BK369.out 0).trans rfl, (blk_cell BK369.out 1).trans rfl, (blk_cell BK369.out 2).trans rfl, (blk_cell BK369.out 3).trans rfl⟩ (fun hHeld => ?_)
    clear hK K
    refine norm_ (a' := ?_) ?_ ?_
    rotate_left
    · show Act.put _ (some 28) _ = _
      simp only [Act.put, List.setIfInBounds_toArray, List.set_cons_zero, List.set_cons_succ, i64_w, i32_w]
      rfl
    refine one_ (i := 5) (N := some 30) (bs 12 63) rfl rfl (one_of HT_.out (by kernel_rfl)) (by decide) (fun K hK => ?_)
    refine gr_ Try.func101 #[.pointer (some ⟨g359, 0, none⟩), .int .i64 20] (by rfl) ?_ rfl rfl rfl
    with_reducible refine (spec_l01Src_n.calls g359 t355 t396 t397 t398 20 t399 t400 t401 t402 w _ ?side1 ?side2 A37.out).mono ?_
    (case side1 => exact au14_0)
    (case side2 => exact au14_1)
    rintro e w53 ⟨rfl, hi, hb, hk⟩
    refine ⟨_, rfl, ?_⟩
    have n0_ := Aside0.mk (KeepBut.blk hk (g' := gb354) (o := .cells #[.string (⟨#[]⟩ : ByteArray), .int .i64 0, .int .i64 0, .slice none 0 0] 51 (0, 0)) (bk_ BK354) NB354_359.out (by simp))
    have n1_ := Aside0.mk (Kd.R_mono (Kd.R_keep (IsS116.apart (show IsS116 w _ g359 t355 t396 t397 t398 from by repeat (first | (with_reducible first | exact HI359.out | apply IsS116.alloc | apply IsS116.drewN | apply IsS116.drew | apply IsS116.set_1 | apply IsS116.set_2 | apply IsS116.set_3 | refine IsS116.far ?_ NB359_354.out _ | refine IsS116.far ?_ NB359_369.out _) | exact HI359.out)) (rk_ HO365) (by decide)) hk (fun _ h => h.2)) (fun _ h => h.1))
    have n2_ := Aside0.mk (KeepBut.blk hk (g' := gb369) (o := .cells #[.string t360, .int .i64 t361, .int .i64 t362, .slice Ao46 t363.length co46] 51 (0, 0)) (bk_ BK369) NB369_359.out (by simp))
    have n3_ := Aside0.mk (hb)
    have n4_ := Aside0.mk (hi)
    clear BK354
    clear HO365
    clear BK369
    clear HB
    clear HI359
    have BK354 := n0_
    have HO365 := n1_
    have BK369 := n2_
    have HB := n3_
    have HI359 := n4_
    clear n0_ n1_ n2_ n3_ n4_
    (try clear hb)
    (try clear hb2)
    (try clear hk)
    (try clear hi)
    refine hK.out _ _ ⟨(blk_cell BK369.out 0).trans rfl, (blk_cell BK369.out 1).trans rfl, (blk_cell BK369.out 2).trans rfl, (blk_cell BK369.out 3).trans rfl⟩ (fun hHeld => ?_)
    clear hK K
    refine norm_ (a' := ?_) ?_ ?_
    rotate_left
    · show Act.put _ (some 30) _ = _
      simp only [Act.put, List.setIfInBounds_toArray, List.set_cons_zero, List.set_cons_succ, i64_w, i32_w]
      rfl
    refine pu_ 6 31 (bs 12 127) HT_ ?_ rfl rfl
    refine one_ (i := 7) (N := some 32) (bs 12 255) rfl rfl (one_of HT_.out (by kernel_rfl)) (by decide) (fun K hK => ?_)
    refine gr_ Try.func90 #[.int .i64 0, .int .i64 (wrap64 (t399 - 18))] (by rfl) ?_ rfl rfl rfl
    with_reducible refine (spec_l01Max.calls 0 (wrap64 (t399 - 18)) t403 _ A38.out).mono ?_
    rintro e w' ⟨rfl, ⟨nd, rfl⟩⟩
    refine ⟨_, rfl, ?_⟩
    refine hK.out _ _ ⟨(blk_cell BK369.out 0).trans rfl, (blk_cell BK369.out 1).trans rfl, (blk_cell BK369.out 2).trans rfl, (blk_cell BK369.out 3).trans rfl⟩ (fun hHeld => ?_)
    clear hK K
    refine norm_ (a' := ?_) ?_ ?_
    rotate_left
    · show Act.put _ (some 32) _ = _
      simp only [Act.put, List.setIfInBounds_toArray, List.set_cons_zero, List.set_cons_succ, i64_w, i32_w]
      rfl
    refine pu_ 8 33 (bs 12 511) HT_ ?_ rfl rfl
    refine one_ (i := 9) (N := none) (bs 12 1023) rfl rfl (one_of HT_.out (by kernel_rfl)) (by decide) (fun K hK => ?_)
    have hs54 : w53.cell? ⟨gb354, 0, none⟩ = some (.string (⟨#[]⟩ : ByteArray)) := (blk_cell BK354.out 0).trans rfl
    have hfs54 := blk_frozen BK354.out 0
    have hns54_1 := NB369_354.out
    have hms54_1 := NB354_369.out
    have hs55 : w53.cell? ⟨gb354, 1, none⟩ = some (.int .i64 0) := (blk_cell BK354.out 1).trans rfl
    have hfs55 := blk_frozen BK354.out 1
    have hns55_1 := NB369_354.out
    have hms55_1 := NB354_369.out
    have hs56 : w53.cell? ⟨gb354, 2, none⟩ = some (.int .i64 0) := (blk_cell BK354.out 2).trans rfl
    have hfs56 := blk_frozen BK354.out 2
    have hns56_1 := NB369_354.out
    have hms56_1 := NB354_369.out
    have hs57 : w53.cell? ⟨gb354, 3, none⟩ = some (.slice none 0 0) := (blk_cell BK354.out 3).trans rfl
    have hfs57 := blk_frozen BK354.out 3
    have hns57_1 := NB369_354.out
    have hms57_1 := NB354_369.out
    refine skip_ (w1 := ?_) (by rfl) rfl ?_ ?_
    rotate_left
    · go_simp
      rfl
    refine hK.out _ _ ⟨((cell_far (p := ⟨gb354, _, none⟩) NB369_354.out _).trans (((cell_far (p := ⟨gb354, _, none⟩) NB369_354.out _).trans (((cell_far (p := ⟨gb354, _, none⟩) NB369_354.out _).trans (((cell_far (p := ⟨gb354, _, none⟩) NB369_354.out _).trans (hHeld.1)))))))), ((cell_far (p := ⟨gb354, _, none⟩) NB369_354.out _).trans (((cell_far (p := ⟨gb354, _, none⟩) NB369_354.out _).trans (((cell_far (p := ⟨gb354, _, none⟩) NB369_354.out _).trans (((cell_far (p := ⟨gb354, _, none⟩) NB369_354.out _).trans (hHeld.2.1)))))))), ((cell_far (p := ⟨gb354, _, none⟩) NB369_354.out _).trans (((cell_far (p := ⟨gb354, _, none⟩) NB369_354.out _).trans (((cell_far (p := ⟨gb354, _, none⟩) NB369_354.out _).trans (((cell_far (p := ⟨gb354, _, none⟩) NB369_354.out _).trans (hHeld.2.2.1)))))))), ((cell_far (p := ⟨gb354, _, none⟩) NB369_354.out _).trans (((cell_far (p := ⟨gb354, _, none⟩) NB369_354.out _).trans (((cell_far (p := ⟨gb354, _, none⟩) NB369_354.out _).trans (((cell_far (p := ⟨gb354, _, none⟩) NB369_354.out _).trans (hHeld.2.2.2))))))))⟩ (fun hHeld => ?_)
    clear hK K
    refine pu_ 10 3 (bs 12 2047) HT_ ?_ rfl rfl
    refine pu_ 11 4 (bs 12 4095) HT_ ?_ rfl rfl
    refine done_ (done_of HT_.out (by kernel_rfl)) ?_
    try go_wp2
    refine bodyPost_ret (results_ctt rfl _ _ gb354 51 #[.string t360, .int .i64 t361, .int .i64 t362, .slice Ao46 t363.length co46] (0, 0) _ rfl au14_3 Try.underlying51 rfl (by kernel_rfl)) rfl ?_
    exact ⟨_, au14_13, by (with_reducible repeat (first | apply Kd.R_alloc | apply Kd.R_drewN | apply Kd.R_drew)); exact Kd.R_mono (Kd.R_far (p := ⟨gb354, 3, none⟩) (Kd.R_far (p := ⟨gb354, 2, none⟩) (Kd.R_far (p := ⟨gb354, 1, none⟩) (Kd.R_far (p := ⟨gb354, 0, none⟩) (Kd.R_types HO365.out BK354.out (by decide)) (fun _ hk => hk.2) (.string t360)) (fun _ hk => hk.2) (.int .i64 t361)) (fun _ hk => hk.2) (.int .i64 t362)) (fun _ hk => hk.2) (.slice Ao46 t363.length co46)) (fun _ hk => trivial), au14_5⟩

end Go.Proofs.Ytjffakoifpldeaa.PFnTakeOnce
