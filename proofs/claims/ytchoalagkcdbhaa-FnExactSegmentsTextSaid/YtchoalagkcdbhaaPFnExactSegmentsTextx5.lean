-- printed by a program of this session (wip/xp/xprint.py) out of the translation; Lean checks it
import Derived.Test.YtchoalagkcdbhaaPFnExactSegmentsTextx0
import Derived.Test.YtchoalagkcdbhaaPFnExactSegmentsTextx2
import Derived.Test.YtchoalagkcdbhaaPFnExactSegmentsTextx3
import Derived.Test.YtchoalagkcdbhaaPFnExactSegmentsTextx4
namespace Go.Proofs.Ytchoalagkcdbhaa.PFnExactSegmentsText
open Go.RowKit Go.Proofs.YtchoalagkcdbhaaW.PrintWords Go.Proofs.YtchoalagkcdbhaaW.PrintLast Go.Proofs.YtchoalagkcdbhaaW.PrintMore
attribute [local go_sem] max2_int min2_int max_two min_two max_three min_three max_four min_four   -- for this text's walks alone
set_option linter.unusedVariables false
set_option linter.unusedSimpArgs false

theorem au5_0 {p : Prop} (h : p := by rintro w' ⟨s0, s1, s2, s3, s4, s5, s6, s7⟩; go_simp; with_reducible rfl) : p := h
theorem au5_1 {p : Prop} (h : p := by have := HJ2.out; have := HK2.out; have := HK3.out; omega) : p := h
theorem au5_2 {p : Prop} (h : p := by first | rfl | (simp [errW_none, errW_some] <;> rfl) | (simp [*, errW_none, errW_some] <;> rfl)) : p := h

/-! ### spec_SegmentText: function 38 -/
mutual
def spec_SegmentText.j0 : Nat → Bool → Int → Int → Int → Int → ByteArray → List (S102) → Option (ByteArray)
  | 0, _, _, _, _, _, _, _ => none
  | k + 1, x15, x147000, x147001, x147002, x147003, x148000, x148001 => if x15 = true then (some (⟨#[]⟩ : ByteArray)) else (spec_SegmentText.l0 k x148000 0 x147000 x147001 x147002 x147003 x148000 x148001)
def spec_SegmentText.l0 : Nat → ByteArray → Int → Int → Int → Int → Int → ByteArray → List (S102) → Option (ByteArray)
  | 0, _, _, _, _, _, _, _, _ => none
  | k + 1, x5, x6, x147000, x147001, x147002, x147003, x148000, x148001 => if x6 < (x148001.length : Int) then ((some (([(x147001) % 256] : List Int) : List Int)).bind fun y153 => (if x5.size + (strOfNums y153).size ≤ 9223372036854775807 then (spec_SegmentText.l1 k (x5 ++ (strOfNums y153)) x6 0 x147000 x147001 x147002 x147003 x148000 x148001) else (none))) else ((some (([(x147000) % 256] : List Int) : List Int)).bind fun y150 => (if x5.size + (strOfNums y150).size ≤ 9223372036854775807 then (some (x5 ++ (strOfNums y150))) else (none)))
def spec_SegmentText.l1 : Nat → ByteArray → Int → Int → Int → Int → Int → Int → ByteArray → List (S102) → Option (ByteArray)
  | 0, _, _, _, _, _, _, _, _, _ => none
  | k + 1, x5, x6, x7, x147000, x147001, x147002, x147003, x148000, x148001 => if 0 ≤ x6 then (if x6 < (x148001.length : Int) then (if x7 < (((rd_T102 x148001 x6).f0).length : Int) then (if x7 > 0 then ((some (([(x147002) % 256] : List Int) : List Int)).bind fun y157 => (if x5.size + (strOfNums y157).size ≤ 9223372036854775807 then (if 0 ≤ x7 then ((spec_l01Escape.f k x147000 x147001 x147002 x147003 (rdOf ByteArray.empty ((rd_T102 x148001 x6).f0) x7)).bind fun t162 => (if (x5 ++ (strOfNums y157)).size + t162.size ≤ 9223372036854775807 then (spec_SegmentText.l1 k ((x5 ++ (strOfNums y157)) ++ t162) x6 (wrap64 (x7 + 1)) x147000 x147001 x147002 x147003 x148000 x148001) else (none))) else (none)) else (none))) else (if 0 ≤ x7 then ((spec_l01Escape.f k x147000 x147001 x147002 x147003 (rdOf ByteArray.empty ((rd_T102 x148001 x6).f0) x7)).bind fun t165 => (if x5.size + t165.size ≤ 9223372036854775807 then (spec_SegmentText.l1 k (x5 ++ t165) x6 (wrap64 (x7 + 1)) x147000 x147001 x147002 x147003 x148000 x148001) else (none))) else (none))) else (spec_SegmentText.l0 k x5 (wrap64 (x6 + 1)) x147000 x147001 x147002 x147003 x148000 x148001)) else (none)) else (none)
end
def spec_SegmentText.f (k : Nat) (a0_0 : Int) (a0_1 : Int) (a0_2 : Int) (a0_3 : Int) (a1_0 : ByteArray) (l1_1 : List (S102)) : Option (ByteArray) := (spec_SyntaxRight.f k a0_0 a0_1 a0_2 a0_3).bind fun t148 => (if t148 = true then ((spec_SegmentRight.f k a1_0 l1_1).bind fun t149 => (spec_SegmentText.j0 k (!t149) a0_0 a0_1 a0_2 a0_3 a1_0 l1_1)) else (spec_SegmentText.j0 k true a0_0 a0_1 a0_2 a0_3 a1_0 l1_1))
theorem spec_SegmentText.mono_l : ∀ k, (∀ y0 y1 y2 y3 y4 y5 y6, LeO (spec_SegmentText.j0 k y0 y1 y2 y3 y4 y5 y6) (spec_SegmentText.j0 (k + 1) y0 y1 y2 y3 y4 y5 y6)) ∧ (∀ y0 y1 y2 y3 y4 y5 y6 y7, LeO (spec_SegmentText.l0 k y0 y1 y2 y3 y4 y5 y6 y7) (spec_SegmentText.l0 (k + 1) y0 y1 y2 y3 y4 y5 y6 y7)) ∧ (∀ y0 y1 y2 y3 y4 y5 y6 y7 y8, LeO (spec_SegmentText.l1 k y0 y1 y2 y3 y4 y5 y6 y7 y8) (spec_SegmentText.l1 (k + 1) y0 y1 y2 y3 y4 y5 y6 y7 y8))
  | 0 => ⟨fun _ _ _ _ _ _ _ r h => by simp [spec_SegmentText.j0] at h, fun _ _ _ _ _ _ _ _ r h => by simp [spec_SegmentText.l0] at h, fun _ _ _ _ _ _ _ _ _ r h => by simp [spec_SegmentText.l1] at h⟩
  | k + 1 => by
    obtain ⟨ih0, ih1, ih2⟩ := spec_SegmentText.mono_l k
    refine ⟨?_, ?_, ?_⟩
    · intro y0 y1 y2 y3 y4 y5 y6
      unfold spec_SegmentText.j0
      repeat' first
      | (with_reducible exact ih0 _ _ _ _ _ _ _)
      | (with_reducible exact ih1 _ _ _ _ _ _ _ _)
      | (with_reducible exact ih2 _ _ _ _ _ _ _ _ _)
      | (with_reducible exact spec_SegmentRight.mono _ _ _)
      | (with_reducible exact spec_SyntaxRight.mono _ _ _ _ _)
      | (with_reducible exact spec_l01Escape.mono _ _ _ _ _ _)
      | (with_reducible exact LeO.refl _)
      | (with_reducible exact LeO.none _)
      | (with_reducible refine LeO.ite ?_ ?_)
      | (with_reducible refine LeO.bind ?_ (fun _ => ?_))
      | exact ih0 _ _ _ _ _ _ _
      | exact ih1 _ _ _ _ _ _ _ _
      | exact ih2 _ _ _ _ _ _ _ _ _
      | exact spec_SegmentRight.mono _ _ _
      | exact spec_SyntaxRight.mono _ _ _ _ _
      | exact spec_l01Escape.mono _ _ _ _ _ _
      | exact LeO.none _
      | refine LeO.ite ?_ ?_
      | refine LeO.bind ?_ (fun _ => ?_)
    · intro y0 y1 y2 y3 y4 y5 y6 y7
      unfold spec_SegmentText.l0
      repeat' first
      | (with_reducible exact ih0 _ _ _ _ _ _ _)
      | (with_reducible exact ih1 _ _ _ _ _ _ _ _)
      | (with_reducible exact ih2 _ _ _ _ _ _ _ _ _)
      | (with_reducible exact spec_SegmentRight.mono _ _ _)
      | (with_reducible exact spec_SyntaxRight.mono _ _ _ _ _)
      | (with_reducible exact spec_l01Escape.mono _ _ _ _ _ _)
      | (with_reducible exact LeO.refl _)
      | (with_reducible exact LeO.none _)
      | (with_reducible refine LeO.ite ?_ ?_)
      | (with_reducible refine LeO.bind ?_ (fun _ => ?_))
      | exact ih0 _ _ _ _ _ _ _
      | exact ih1 _ _ _ _ _ _ _ _
      | exact ih2 _ _ _ _ _ _ _ _ _
      | exact spec_SegmentRight.mono _ _ _
      | exact spec_SyntaxRight.mono _ _ _ _ _
      | exact spec_l01Escape.mono _ _ _ _ _ _
      | exact LeO.none _
      | refine LeO.ite ?_ ?_
      | refine LeO.bind ?_ (fun _ => ?_)
    · intro y0 y1 y2 y3 y4 y5 y6 y7 y8
      unfold spec_SegmentText.l1
      repeat' first
      | (with_reducible exact ih0 _ _ _ _ _ _ _)
      | (with_reducible exact ih1 _ _ _ _ _ _ _ _)
      | (with_reducible exact ih2 _ _ _ _ _ _ _ _ _)
      | (with_reducible exact spec_SegmentRight.mono _ _ _)
      | (with_reducible exact spec_SyntaxRight.mono _ _ _ _ _)
      | (with_reducible exact spec_l01Escape.mono _ _ _ _ _ _)
      | (with_reducible exact LeO.refl _)
      | (with_reducible exact LeO.none _)
      | (with_reducible refine LeO.ite ?_ ?_)
      | (with_reducible refine LeO.bind ?_ (fun _ => ?_))
      | exact ih0 _ _ _ _ _ _ _
      | exact ih1 _ _ _ _ _ _ _ _
      | exact ih2 _ _ _ _ _ _ _ _ _
      | exact spec_SegmentRight.mono _ _ _
      | exact spec_SyntaxRight.mono _ _ _ _ _
      | exact spec_l01Escape.mono _ _ _ _ _ _
      | exact LeO.none _
      | refine LeO.ite ?_ ?_
      | refine LeO.bind ?_ (fun _ => ?_)
theorem spec_SegmentText.mono : ∀ a0 a1 a2 a3 a4 a5 k, LeO (spec_SegmentText.f k a0 a1 a2 a3 a4 a5) (spec_SegmentText.f (k + 1) a0 a1 a2 a3 a4 a5) := by
  intro a0 a1 a2 a3 a4 a5 k
  obtain ⟨ih0, ih1, ih2⟩ := spec_SegmentText.mono_l k
  unfold spec_SegmentText.f
  repeat' first
      | (with_reducible exact ih0 _ _ _ _ _ _ _)
      | (with_reducible exact ih1 _ _ _ _ _ _ _ _)
      | (with_reducible exact ih2 _ _ _ _ _ _ _ _ _)
      | (with_reducible exact spec_SegmentRight.mono _ _ _)
      | (with_reducible exact spec_SyntaxRight.mono _ _ _ _ _)
      | (with_reducible exact spec_l01Escape.mono _ _ _ _ _ _)
      | (with_reducible exact LeO.refl _)
      | (with_reducible exact LeO.none _)
      | (with_reducible refine LeO.ite ?_ ?_)
      | (with_reducible refine LeO.bind ?_ (fun _ => ?_))
      | exact ih0 _ _ _ _ _ _ _
      | exact ih1 _ _ _ _ _ _ _ _
      | exact ih2 _ _ _ _ _ _ _ _ _
      | exact spec_SegmentRight.mono _ _ _
      | exact spec_SyntaxRight.mono _ _ _ _ _
      | exact spec_l01Escape.mono _ _ _ _ _ _
      | exact LeO.none _
      | refine LeO.ite ?_ ?_
      | refine LeO.bind ?_ (fun _ => ?_)
def spec_SegmentText.T13 : Bool × List (List Nat × List Nat) := (true, [([], []), ([], []), ([], []), ([2], [2]), ([], []), ([3, 4], [3, 4]), ([5], [5]), ([6], [6]), ([], []), ([7, 8], [7, 8]), ([9], [9]), ([1, 10], [1, 10]), ([0, 11], [0, 11]), ([12, 11, 0, 1, 2, 3, 4, 5, 6, 7, 8, 9, 10, 11, 12], [0, 12])])
def spec_SegmentText.B13 : List Nat := [0, 0, 0, 4, 0, 28, 60, 124, 0, 508, 1020, 2046, 4095, 8191]
theorem spec_SegmentText.tab13 : rtab .any (opsOf Try.f38 13) = spec_SegmentText.T13 := by kernel_rfl
theorem spec_SegmentText.bits13 : waitsOk spec_SegmentText.T13.2 spec_SegmentText.B13 = true := by kernel_rfl
set_option maxHeartbeats 8000000 in
set_option maxRecDepth 100000 in
theorem spec_SegmentText.calls (k : Nat) (a0_0 : Int) (a0_1 : Int) (a0_2 : Int) (a0_3 : Int) (a1_0 : ByteArray) (A1_1 : Option Addr) (c1_1 : Nat) (l1_1 : List (S102)) (r : ByteArray) (w : World) (hr1_1 : Kd.C k102 w A1_1 l1_1.length l1_1) (hc1_1 : l1_1.length ≤ c1_1) (h : spec_SegmentText.f k a0_0 a0_1 a0_2 a0_3 a1_0 l1_1 = some r) :
    Calls Try.prog 38 #[.agg #[.int .i64 a0_0, .int .i64 a0_1, .int .i64 a0_2, .int .i64 a0_3], .agg #[.string a1_0, .slice A1_1 l1_1.length c1_1]] w fun e w' => e = .returned (.string r) ∧ Below w.heap.size w w' := by
  have hu23 := Try.underlying23
  have hu59 := Try.underlying59
  have HR1_1 := Aside0.mk hr1_1
  have HC1_1 := Aside0.mk hc1_1
  clear hr1_1 hc1_1
  have HB := Aside0.mk (Below.refl w.heap.size w)
  have H : ((spec_SyntaxRight.f k a0_0 a0_1 a0_2 a0_3).bind fun t148 => (if t148 = true then ((spec_SegmentRight.f k a1_0 l1_1).bind fun t149 => (spec_SegmentText.j0 k (!t149) a0_0 a0_1 a0_2 a0_3 a1_0 l1_1)) else (spec_SegmentText.j0 k true a0_0 a0_1 a0_2 a0_3 a1_0 l1_1))) = some r := h
  clear h
  have HC3 := Aside0.mk H
  clear H
  go_enter Try.func38, Try.ntmps38
  go_upto_region 1 with (first | ((with_reducible refine gate_dst (N := 2) rfl ?_); refine box_event ?hg (N := 2) ?hd (cs := #[.int .i64 a0_0, .int .i64 a0_1, .int .i64 a0_2, .int .i64 a0_3]) (t := 23) ?hr ?_; (case hd => rfl); (case hg => rfl); (case hr => exact hr_); intro gb146 hg w4 hbox hb; have n0_ := Aside0.mk (below_step bl_ hb); have n1_ := Aside0.mk (hbox); have n2_ := Aside0.mk (gw_ hg bl_); have n3_ := Aside0.mk (gw_ hg bl_); clear HB; have HB := n0_; have BK146 := n1_; have GW146 := n2_; have GE146 := n3_; clear n0_ n1_ n2_ n3_; clear hb hbox hg) | ((with_reducible refine gate_dst (N := 3) rfl ?_); refine box_event ?hg (N := 3) ?hd (cs := #[.string a1_0, .slice A1_1 l1_1.length c1_1]) (t := 59) ?hr ?_; (case hd => rfl); (case hg => rfl); (case hr => exact hr_); intro gb147 hg w5 hbox hb; have n0_ := Aside0.mk (blkb_ BK146 hb); have n1_ := Aside0.mk (below_step bl_ hb); have n2_ := Aside0.mk (hbox); have n3_ := Aside0.mk (gw_ hg bl_); have n4_ := Aside0.mk (gw_ hg bl_); have n5_ := Aside0.mk (gn_ hg (blkl_ BK146)); have n6_ := Aside0.mk (gm_ hg (blkl_ BK146)); clear BK146; clear HB; have BK146 := n0_; have HB := n1_; have BK147 := n2_; have GW147 := n3_; have GE147 := n4_; have NB146_147 := n5_; have NB147_146 := n6_; clear n0_ n1_ n2_ n3_ n4_ n5_ n6_; clear hb hbox hg))
  (try simp only [Act.put, List.setIfInBounds_toArray, List.set_cons_zero, List.set_cons_succ])
  go_cut [15] (fun v15 wc => ∃ (kq : Nat) (x15_2 : Bool), v15 = .bool x15_2 ∧ Aside0 (spec_SegmentText.j0 kq x15_2 a0_0 a0_1 a0_2 a0_3 a1_0 l1_1 = some r) ∧ Aside0 (kq ≤ k) ∧ Aside0 (wc.heap[gb146]? = some (.cells #[.int .i64 a0_0, .int .i64 a0_1, .int .i64 a0_2, .int .i64 a0_3] 23 (0, 0))) ∧ Aside0 (wc.heap[gb147]? = some (.cells #[.string a1_0, (.slice A1_1 l1_1.length c1_1)] 59 (0, 0))) ∧ Aside0 (Below w.heap.size w wc))
  case first =>
    have H := HC3.out
    clear HC3
    replace H := Option.bind_eq_some_iff.mp H
    obtain ⟨t148, A60, H⟩ := H
    replace H : (if t148 = true then ((spec_SegmentRight.f k a1_0 l1_1).bind fun t149 => (spec_SegmentText.j0 k (!t149) a0_0 a0_1 a0_2 a0_3 a1_0 l1_1)) else (spec_SegmentText.j0 k true a0_0 a0_1 a0_2 a0_3 a1_0 l1_1)) = some r := H
    have A6 := Aside0.mk A60
    clear A60
    by_cases c7 : t148 = true
    · subst c7
      have H1 : ((spec_SegmentRight.f k a1_0 l1_1).bind fun t149 => (spec_SegmentText.j0 k (!t149) a0_0 a0_1 a0_2 a0_3 a1_0 l1_1)) = some r := by rw [if_pos rfl] at H; exact H
      clear H
      have H := H1
      clear H1
      replace H := Option.bind_eq_some_iff.mp H
      obtain ⟨t149, A80, H⟩ := H
      replace H : (spec_SegmentText.j0 k (!t149) a0_0 a0_1 a0_2 a0_3 a1_0 l1_1) = some r := H
      have A8 := Aside0.mk A80
      clear A80
      have H' := Aside0.mk H
      clear H
      have hnb9 := NB146_147.out
      have hnc9 := NB147_146.out
      obtain ⟨hcz10_0, hcz10_1, hcz10_2, hcz10_3, hfz10_0, hfz10_1, hfz10_2, hfz10_3⟩ := cellsF4 BK146.out
      go_wp2_with (first | (go_at_call 23; (with_reducible refine (spec_SyntaxRight.calls k a0_0 a0_1 a0_2 a0_3 true _ A6.out).mono ?_); rintro e w11 ⟨rfl, hb⟩; (try clear A6); have n0_ := Aside0.mk (blkb_ BK146 hb); have n1_ := Aside0.mk (blkb_ BK147 hb); have n2_ := Aside0.mk (below_step bl_ hb); clear BK146; clear BK147; clear HB; have BK146 := n0_; have BK147 := n1_; have HB := n2_; clear n0_ n1_ n2_; (try clear hb); (try clear hb2); (try clear hk); (try clear hi); obtain ⟨hcz12_0, hcz12_1, hfz12_0, hfz12_1⟩ := cellsF2 BK147.out) | (go_at_call 34; (with_reducible refine (spec_SegmentRight.calls k a1_0 _ _ l1_1 t149 _ ?side1 ?side2 A8.out).mono ?_); (case side1 => repeat (first | exact (Kd.C_below HR1_1.out HB.out) | (with_reducible refine Kd.C_alloc ?_ _) | (with_reducible refine Kd.C_drewN ?_ _) | (with_reducible refine Kd.C_drew ?_))); (case side2 => exact HC1_1.out); rintro e w13 ⟨rfl, hb⟩; (try clear A8); have n0_ := Aside0.mk (blkb_ BK146 hb); have n1_ := Aside0.mk (blkb_ BK147 hb); have n2_ := Aside0.mk (below_step bl_ hb); clear BK146; clear BK147; clear HB; have BK146 := n0_; have BK147 := n1_; have HB := n2_; clear n0_ n1_ n2_; (try clear hb); (try clear hb2); (try clear hk); (try clear hi)))
      go_meet
      case rel => exact ⟨_, (!t149), er_, H', ⟨by first | omega | exact Nat.le_refl _⟩, ⟨bk_ BK146⟩, ⟨bk_ BK147⟩, ⟨bl_⟩⟩
    · replace c7 := Bool.eq_false_iff.mpr c7
      subst c7
      have H1 : (spec_SegmentText.j0 k true a0_0 a0_1 a0_2 a0_3 a1_0 l1_1) = some r := by rw [if_neg (show ¬ (false = true) by decide)] at H; exact H
      clear H
      have H := H1
      clear H1
      have H' := Aside0.mk H
      clear H
      have hnb14 := NB146_147.out
      have hnc14 := NB147_146.out
      obtain ⟨hcz15_0, hcz15_1, hcz15_2, hcz15_3, hfz15_0, hfz15_1, hfz15_2, hfz15_3⟩ := cellsF4 BK146.out
      go_wp2_with (first | (go_at_call 23; (with_reducible refine (spec_SyntaxRight.calls k a0_0 a0_1 a0_2 a0_3 false _ A6.out).mono ?_); rintro e w16 ⟨rfl, hb⟩; (try clear A6); have n0_ := Aside0.mk (blkb_ BK146 hb); have n1_ := Aside0.mk (blkb_ BK147 hb); have n2_ := Aside0.mk (below_step bl_ hb); clear BK146; clear BK147; clear HB; have BK146 := n0_; have BK147 := n1_; have HB := n2_; clear n0_ n1_ n2_; (try clear hb); (try clear hb2); (try clear hk); (try clear hi)))
      go_meet
      case rel => exact ⟨_, (true), er_, H', ⟨by first | omega | exact Nat.le_refl _⟩, ⟨bk_ BK146⟩, ⟨bk_ BK147⟩, ⟨bl_⟩⟩
  case rest =>
    clear HC3
    try clear c1
    try clear p2
    try clear c3
    try clear c7
    try clear c9
    try clear c14
    try clear hcz10_0
    try clear hcz10_1
    try clear hcz10_2
    try clear hcz10_3
    try clear hcz12_0
    try clear hcz12_1
    try clear hcz15_0
    try clear hcz15_1
    try clear hcz15_2
    try clear hcz15_3
    try clear hfz10_0
    try clear hfz10_1
    try clear hfz10_2
    try clear hfz10_3
    try clear hfz12_0
    try clear hfz12_1
    try clear hfz15_0
    try clear hfz15_1
    try clear hfz15_2
    try clear hfz15_3
    obtain ⟨kq, x15_2, rfl, HA, HJ2, BK146, BK147, HB⟩ := hcut
    cases kq with
    | zero => exact absurd HA.out (by simp [spec_SegmentText.j0])
    | succ kj2 =>
      have H := HA.out
      clear HA
      simp only [spec_SegmentText.j0] at H
      by_cases c17 : x15_2 = true
      · subst c17
        have H1 : (some (⟨#[]⟩ : ByteArray)) = some r := by rw [if_pos rfl] at H; exact H
        clear H
        have H := H1
        clear H1
        obtain rfl := Option.some.inj H
        go_wp2
        go_ret
        exact ⟨au5_2, bl_⟩
      · replace c17 := Bool.eq_false_iff.mpr c17
        subst c17
        have H1 : (spec_SegmentText.l0 kj2 a1_0 0 a0_0 a0_1 a0_2 a0_3 a1_0 l1_1) = some r := by rw [if_neg (show ¬ (false = true) by decide)] at H; exact H
        clear H
        have H := H1
        clear H1
        have H' := Aside0.mk H
        clear H
        have hnb18 := NB147_146.out
        have hnc18 := NB146_147.out
        obtain ⟨hcz19_0, hcz19_1, hfz19_0, hfz19_1⟩ := cellsF2 BK147.out
        go_wp2
        go_loopg [5, 6] kj2 (fun kq v5 v6 w' => ∃ (x5_2 : ByteArray) (x6_2 : Int), v5 = .string x5_2 ∧ v6 = .int .i64 x6_2 ∧ Aside0 (spec_SegmentText.l0 kq x5_2 x6_2 a0_0 a0_1 a0_2 a0_3 a1_0 l1_1 = some r) ∧ Aside0 (kq ≤ kj2) ∧ Aside0 (w'.heap[gb146]? = some (.cells #[.int .i64 a0_0, .int .i64 a0_1, .int .i64 a0_2, .int .i64 a0_3] 23 (0, 0))) ∧ Aside0 (w'.heap[gb147]? = some (.cells #[.string a1_0, (.slice A1_1 l1_1.length c1_1)] 59 (0, 0))) ∧ Aside0 (Below w.heap.size w w'))
        case atStart => exact ⟨(a1_0), (0), er_, er_, H', ⟨Nat.le_refl _⟩, ⟨bk_ BK146⟩, ⟨bk_ BK147⟩, ⟨bl_⟩⟩
        case round =>
          clear H'
          try clear c1
          try clear p2
          try clear c3
          try clear c7
          try clear c9
          try clear c14
          try clear c17
          try clear c18
          try clear hcz10_0
          try clear hcz10_1
          try clear hcz10_2
          try clear hcz10_3
          try clear hcz12_0
          try clear hcz12_1
          try clear hcz15_0
          try clear hcz15_1
          try clear hcz15_2
          try clear hcz15_3
          try clear hcz19_0
          try clear hcz19_1
          try clear hfz10_0
          try clear hfz10_1
          try clear hfz10_2
          try clear hfz10_3
          try clear hfz12_0
          try clear hfz12_1
          try clear hfz15_0
          try clear hfz15_1
          try clear hfz15_2
          try clear hfz15_3
          try clear hfz19_0
          try clear hfz19_1
          try clear p2
          obtain ⟨x5_2, x6_2, rfl, rfl, HA, HK2, BK146, BK147, HB⟩ := hrel
          cases gk with
          | zero => exact absurd HA.out (by simp [spec_SegmentText.l0])
          | succ k2 =>
            have H := HA.out
            clear HA
            simp only [spec_SegmentText.l0] at H
            by_cases c20 : x6_2 < (l1_1.length : Int)
            · rw [if_pos c20] at H
              have c20b0 : decide (x6_2 < (l1_1.length : Int)) = true := decide_eq_true c20
              clear c20
              obtain ⟨y153, hy153⟩ : ∃ y_ : List Int, y_ = (([(a0_1) % 256] : List Int)) := ⟨_, rfl⟩
              replace H : (if x5_2.size + (strOfNums y153).size ≤ 9223372036854775807 then (spec_SegmentText.l1 k2 (x5_2 ++ (strOfNums y153)) x6_2 0 a0_0 a0_1 a0_2 a0_3 a1_0 l1_1) else (none)) = some r := by first | (rw [hy153]; with_reducible exact H) | (have H2_ := (Option.bind_some _ _).symm.trans H; rw [hy153]; with_reducible exact H2_) | (have H2_ := (Option.bind_some _ _).symm.trans H; with_reducible exact H2_) | with_reducible exact H | (rw [hy153]; exact H) | exact H
              have Ny153 := Aside0.mk hy153
              clear hy153
              by_cases c21 : x5_2.size + (strOfNums y153).size ≤ 9223372036854775807
              · rw [if_pos c21] at H
                have c21b0 := eq_true c21
                have c21b1 : decide (x5_2.size + (strOfNums y153).size ≤ 9223372036854775807) = true := decide_eq_true c21
                try have c21b2 : (9223372036854775807 < x5_2.size + (strOfNums y153).size) = False := eq_false (Nat.not_lt.2 c21)
                have H' := Aside0.mk H
                clear H
                have hnb22 := NB147_146.out
                have hnc22 := NB146_147.out
                obtain ⟨hcz23_0, hcz23_1, hfz23_0, hfz23_1⟩ := cellsF2 BK147.out
                obtain ⟨hcz24_0, hcz24_1, hcz24_2, hcz24_3, hfz24_0, hfz24_1, hfz24_2, hfz24_3⟩ := cellsF4 BK146.out
                go_wp2_with (first | ((with_reducible refine gate_dst (N := 29) rfl ?_); refine Kd.R_lit (Kd.int .u8) _ 5 ?hg (N := 29) ?hd (xs := ([(a0_1) % 256] : List Int)) (inner := [.int .u8 ((a0_1) % 256)]) (ok := fun _ => True) (okp := fun _ => True) ?hr ?hp (fun _ hk => hk) trivial (Below.refl _ _) (Nat.le_refl _) (by simp) ?_; (case hd => rfl); (case hg => rfl); (case hr => exact hr_); (case hp => exact (Reps.one (show Kd.M (Kd.int .u8) _ _ _ ((a0_1) % 256) [.int .u8 ((a0_1) % 256)] from rfl) (Reps.none _ _))); intro v154 w25 ho26 hb hg_ hnew_; clear hg_ hnew_; (first | rw [← Ny153.out] at ho26 | (simp only [Int.reduceToNat] at ho26; rw [← Ny153.out] at ho26)); have n0_ := Aside0.mk (Kd.R_lower ho26 (below_size bl_)); have n1_ := Aside0.mk (blkb_ BK146 hb); have n2_ := Aside0.mk (blkb_ BK147 hb); have n3_ := Aside0.mk (below_step bl_ hb); clear BK146; clear BK147; clear HB; have HO155 := n0_; have BK146 := n1_; have BK147 := n2_; have HB := n3_; clear n0_ n1_ n2_ n3_; clear hb ho26; have hcv27 := own_string (P := Try.prog) Try.underlying36 Try.underlying5 Try.underlying9 (Kd.own_of_R HO155.out)))
                go_loopg [5, 7] k2 (fun kq v5 v7 w' => ∃ (x5_3 : ByteArray) (x7_3 : Int), v5 = .string x5_3 ∧ v7 = .int .i64 x7_3 ∧ Aside0 (spec_SegmentText.l1 kq x5_3 x6_2 x7_3 a0_0 a0_1 a0_2 a0_3 a1_0 l1_1 = some r) ∧ Aside0 (kq ≤ k2) ∧ Aside0 (w'.heap[gb146]? = some (.cells #[.int .i64 a0_0, .int .i64 a0_1, .int .i64 a0_2, .int .i64 a0_3] 23 (0, 0))) ∧ Aside0 (w'.heap[gb147]? = some (.cells #[.string a1_0, (.slice A1_1 l1_1.length c1_1)] 59 (0, 0))) ∧ Aside0 (Below w.heap.size w w'))
                case atStart => exact ⟨(x5_2 ++ (strOfNums y153)), (0), er_, er_, H', ⟨Nat.le_refl _⟩, ⟨bk_ BK146⟩, ⟨bk_ BK147⟩, ⟨bl_⟩⟩
                case round =>
                  clear H'
                  try clear c1
                  try clear c2
                  try clear p2
                  try clear hcv2
                  try clear c3
                  try clear c7
                  try clear c9
                  try clear c14
                  try clear c17
                  try clear c18
                  try clear c20
                  try clear c20b0
                  try clear c21
                  try clear c21b0
                  try clear c21b1
                  try clear c21b2
                  try clear c22
                  try clear hcv27
                  try clear hcz10_0
                  try clear hcz10_1
                  try clear hcz10_2
                  try clear hcz10_3
                  try clear hcz12_0
                  try clear hcz12_1
                  try clear hcz15_0
                  try clear hcz15_1
                  try clear hcz15_2
                  try clear hcz15_3
                  try clear hcz19_0
                  try clear hcz19_1
                  try clear hcz23_0
                  try clear hcz23_1
                  try clear hcz24_0
                  try clear hcz24_1
                  try clear hcz24_2
                  try clear hcz24_3
                  try clear hfz10_0
                  try clear hfz10_1
                  try clear hfz10_2
                  try clear hfz10_3
                  try clear hfz12_0
                  try clear hfz12_1
                  try clear hfz15_0
                  try clear hfz15_1
                  try clear hfz15_2
                  try clear hfz15_3
                  try clear hfz19_0
                  try clear hfz19_1
                  try clear hfz23_0
                  try clear hfz23_1
                  try clear hfz24_0
                  try clear hfz24_1
                  try clear hfz24_2
                  try clear hfz24_3
                  try clear p2
                  obtain ⟨x5_3, x7_3, rfl, rfl, HA, HK3, BK146, BK147, HB⟩ := hrel
                  cases gk with
                  | zero => exact absurd HA.out (by simp [spec_SegmentText.l1])
                  | succ k3 =>
                    have H := HA.out
                    clear HA
                    simp only [spec_SegmentText.l1] at H
                    by_cases c28 : 0 ≤ x6_2
                    · rw [if_pos c28] at H
                      have c28b0 : decide (0 ≤ x6_2) = true := decide_eq_true c28
                      clear c28
                      by_cases c29 : x6_2 < (l1_1.length : Int)
                      · rw [if_pos c29] at H
                        have c29b0 : decide (x6_2 < (l1_1.length : Int)) = true := decide_eq_true c29
                        clear c29
                        by_cases c30 : x7_3 < (((rd_T102 l1_1 x6_2).f0).length : Int)
                        · rw [if_pos c30] at H
                          have c30b0 : decide (x7_3 < (((rd_T102 l1_1 x6_2).f0).length : Int)) = true := decide_eq_true c30
                          clear c30
                          by_cases c31 : x7_3 > 0
                          · rw [if_pos c31] at H
                            have c31b0 : decide (0 < x7_3) = true := decide_eq_true c31
                            clear c31
                            obtain ⟨y157, hy157⟩ : ∃ y_ : List Int, y_ = (([(a0_2) % 256] : List Int)) := ⟨_, rfl⟩
                            replace H : (if x5_3.size + (strOfNums y157).size ≤ 9223372036854775807 then (if 0 ≤ x7_3 then ((spec_l01Escape.f k3 a0_0 a0_1 a0_2 a0_3 (rdOf ByteArray.empty ((rd_T102 l1_1 x6_2).f0) x7_3)).bind fun t162 => (if (x5_3 ++ (strOfNums y157)).size + t162.size ≤ 9223372036854775807 then (spec_SegmentText.l1 k3 ((x5_3 ++ (strOfNums y157)) ++ t162) x6_2 (wrap64 (x7_3 + 1)) a0_0 a0_1 a0_2 a0_3 a1_0 l1_1) else (none))) else (none)) else (none)) = some r := by first | (rw [hy157]; with_reducible exact H) | (have H2_ := (Option.bind_some _ _).symm.trans H; rw [hy157]; with_reducible exact H2_) | (have H2_ := (Option.bind_some _ _).symm.trans H; with_reducible exact H2_) | with_reducible exact H | (rw [hy157]; exact H) | exact H
                            have Ny157 := Aside0.mk hy157
                            clear hy157
                            by_cases c32 : x5_3.size + (strOfNums y157).size ≤ 9223372036854775807
                            · rw [if_pos c32] at H
                              have c32b0 := eq_true c32
                              have c32b1 : decide (x5_3.size + (strOfNums y157).size ≤ 9223372036854775807) = true := decide_eq_true c32
                              try have c32b2 : (9223372036854775807 < x5_3.size + (strOfNums y157).size) = False := eq_false (Nat.not_lt.2 c32)
                              by_cases c33 : 0 ≤ x7_3
                              · rw [if_pos c33] at H
                                have c33b0 : decide (0 ≤ x7_3) = true := decide_eq_true c33
                                clear c33
                                replace H := Option.bind_eq_some_iff.mp H
                                obtain ⟨t162, A340, H⟩ := H
                                replace H : (if (x5_3 ++ (strOfNums y157)).size + t162.size ≤ 9223372036854775807 then (spec_SegmentText.l1 k3 ((x5_3 ++ (strOfNums y157)) ++ t162) x6_2 (wrap64 (x7_3 + 1)) a0_0 a0_1 a0_2 a0_3 a1_0 l1_1) else (none)) = some r := H
                                have A34 := Aside0.mk A340
                                clear A340
                                by_cases c35 : (x5_3 ++ (strOfNums y157)).size + t162.size ≤ 9223372036854775807
                                · rw [if_pos c35] at H
                                  have c35b0 := eq_true c35
                                  have c35b1 : decide ((x5_3 ++ (strOfNums y157)).size + t162.size ≤ 9223372036854775807) = true := decide_eq_true c35
                                  try have c35b2 : (9223372036854775807 < (x5_3 ++ (strOfNums y157)).size + t162.size) = False := eq_false (Nat.not_lt.2 c35)
                                  try (have c35b3 := c35b2; simp only [ByteArray.size_append] at c35b3)
                                  have H' := Aside0.mk H
                                  clear H
                                  have hnb36 := NB147_146.out
                                  have hnc36 := NB146_147.out
                                  obtain ⟨hcz37_0, hcz37_1, hfz37_0, hfz37_1⟩ := cellsF2 BK147.out
                                  have p156 : 0 ≤ (x6_2 : Int) := of_decide_eq_true as_
                                  have q156 : x6_2 < (l1_1.length : Int) := of_decide_eq_true as_
                                  obtain ⟨ad156, A156_0, c156_0, e156, hx156_0, hl156_0, hi156_0⟩ := at_T102 HR1_1.out x6_2 p156 q156
                                  cases e156
                                  replace hx156_0 := (HB.out.cell (World.block_lt_of_cell? _ _ hx156_0)).trans hx156_0
                                  have HR156_0 := Aside0.mk hi156_0
                                  have HC156_0 := Aside0.mk hl156_0
                                  clear hi156_0 hl156_0
                                  replace p156 := eq_true p156
                                  replace q156 := eq_true q156
                                  obtain ⟨hcz38_0, hcz38_1, hcz38_2, hcz38_3, hfz38_0, hfz38_1, hfz38_2, hfz38_3⟩ := cellsF4 BK146.out
                                  try go_wp2_with (first | ((with_reducible refine gate_dst (N := 49) rfl ?_); refine Kd.R_lit (Kd.int .u8) _ 5 ?hg (N := 49) ?hd (xs := ([(a0_2) % 256] : List Int)) (inner := [.int .u8 ((a0_2) % 256)]) (ok := fun _ => True) (okp := fun _ => True) ?hr ?hp (fun _ hk => hk) trivial (Below.refl _ _) (Nat.le_refl _) (by simp) ?_; (case hd => rfl); (case hg => rfl); (case hr => exact hr_); (case hp => exact (Reps.one (show Kd.M (Kd.int .u8) _ _ _ ((a0_2) % 256) [.int .u8 ((a0_2) % 256)] from rfl) (Reps.none _ _))); intro v158 w39 ho40 hb hg_ hnew_; clear hg_ hnew_; (first | rw [← Ny157.out] at ho40 | (simp only [Int.reduceToNat] at ho40; rw [← Ny157.out] at ho40)); have n0_ := Aside0.mk (Kd.R_lower ho40 (below_size bl_)); have n1_ := Aside0.mk (blkb_ BK146 hb); have n2_ := Aside0.mk (blkb_ BK147 hb); have n3_ := Aside0.mk (below_step bl_ hb); clear BK146; clear BK147; clear HB; have HO159 := n0_; have BK146 := n1_; have BK147 := n2_; have HB := n3_; clear n0_ n1_ n2_ n3_; clear hb ho40; have hcv41 := own_string (P := Try.prog) Try.underlying36 Try.underlying5 Try.underlying9 (Kd.own_of_R HO159.out)))
                                  have n0_ := Aside0.mk (Kd.R_drew HO159.out)
                                  have n1_ := Aside0.mk (blk_drew BK146.out)
                                  have n2_ := Aside0.mk (blk_drew BK147.out)
                                  have n3_ := Aside0.mk (below_drew1 HB.out)
                                  clear HO159
                                  clear BK146
                                  clear BK147
                                  clear HB
                                  have HO159 := n0_
                                  have BK146 := n1_
                                  have BK147 := n2_
                                  have HB := n3_
                                  clear n0_ n1_ n2_ n3_
                                  have p160 : 0 ≤ (x6_2 : Int) := of_decide_eq_true as_
                                  have q160 : x6_2 < (l1_1.length : Int) := of_decide_eq_true as_
                                  obtain ⟨ad160, A160_0, c160_0, e160, hx160_0, hl160_0, hi160_0⟩ := at_T102 HR1_1.out x6_2 p160 q160
                                  have hw160_0 := hx160_0
                                  obtain rfl : ad156 = ad160 := (by injection e160)
                                  replace hx160_0 := (HB.out.cell (World.block_lt_of_cell? _ _ hx160_0)).trans hx160_0
                                  have HR160_0 := Aside0.mk hi160_0
                                  have HC160_0 := Aside0.mk hl160_0
                                  clear hi160_0 hl160_0
                                  replace p160 := eq_true p160
                                  replace q160 := eq_true q160
                                  have p161 : 0 ≤ (x7_3 : Int) := of_decide_eq_true as_
                                  have q161 : x7_3 < (((rd_T102 l1_1 x6_2).f0).length : Int) := of_decide_eq_true as_
                                  obtain ⟨ad161, e161, hx161_0⟩ := Kd.at_string HR160_0.out x7_3 p161 q161
                                  have hw161_0 := hx161_0
                                  cases e161
                                  replace hx161_0 := (HB.out.cell (World.block_lt_of_cell? _ _ hx161_0)).trans hx161_0
                                  replace p161 := eq_true p161
                                  replace q161 := eq_true q161
                                  refine start_ (n := 14) (S := fun w' => w'.cell? ⟨gb146, 0, none⟩ = some (.int .i64 a0_0) ∧ w'.cell? ⟨gb146, 1, none⟩ = some (.int .i64 a0_1) ∧ w'.cell? ⟨gb146, 2, none⟩ = some (.int .i64 a0_2) ∧ w'.cell? ⟨gb146, 3, none⟩ = some (.int .i64 a0_3) ∧ w'.cell? ⟨gb147, 0, none⟩ = some (.string a1_0) ∧ w'.cell? ⟨gb147, 1, none⟩ = some (.slice (some ad156) l1_1.length c1_1) ∧ w'.cell? (ad156.add (x6_2).toNat) = some (.slice (some ad161) ((rd_T102 l1_1 x6_2).f0).length c160_0) ∧ w'.cell? (ad161.add (x7_3).toNat) = some (.string (rdOf ByteArray.empty ((rd_T102 l1_1 x6_2).f0) x7_3))) (ds := []) (bs 14 0) (by kernel_rfl) rfl rfl ⟨(blk_cell BK146.out 0).trans rfl, (blk_cell BK146.out 1).trans rfl, (blk_cell BK146.out 2).trans rfl, (blk_cell BK146.out 3).trans rfl, (blk_cell BK147.out 0).trans rfl, (blk_cell BK147.out 1).trans rfl, ((HB.out.cell (World.block_lt_of_cell? _ _ hw160_0)).trans hw160_0), ((HB.out.cell (World.block_lt_of_cell? _ _ hw161_0)).trans hw161_0)⟩ (fun hHeld => ?_); refine with_tabW spec_SegmentText.tab13 spec_SegmentText.bits13 (fun HT_ HW_ => ?_)
                                  generalize w39.drew = w42 at HO159 BK146 BK147 HB HR160_0 hx160_0 hx161_0 hHeld ⊢
                                  refine pu_ 0 52 (bs 14 1) HT_ ?_ rfl rfl
                                  refine pu_ 2 54 (bs 14 5) HT_ ?_ rfl rfl
                                  refine pu_ 4 56 (bs 14 21) HT_ ?_ rfl rfl
                                  refine pu_ 8 60 (bs 14 277) HT_ ?_ rfl rfl
                                  refine tk_ 1 53 (bs 14 279) HT_ HW_ hHeld au5_0 ?_ rfl rfl
                                  refine tk_ 3 55 (bs 14 287) HT_ HW_ hHeld au5_0 ?_ rfl rfl
                                  refine pu_ 5 57 (bs 14 319) HT_ ?_ rfl rfl
                                  refine pu_ 6 58 (bs 14 383) HT_ ?_ rfl rfl
                                  refine tk_ 7 59 (bs 14 511) HT_ HW_ hHeld au5_0 ?_ rfl rfl
                                  refine pu_ 9 61 (bs 14 1023) HT_ ?_ rfl rfl
                                  refine tk_ 10 62 (bs 14 2047) HT_ HW_ hHeld au5_0 ?_ rfl rfl
                                  refine one_ (i := 11) (N := some 63) (bs 14 4095) rfl rfl (one_of HT_.out (by kernel_rfl)) (by decide) (fun K hK => ?_)
                                  refine gr_ Try.func85 #[.agg #[.int .i64 a0_0, .int .i64 a0_1, .int .i64 a0_2, .int .i64 a0_3], .string (rdOf ByteArray.empty ((rd_T102 l1_1 x6_2).f0) x7_3)] (by rfl) ?_ rfl rfl rfl
                                  with_reducible refine (spec_l01Escape.calls k3 a0_0 a0_1 a0_2 a0_3 (rdOf ByteArray.empty ((rd_T102 l1_1 x6_2).f0) x7_3) t162 _ A34.out).mono ?_
                                  rintro e w43 ⟨rfl, hb⟩
                                  refine ⟨_, rfl, ?_⟩
                                  have n0_ := Aside0.mk (Kd.R_below (rk_ HO159) hb)
                                  have n1_ := Aside0.mk (blkb_ BK146 hb)
                                  have n2_ := Aside0.mk (blkb_ BK147 hb)
                                  have n3_ := Aside0.mk (below_step bl_ hb)
                                  clear HO159
                                  clear BK146
                                  clear BK147
                                  clear HB
                                  have HO159 := n0_
                                  have BK146 := n1_
                                  have BK147 := n2_
                                  have HB := n3_
                                  clear n0_ n1_ n2_ n3_
                                  (try clear hb)
                                  (try clear hb2)
                                  (try clear hk)
                                  (try clear hi)
                                  refine hK.out _ _ ⟨(blk_cell BK146.out 0).trans rfl, (blk_cell BK146.out 1).trans rfl, (blk_cell BK146.out 2).trans rfl, (blk_cell BK146.out 3).trans rfl, (blk_cell BK147.out 0).trans rfl, (blk_cell BK147.out 1).trans rfl, ((HB.out.cell (World.block_lt_of_cell? _ _ hw160_0)).trans hw160_0), ((HB.out.cell (World.block_lt_of_cell? _ _ hw161_0)).trans hw161_0)⟩ (fun hHeld => ?_)
                                  clear hK K
                                  refine norm_ (a' := ?_) ?_ ?_
                                  rotate_left
                                  · show Act.put _ (some 63) _ = _
                                    simp only [Act.put, List.setIfInBounds_toArray, List.set_cons_zero, List.set_cons_succ, i64_w, i32_w]
                                    rfl
                                  refine pu_ 12 64 (bs 14 8191) HT_ ?_ rfl rfl
                                  refine pu_ 13 5 (bs 14 16383) HT_ ?_ rfl rfl
                                  refine done_ (done_of HT_.out (by kernel_rfl)) ?_
                                  try go_wp2
                                  go_roundg k3
                                  case measure => have := HJ2.out; have := HK2.out; have := HK3.out; omega
                                  case rel => exact ⟨((x5_3 ++ (strOfNums y157)) ++ t162), (wrap64 (x7_3 + 1)), er_, er_, H', ⟨au5_1⟩, ⟨bk_ BK146⟩, ⟨bk_ BK147⟩, ⟨bl_⟩⟩
                                · rw [if_neg c35] at H
                                  exact absurd H (by simp)
                              · rw [if_neg c33] at H
                                exact absurd H (by simp)
                            · rw [if_neg c32] at H
                              exact absurd H (by simp)
                          · rw [if_neg c31] at H
                            have c31b0 : decide (0 < x7_3) = false := decide_eq_false c31
                            clear c31
                            by_cases c44 : 0 ≤ x7_3
                            · rw [if_pos c44] at H
                              have c44b0 : decide (0 ≤ x7_3) = true := decide_eq_true c44
                              clear c44
                              replace H := Option.bind_eq_some_iff.mp H
                              obtain ⟨t165, A450, H⟩ := H
                              replace H : (if x5_3.size + t165.size ≤ 9223372036854775807 then (spec_SegmentText.l1 k3 (x5_3 ++ t165) x6_2 (wrap64 (x7_3 + 1)) a0_0 a0_1 a0_2 a0_3 a1_0 l1_1) else (none)) = some r := H
                              have A45 := Aside0.mk A450
                              clear A450
                              by_cases c46 : x5_3.size + t165.size ≤ 9223372036854775807
                              · rw [if_pos c46] at H
                                have c46b0 := eq_true c46
                                have c46b1 : decide (x5_3.size + t165.size ≤ 9223372036854775807) = true := decide_eq_true c46
                                try have c46b2 : (9223372036854775807 < x5_3.size + t165.size) = False := eq_false (Nat.not_lt.2 c46)
                                have H' := Aside0.mk H
                                clear H
                                have hnb47 := NB147_146.out
                                have hnc47 := NB146_147.out
                                obtain ⟨hcz48_0, hcz48_1, hfz48_0, hfz48_1⟩ := cellsF2 BK147.out
                                have p156 : 0 ≤ (x6_2 : Int) := of_decide_eq_true as_
                                have q156 : x6_2 < (l1_1.length : Int) := of_decide_eq_true as_
                                obtain ⟨ad156, A156_0, c156_0, e156, hx156_0, hl156_0, hi156_0⟩ := at_T102 HR1_1.out x6_2 p156 q156
                                cases e156
                                replace hx156_0 := (HB.out.cell (World.block_lt_of_cell? _ _ hx156_0)).trans hx156_0
                                have HR156_0 := Aside0.mk hi156_0
                                have HC156_0 := Aside0.mk hl156_0
                                clear hi156_0 hl156_0
                                replace p156 := eq_true p156
                                replace q156 := eq_true q156
                                try go_wp2
                                have n0_ := Aside0.mk (blk_drew BK146.out)
                                have n1_ := Aside0.mk (blk_drew BK147.out)
                                have n2_ := Aside0.mk (below_drew1 HB.out)
                                clear BK146
                                clear BK147
                                clear HB
                                have BK146 := n0_
                                have BK147 := n1_
                                have HB := n2_
                                clear n0_ n1_ n2_
                                have p163 : 0 ≤ (x6_2 : Int) := of_decide_eq_true as_
                                have q163 : x6_2 < (l1_1.length : Int) := of_decide_eq_true as_
                                obtain ⟨ad163, A163_0, c163_0, e163, hx163_0, hl163_0, hi163_0⟩ := at_T102 HR1_1.out x6_2 p163 q163
                                have hw163_0 := hx163_0
                                obtain rfl : ad156 = ad163 := (by injection e163)
                                replace hx163_0 := (HB.out.cell (World.block_lt_of_cell? _ _ hx163_0)).trans hx163_0
                                have HR163_0 := Aside0.mk hi163_0
                                have HC163_0 := Aside0.mk hl163_0
                                clear hi163_0 hl163_0
                                replace p163 := eq_true p163
                                replace q163 := eq_true q163
                                have p164 : 0 ≤ (x7_3 : Int) := of_decide_eq_true as_
                                have q164 : x7_3 < (((rd_T102 l1_1 x6_2).f0).length : Int) := of_decide_eq_true as_
                                obtain ⟨ad164, e164, hx164_0⟩ := Kd.at_string HR163_0.out x7_3 p164 q164
                                have hw164_0 := hx164_0
                                cases e164
                                replace hx164_0 := (HB.out.cell (World.block_lt_of_cell? _ _ hx164_0)).trans hx164_0
                                replace p164 := eq_true p164
                                replace q164 := eq_true q164
                                refine start_ (n := 14) (S := fun w' => w'.cell? ⟨gb146, 0, none⟩ = some (.int .i64 a0_0) ∧ w'.cell? ⟨gb146, 1, none⟩ = some (.int .i64 a0_1) ∧ w'.cell? ⟨gb146, 2, none⟩ = some (.int .i64 a0_2) ∧ w'.cell? ⟨gb146, 3, none⟩ = some (.int .i64 a0_3) ∧ w'.cell? ⟨gb147, 0, none⟩ = some (.string a1_0) ∧ w'.cell? ⟨gb147, 1, none⟩ = some (.slice (some ad156) l1_1.length c1_1) ∧ w'.cell? (ad156.add (x6_2).toNat) = some (.slice (some ad164) ((rd_T102 l1_1 x6_2).f0).length c163_0) ∧ w'.cell? (ad164.add (x7_3).toNat) = some (.string (rdOf ByteArray.empty ((rd_T102 l1_1 x6_2).f0) x7_3))) (ds := []) (bs 14 0) (by kernel_rfl) rfl rfl ⟨(blk_cell BK146.out 0).trans rfl, (blk_cell BK146.out 1).trans rfl, (blk_cell BK146.out 2).trans rfl, (blk_cell BK146.out 3).trans rfl, (blk_cell BK147.out 0).trans rfl, (blk_cell BK147.out 1).trans rfl, ((HB.out.cell (World.block_lt_of_cell? _ _ hw163_0)).trans hw163_0), ((HB.out.cell (World.block_lt_of_cell? _ _ hw164_0)).trans hw164_0)⟩ (fun hHeld => ?_); refine with_tabW spec_SegmentText.tab13 spec_SegmentText.bits13 (fun HT_ HW_ => ?_)
                                generalize wr.drew = w49 at BK146 BK147 HB HR163_0 hx163_0 hx164_0 hHeld ⊢
                                refine pu_ 0 52 (bs 14 1) HT_ ?_ rfl rfl
                                refine pu_ 2 54 (bs 14 5) HT_ ?_ rfl rfl
                                refine pu_ 4 56 (bs 14 21) HT_ ?_ rfl rfl
                                refine pu_ 8 60 (bs 14 277) HT_ ?_ rfl rfl
                                refine tk_ 1 53 (bs 14 279) HT_ HW_ hHeld au5_0 ?_ rfl rfl
                                refine tk_ 3 55 (bs 14 287) HT_ HW_ hHeld au5_0 ?_ rfl rfl
                                refine pu_ 5 57 (bs 14 319) HT_ ?_ rfl rfl
                                refine pu_ 6 58 (bs 14 383) HT_ ?_ rfl rfl
                                refine tk_ 7 59 (bs 14 511) HT_ HW_ hHeld au5_0 ?_ rfl rfl
                                refine pu_ 9 61 (bs 14 1023) HT_ ?_ rfl rfl
                                refine tk_ 10 62 (bs 14 2047) HT_ HW_ hHeld au5_0 ?_ rfl rfl
                                refine one_ (i := 11) (N := some 63) (bs 14 4095) rfl rfl (one_of HT_.out (by kernel_rfl)) (by decide) (fun K hK => ?_)
                                refine gr_ Try.func85 #[.agg #[.int .i64 a0_0, .int .i64 a0_1, .int .i64 a0_2, .int .i64 a0_3], .string (rdOf ByteArray.empty ((rd_T102 l1_1 x6_2).f0) x7_3)] (by rfl) ?_ rfl rfl rfl
                                with_reducible refine (spec_l01Escape.calls k3 a0_0 a0_1 a0_2 a0_3 (rdOf ByteArray.empty ((rd_T102 l1_1 x6_2).f0) x7_3) t165 _ A45.out).mono ?_
                                rintro e w50 ⟨rfl, hb⟩
                                refine ⟨_, rfl, ?_⟩
                                have n0_ := Aside0.mk (blkb_ BK146 hb)
                                have n1_ := Aside0.mk (blkb_ BK147 hb)
                                have n2_ := Aside0.mk (below_step bl_ hb)
                                clear BK146
                                clear BK147
                                clear HB
                                have BK146 := n0_
                                have BK147 := n1_
                                have HB := n2_
                                clear n0_ n1_ n2_
                                (try clear hb)
                                (try clear hb2)
                                (try clear hk)
                                (try clear hi)
                                refine hK.out _ _ ⟨(blk_cell BK146.out 0).trans rfl, (blk_cell BK146.out 1).trans rfl, (blk_cell BK146.out 2).trans rfl, (blk_cell BK146.out 3).trans rfl, (blk_cell BK147.out 0).trans rfl, (blk_cell BK147.out 1).trans rfl, ((HB.out.cell (World.block_lt_of_cell? _ _ hw163_0)).trans hw163_0), ((HB.out.cell (World.block_lt_of_cell? _ _ hw164_0)).trans hw164_0)⟩ (fun hHeld => ?_)
                                clear hK K
                                refine norm_ (a' := ?_) ?_ ?_
                                rotate_left
                                · show Act.put _ (some 63) _ = _
                                  simp only [Act.put, List.setIfInBounds_toArray, List.set_cons_zero, List.set_cons_succ, i64_w, i32_w]
                                  rfl
                                refine pu_ 12 64 (bs 14 8191) HT_ ?_ rfl rfl
                                refine pu_ 13 5 (bs 14 16383) HT_ ?_ rfl rfl
                                refine done_ (done_of HT_.out (by kernel_rfl)) ?_
                                try go_wp2
                                go_roundg k3
                                case measure => have := HJ2.out; have := HK2.out; have := HK3.out; omega
                                case rel => exact ⟨(x5_3 ++ t165), (wrap64 (x7_3 + 1)), er_, er_, H', ⟨au5_1⟩, ⟨bk_ BK146⟩, ⟨bk_ BK147⟩, ⟨bl_⟩⟩
                              · rw [if_neg c46] at H
                                exact absurd H (by simp)
                            · rw [if_neg c44] at H
                              exact absurd H (by simp)
                        · rw [if_neg c30] at H
                          have c30b0 : decide (x7_3 < (((rd_T102 l1_1 x6_2).f0).length : Int)) = false := decide_eq_false c30
                          clear c30
                          have H' := Aside0.mk H
                          clear H
                          have hnb51 := NB147_146.out
                          have hnc51 := NB146_147.out
                          obtain ⟨hcz52_0, hcz52_1, hfz52_0, hfz52_1⟩ := cellsF2 BK147.out
                          have p156 : 0 ≤ (x6_2 : Int) := of_decide_eq_true as_
                          have q156 : x6_2 < (l1_1.length : Int) := of_decide_eq_true as_
                          obtain ⟨ad156, A156_0, c156_0, e156, hx156_0, hl156_0, hi156_0⟩ := at_T102 HR1_1.out x6_2 p156 q156
                          cases e156
                          replace hx156_0 := (HB.out.cell (World.block_lt_of_cell? _ _ hx156_0)).trans hx156_0
                          have HR156_0 := Aside0.mk hi156_0
                          have HC156_0 := Aside0.mk hl156_0
                          clear hi156_0 hl156_0
                          replace p156 := eq_true p156
                          replace q156 := eq_true q156
                          go_wp2
                          go_roundg k3
                          case measure => have := HJ2.out; have := HK2.out; have := HK3.out; omega
                          case rel => exact ⟨(x5_3), (wrap64 (x6_2 + 1)), er_, er_, H', ⟨au5_1⟩, ⟨bk_ BK146⟩, ⟨bk_ BK147⟩, ⟨bl_⟩⟩
                      · rw [if_neg c29] at H
                        exact absurd H (by simp)
                    · rw [if_neg c28] at H
                      exact absurd H (by simp)
              · rw [if_neg c21] at H
                exact absurd H (by simp)
            · rw [if_neg c20] at H
              have c20b0 : decide (x6_2 < (l1_1.length : Int)) = false := decide_eq_false c20
              clear c20
              obtain ⟨y150, hy150⟩ : ∃ y_ : List Int, y_ = (([(a0_0) % 256] : List Int)) := ⟨_, rfl⟩
              replace H : (if x5_2.size + (strOfNums y150).size ≤ 9223372036854775807 then (some (x5_2 ++ (strOfNums y150))) else (none)) = some r := by first | (rw [hy150]; with_reducible exact H) | (have H2_ := (Option.bind_some _ _).symm.trans H; rw [hy150]; with_reducible exact H2_) | (have H2_ := (Option.bind_some _ _).symm.trans H; with_reducible exact H2_) | with_reducible exact H | (rw [hy150]; exact H) | exact H
              have Ny150 := Aside0.mk hy150
              clear hy150
              by_cases c53 : x5_2.size + (strOfNums y150).size ≤ 9223372036854775807
              · rw [if_pos c53] at H
                have c53b0 := eq_true c53
                have c53b1 : decide (x5_2.size + (strOfNums y150).size ≤ 9223372036854775807) = true := decide_eq_true c53
                try have c53b2 : (9223372036854775807 < x5_2.size + (strOfNums y150).size) = False := eq_false (Nat.not_lt.2 c53)
                obtain rfl := Option.some.inj H
                have hnb54 := NB147_146.out
                have hnc54 := NB146_147.out
                obtain ⟨hcz55_0, hcz55_1, hfz55_0, hfz55_1⟩ := cellsF2 BK147.out
                obtain ⟨hcz56_0, hcz56_1, hcz56_2, hcz56_3, hfz56_0, hfz56_1, hfz56_2, hfz56_3⟩ := cellsF4 BK146.out
                go_wp2_with (first | ((with_reducible refine gate_dst (N := 69) rfl ?_); refine Kd.R_lit (Kd.int .u8) _ 5 ?hg (N := 69) ?hd (xs := ([(a0_0) % 256] : List Int)) (inner := [.int .u8 ((a0_0) % 256)]) (ok := fun _ => True) (okp := fun _ => True) ?hr ?hp (fun _ hk => hk) trivial (Below.refl _ _) (Nat.le_refl _) (by simp) ?_; (case hd => rfl); (case hg => rfl); (case hr => exact hr_); (case hp => exact (Reps.one (show Kd.M (Kd.int .u8) _ _ _ ((a0_0) % 256) [.int .u8 ((a0_0) % 256)] from rfl) (Reps.none _ _))); intro v151 w57 ho58 hb hg_ hnew_; clear hg_ hnew_; (first | rw [← Ny150.out] at ho58 | (simp only [Int.reduceToNat] at ho58; rw [← Ny150.out] at ho58)); have n0_ := Aside0.mk (Kd.R_lower ho58 (below_size bl_)); have n1_ := Aside0.mk (blkb_ BK146 hb); have n2_ := Aside0.mk (blkb_ BK147 hb); have n3_ := Aside0.mk (below_step bl_ hb); clear BK146; clear BK147; clear HB; have HO152 := n0_; have BK146 := n1_; have BK147 := n2_; have HB := n3_; clear n0_ n1_ n2_ n3_; clear hb ho58; have hcv59 := own_string (P := Try.prog) Try.underlying36 Try.underlying5 Try.underlying9 (Kd.own_of_R HO152.out)))
                go_ret
                exact ⟨au5_2, bl_⟩
              · rw [if_neg c53] at H
                exact absurd H (by simp)

end Go.Proofs.Ytchoalagkcdbhaa.PFnExactSegmentsText
