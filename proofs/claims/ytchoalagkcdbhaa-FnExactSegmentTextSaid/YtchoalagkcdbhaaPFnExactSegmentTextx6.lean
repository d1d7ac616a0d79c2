-- printed by a program of this session (wip/xp/xprint.py) out of the translation; Lean checks it
import Derived.Test.YtchoalagkcdbhaaPFnExactSegmentTextx0
import Derived.Test.YtchoalagkcdbhaaPFnExactSegmentTextx3
import Derived.Test.YtchoalagkcdbhaaPFnExactSegmentTextx4
import Derived.Test.YtchoalagkcdbhaaPFnExactSegmentTextx5
namespace Go.Proofs.Ytchoalagkcdbhaa.PFnExactSegmentText
open Go.RowKit Go.Proofs.YtchoalagkcdbhaaW.PrintWords Go.Proofs.YtchoalagkcdbhaaW.PrintLast Go.Proofs.YtchoalagkcdbhaaW.PrintMore
attribute [local go_sem] max2_int min2_int max_two min_two max_three min_three max_four min_four   -- for this text's walks alone
set_option linter.unusedVariables false
set_option linter.unusedSimpArgs false

theorem au6_0 {p : Prop} (h : p := by rintro w' ⟨s0, s1, s2, s3, s4, s5, s6, s7⟩; go_simp; with_reducible rfl) : p := h
theorem au6_1 {p : Prop} (h : p := by have := HJ2.out; have := HK2.out; have := HK3.out; omega) : p := h
theorem au6_2 {p : Prop} (h : p := by first | rfl | (simp [errW_none, errW_some] <;> rfl) | (simp [*, errW_none, errW_some] <;> rfl)) : p := h

/-! ### spec_SegmentText: function 38 -/
mutual
def spec_SegmentText.j0 : Nat → Bool → Int → Int → Int → Int → ByteArray → List (S102) → Option (ByteArray)
  | 0, _, _, _, _, _, _, _ => none
  | k + 1, x15, x181000, x181001, x181002, x181003, x182000, x182001 => if x15 = true then (some (⟨#[]⟩ : ByteArray)) else (spec_SegmentText.l0 k x182000 0 x181000 x181001 x181002 x181003 x182000 x182001)
def spec_SegmentText.l0 : Nat → ByteArray → Int → Int → Int → Int → Int → ByteArray → List (S102) → Option (ByteArray)
  | 0, _, _, _, _, _, _, _, _ => none
  | k + 1, x5, x6, x181000, x181001, x181002, x181003, x182000, x182001 => if x6 < (x182001.length : Int) then ((some (([(x181001) % 256] : List Int) : List Int)).bind fun y187 => (if x5.size + (strOfNums y187).size ≤ 9223372036854775807 then (spec_SegmentText.l1 k (x5 ++ (strOfNums y187)) x6 0 x181000 x181001 x181002 x181003 x182000 x182001) else (none))) else ((some (([(x181000) % 256] : List Int) : List Int)).bind fun y184 => (if x5.size + (strOfNums y184).size ≤ 9223372036854775807 then (some (x5 ++ (strOfNums y184))) else (none)))
def spec_SegmentText.l1 : Nat → ByteArray → Int → Int → Int → Int → Int → Int → ByteArray → List (S102) → Option (ByteArray)
  | 0, _, _, _, _, _, _, _, _, _ => none
  | k + 1, x5, x6, x7, x181000, x181001, x181002, x181003, x182000, x182001 => if 0 ≤ x6 then (if x6 < (x182001.length : Int) then (if x7 < (((rd_T102 x182001 x6).f0).length : Int) then (if x7 > 0 then ((some (([(x181002) % 256] : List Int) : List Int)).bind fun y191 => (if x5.size + (strOfNums y191).size ≤ 9223372036854775807 then (if 0 ≤ x7 then ((spec_l01Escape.f k x181000 x181001 x181002 x181003 (rdOf ByteArray.empty ((rd_T102 x182001 x6).f0) x7)).bind fun t196 => (if (x5 ++ (strOfNums y191)).size + t196.size ≤ 9223372036854775807 then (spec_SegmentText.l1 k ((x5 ++ (strOfNums y191)) ++ t196) x6 (wrap64 (x7 + 1)) x181000 x181001 x181002 x181003 x182000 x182001) else (none))) else (none)) else (none))) else (if 0 ≤ x7 then ((spec_l01Escape.f k x181000 x181001 x181002 x181003 (rdOf ByteArray.empty ((rd_T102 x182001 x6).f0) x7)).bind fun t199 => (if x5.size + t199.size ≤ 9223372036854775807 then (spec_SegmentText.l1 k (x5 ++ t199) x6 (wrap64 (x7 + 1)) x181000 x181001 x181002 x181003 x182000 x182001) else (none))) else (none))) else (spec_SegmentText.l0 k x5 (wrap64 (x6 + 1)) x181000 x181001 x181002 x181003 x182000 x182001)) else (none)) else (none)
end
def spec_SegmentText.f (k : Nat) (a0_0 : Int) (a0_1 : Int) (a0_2 : Int) (a0_3 : Int) (a1_0 : ByteArray) (l1_1 : List (S102)) : Option (ByteArray) := (spec_SyntaxRight.f k a0_0 a0_1 a0_2 a0_3).bind fun t182 => (if t182 = true then ((spec_SegmentRight.f k a1_0 l1_1).bind fun t183 => (spec_SegmentText.j0 k (!t183) a0_0 a0_1 a0_2 a0_3 a1_0 l1_1)) else (spec_SegmentText.j0 k true a0_0 a0_1 a0_2 a0_3 a1_0 l1_1))
theorem spec_SegmentText.mono_l : ∀ k, (∀ y0 y1 y2 y3 y4 y5 y6, LeO (spec_SegmentText.j0 k y0 y1 y2 y3 y4 y5 y6) (spec_SegmentText.j0 (k + 1) y0 y1 y2 y3 y4 y5 y6)) ∧ (∀ y0 y1 y2 y3 y4 y5 y6 y7, LeO (spec_SegmentText.l0 k y0 y1 y2 y3 y4 y5 y6 y7) (spec_SegmentText.l0 (k + 1) y0 y1 y2 y3 y4 y5 y6 y7)) ∧ (∀ y0 y1 y2 y3 y4 y5 y6 y7 y8, LeO (spec_SegmentText.l1 k y0 y1 y2 y3 y4 y5 y6 y7 y8) (spec_SegmentText.l1 (k + 1) y0 y1 y2 y3 y4 y5 y6 y7 y8))
  | 0 => ⟨fun _ _ _ _ _ _ _ r h => by simp [spec_SegmentText.j0] at h, fun _ _ _ _ _ _ _ _ r h => by simp [spec_SegmentText.l0] at h, fun _ _ _ _ _ _ _ _ _ r h => by simp [spec_SegmentText.l1] at h⟩
  | k + 1 => by
    obtain ⟨ih0, ih1, ih2⟩ := spec_SegmentText.mono_l k
    refine ⟨?_, ?_, ?_⟩
    · intro y0 y1 y2 y3 y4 y5 y6
      unfold spec_SegmentText.j0
      repeat' first
      | (with_reducible exact ih0 _ _ _ _ _ _ _)
      | (with_reducible exact ih1 _ _ _ _ _ _ _ _)
      | (with_reducible exact ih2 _ _ _ _ _ _ _ _ _)
      | (with_reducible exact spec_SegmentRight.mono _ _ _)
      | (with_reducible exact spec_SyntaxRight.mono _ _ _ _ _)
      | (with_reducible exact spec_l01Escape.mono _ _ _ _ _ _)
      | (with_reducible exact LeO.refl _)
      | (with_reducible exact LeO.none _)
      | (with_reducible refine LeO.ite ?_ ?_)
      | (with_reducible refine LeO.bind ?_ (fun _ => ?_))
      | exact ih0 _ _ _ _ _ _ _
      | exact ih1 _ _ _ _ _ _ _ _
      | exact ih2 _ _ _ _ _ _ _ _ _
      | exact spec_SegmentRight.mono _ _ _
      | exact spec_SyntaxRight.mono _ _ _ _ _
      | exact spec_l01Escape.mono _ _ _ _ _ _
      | exact LeO.none _
      | refine LeO.ite ?_ ?_
      | refine LeO.bind ?_ (fun _ => ?_)
    · intro y0 y1 y2 y3 y4 y5 y6 y7
      unfold spec_SegmentText.l0
      repeat' first
      | (with_reducible exact ih0 _ _ _ _ _ _ _)
      | (with_reducible exact ih1 _ _ _ _ _ _ _ _)
      | (with_reducible exact ih2 _ _ _ _ _ _ _ _ _)
      | (with_reducible exact spec_SegmentRight.mono _ _ _)
      | (with_reducible exact spec_SyntaxRight.mono _ _ _ _ _)
      | (with_reducible exact spec_l01Escape.mono _ _ _ _ _ _)
      | (with_reducible exact LeO.refl _)
      | (with_reducible exact LeO.none _)
      | (with_reducible refine LeO.ite ?_ ?_)
      | (with_reducible refine LeO.bind ?_ (fun _ => ?_))
      | exact ih0 _ _ _ _ _ _ _
      | exact ih1 _ _ _ _ _ _ _ _
      | exact ih2 _ _ _ _ _ _ _ _ _
      | exact spec_SegmentRight.mono _ _ _
      | exact spec_SyntaxRight.mono _ _ _ _ _
      | exact spec_l01Escape.mono _ _ _ _ _ _
      | exact LeO.none _
      | refine LeO.ite ?_ ?_
      | refine LeO.bind ?_ (fun _ => ?_)
    · intro y0 y1 y2 y3 y4 y5 y6 y7 y8
      unfold spec_SegmentText.l1
      repeat' first
      | (with_reducible exact ih0 _ _ _ _ _ _ _)
      | (with_reducible exact ih1 _ _ _ _ _ _ _ _)
      | (with_reducible exact ih2 _ _ _ _ _ _ _ _ _)
      | (with_reducible exact spec_SegmentRight.mono _ _ _)
      | (with_reducible exact spec_SyntaxRight.mono _ _ _ _ _)
      | (with_reducible exact spec_l01Escape.mono _ _ _ _ _ _)
      | (with_reducible exact LeO.refl _)
      | (with_reducible exact LeO.none _)
      | (with_reducible refine LeO.ite ?_ ?_)
      | (with_reducible refine LeO.bind ?_ (fun _ => ?_))
      | exact ih0 _ _ _ _ _ _ _
      | exact ih1 _ _ _ _ _ _ _ _
      | exact ih2 _ _ _ _ _ _ _ _ _
      | exact spec_SegmentRight.mono _ _ _
      | exact spec_SyntaxRight.mono _ _ _ _ _
      | exact spec_l01Escape.mono _ _ _ _ _ _
      | exact LeO.none _
      | refine LeO.ite ?_ ?_
      | refine LeO.bind ?_ (fun _ => ?_)
theorem spec_SegmentText.mono : ∀ a0 a1 a2 a3 a4 a5 k, LeO (spec_SegmentText.f k a0 a1 a2 a3 a4 a5) (spec_SegmentText.f (k + 1) a0 a1 a2 a3 a4 a5) := by
  intro a0 a1 a2 a3 a4 a5 k
  obtain ⟨ih0, ih1, ih2⟩ := spec_SegmentText.mono_l k
  unfold spec_SegmentText.f
  repeat' first
      | (with_reducible exact ih0 _ _ _ _ _ _ _)
      | (with_reducible exact ih1 _ _ _ _ _ _ _ _)
      | (with_reducible exact ih2 _ _ _ _ _ _ _ _ _)
      | (with_reducible exact spec_SegmentRight.mono _ _ _)
      | (with_reducible exact spec_SyntaxRight.mono _ _ _ _ _)
      | (with_reducible exact spec_l01Escape.mono _ _ _ _ _ _)
      | (with_reducible exact LeO.refl _)
      | (with_reducible exact LeO.none _)
      | (with_reducible refine LeO.ite ?_ ?_)
      | (with_reducible refine LeO.bind ?_ (fun _ => ?_))
      | exact ih0 _ _ _ _ _ _ _
      | exact ih1 _ _ _ _ _ _ _ _
      | exact ih2 _ _ _ _ _ _ _ _ _
      | exact spec_SegmentRight.mono _ _ _
      | exact spec_SyntaxRight.mono _ _ _ _ _
      | exact spec_l01Escape.mono _ _ _ _ _ _
      | exact LeO.none _
      | refine LeO.ite ?_ ?_
      | refine LeO.bind ?_ (fun _ => ?_)
def spec_SegmentText.T13 : Bool × List (List Nat × List Nat) := (true, [([], []), ([], []), ([], []), ([2], [2]), ([], []), ([3, 4], [3, 4]), ([5], [5]), ([6], [6]), ([], []), ([7, 8], [7, 8]), ([9], [9]), ([1, 10], [1, 10]), ([0, 11], [0, 11]), ([12, 11, 0, 1, 2, 3, 4, 5, 6, 7, 8, 9, 10, 11, 12], [0, 12])])
def spec_SegmentText.B13 : List Nat := [0, 0, 0, 4, 0, 28, 60, 124, 0, 508, 1020, 2046, 4095, 8191]
theorem spec_SegmentText.tab13 : rtab .any (opsOf Try.f38 13) = spec_SegmentText.T13 := by kernel_rfl
theorem spec_SegmentText.bits13 : waitsOk spec_SegmentText.T13.2 spec_SegmentText.B13 = true := by kernel_rfl
set_option maxHeartbeats 8000000 in
set_option maxRecDepth 100000 in
theorem spec_SegmentText.calls (k : Nat) (a0_0 : Int) (a0_1 : Int) (a0_2 : Int) (a0_3 : Int) (a1_0 : ByteArray) (A1_1 : Option Addr) (c1_1 : Nat) (l1_1 : List (S102)) (r : ByteArray) (w : World) (hr1_1 : Kd.C k102 w A1_1 l1_1.length l1_1) (hc1_1 : l1_1.length ≤ c1_1) (h : spec_SegmentText.f k a0_0 a0_1 a0_2 a0_3 a1_0 l1_1 = some r) :
    Calls Try.prog 38 #[.agg #[.int .i64 a0_0, .int .i64 a0_1, .int .i64 a0_2, .int .i64 a0_3], .agg #[.string a1_0, .slice A1_1 l1_1.length c1_1]] w fun e w' => e = .returned (.string r) ∧ Below w.heap.size w w' := by
  have hu23 := Try.underlying23
  have hu59 := Try.underlying59
  have HR1_1 := Aside0.mk hr1_1
  have HC1_1 := Aside0.mk hc1_1
  clear hr1_1 hc1_1
  have HB := Aside0.mk (Below.refl w.heap.size w)
  have H : ((spec_SyntaxRight.f k a0_0 a0_1 a0_2 a0_3).bind fun t182 => (if t182 = true then ((spec_SegmentRight.f k a1_0 l1_1).bind fun t183 => (spec_SegmentText.j0 k (!t183) a0_0 a0_1 a0_2 a0_3 a1_0 l1_1)) else (spec_SegmentText.j0 k true a0_0 a0_1 a0_2 a0_3 a1_0 l1_1))) = some r := h
  clear h
  have HC3 := Aside0.mk H
  clear H
  go_enter Try.func38, Try.ntmps38
  go_upto_region 1 with (first | ((with_reducible refine gate_dst (N := 2) rfl ?_); refine box_event ?hg (N := 2) ?hd (cs := #[.int .i64 a0_0, .int .i64 a0_1, .int .i64 a0_2, .int .i64 a0_3]) (t := 23) ?hr ?_; (case hd => rfl); (case hg => rfl); (case hr => exact hr_); intro gb180 hg w4 hbox hb; have n0_ := Aside0.mk (below_step bl_ hb); have n1_ := Aside0.mk (hbox); have n2_ := Aside0.mk (gw_ hg bl_); have n3_ := Aside0.mk (gw_ hg bl_); clear HB; have HB := n0_; have BK180 := n1_; have GW180 := n2_; have GE180 := n3_; clear n0_ n1_ n2_ n3_; clear hb hbox hg) | ((with_reducible refine gate_dst (N := 3) rfl ?_); refine box_event ?hg (N := 3) ?hd (cs := #[.string a1_0, .slice A1_1 l1_1.length c1_1]) (t := 59) ?hr ?_; (case hd => rfl); (case hg => rfl); (case hr => exact hr_); intro gb181 hg w5 hbox hb; have n0_ := Aside0.mk (blkb_ BK180 hb); have n1_ := Aside0.mk (below_step bl_ hb); have n2_ := Aside0.mk (hbox); have n3_ := Aside0.mk (gw_ hg bl_); have n4_ := Aside0.mk (gw_ hg bl_); have n5_ := Aside0.mk (gn_ hg (blkl_ BK180)); have n6_ := Aside0.mk (gm_ hg (blkl_ BK180)); clear BK180; clear HB; have BK180 := n0_; have HB := n1_; have BK181 := n2_; have GW181 := n3_; have GE181 := n4_; have NB180_181 := n5_; have NB181_180 := n6_; clear n0_ n1_ n2_ n3_ n4_ n5_ n6_; clear hb hbox hg))
  (try simp only [Act.put, List.setIfInBounds_toArray, List.set_cons_zero, List.set_cons_succ])
  go_cut [15] (fun v15 wc => ∃ (kq : Nat) (x15_2 : Bool), v15 = .bool x15_2 ∧ Aside0 (spec_SegmentText.j0 kq x15_2 a0_0 a0_1 a0_2 a0_3 a1_0 l1_1 = some r) ∧ Aside0 (kq ≤ k) ∧ Aside0 (wc.heap[gb180]? = some (.cells #[.int .i64 a0_0, .int .i64 a0_1, .int .i64 a0_2, .int .i64 a0_3] 23 (0, 0))) ∧ Aside0 (wc.heap[gb181]? = some (.cells #[.string a1_0, (.slice A1_1 l1_1.length c1_1)] 59 (0, 0))) ∧ Aside0 (Below w.heap.size w wc))
  case first =>
    have H := HC3.out
    clear HC3
    replace H := Option.bind_eq_some_iff.mp H
    obtain ⟨t182, A60, H⟩ := H
    replace H : (if t182 = true then ((spec_SegmentRight.f k a1_0 l1_1).bind fun t183 => (spec_SegmentText.j0 k (!t183) a0_0 a0_1 a0_2 a0_3 a1_0 l1_1)) else (spec_SegmentText.j0 k true a0_0 a0_1 a0_2 a0_3 a1_0 l1_1)) = some r := H
    have A6 := Aside0.mk A60
    clear A60
    by_cases c7 : t182 = true
    · subst c7
      have H1 : ((spec_SegmentRight.f k a1_0 l1_1).bind fun t183 => (spec_SegmentText.j0 k (!t183) a0_0 a0_1 a0_2 a0_3 a1_0 l1_1)) = some r := by rw [if_pos rfl] at H; exact H
      clear H
      have H := H1
      clear H1
      replace H := Option.bind_eq_some_iff.mp H
      obtain ⟨t183, A80, H⟩ := H
      replace H : (spec_SegmentText.j0 k (!t183) a0_0 a0_1 a0_2 a0_3 a1_0 l1_1) = some r := H
      have A8 := Aside0.mk A80
      clear A80
      have H' := Aside0.mk H
      clear H
      have hnb9 := NB180_181.out
      have hnc9 := NB181_180.out
      obtain ⟨hcz10_0, hcz10_1, hcz10_2, hcz10_3, hfz10_0, hfz10_1, hfz10_2, hfz10_3⟩ := cellsF4 BK180.out
      go_wp2_with (first | (go_at_call 23; (with_reducible refine (spec_SyntaxRight.calls k a0_0 a0_1 a0_2 a0_3 true _ A6.out).mono ?_); rintro e w11 ⟨rfl, hb⟩; (try clear A6); have n0_ := Aside0.mk (blkb_ BK180 hb); have n1_ := Aside0.mk (blkb_ BK181 hb); have n2_ := Aside0.mk (below_step bl_ hb); clear BK180; clear BK181; clear HB; have BK180 := n0_; have BK181 := n1_; have HB := n2_; clear n0_ n1_ n2_; (try clear hb); (try clear hb2); (try clear hk); (try clear hi); obtain ⟨hcz12_0, hcz12_1, hfz12_0, hfz12_1⟩ := cellsF2 BK181.out) | (go_at_call 34; (with_reducible refine (spec_SegmentRight.calls k a1_0 _ _ l1_1 t183 _ ?side1 ?side2 A8.out).mono ?_); (case side1 => repeat (first | exact (Kd.C_below HR1_1.out HB.out) | (with_reducible refine Kd.C_alloc ?_ _) | (with_reducible refine Kd.C_drewN ?_ _) | (with_reducible refine Kd.C_drew ?_))); (case side2 => exact HC1_1.out); rintro e w13 ⟨rfl, hb⟩; (try clear A8); have n0_ := Aside0.mk (blkb_ BK180 hb); have n1_ := Aside0.mk (blkb_ BK181 hb); have n2_ := Aside0.mk (below_step bl_ hb); clear BK180; clear BK181; clear HB; have BK180 := n0_; have BK181 := n1_; have HB := n2_; clear n0_ n1_ n2_; (try clear hb); (try clear hb2); (try clear hk); (try clear hi)))
      go_meet
      case rel => exact ⟨_, (!t183), er_, H', ⟨by first | omega | exact Nat.le_refl _⟩, ⟨bk_ BK180⟩, ⟨bk_ BK181⟩, ⟨bl_⟩⟩
    · replace c7 := Bool.eq_false_iff.mpr c7
      subst c7
      have H1 : (spec_SegmentText.j0 k true a0_0 a0_1 a0_2 a0_3 a1_0 l1_1) = some r := by rw [if_neg (show ¬ (false = true) by decide)] at H; exact H
      clear H
      have H := H1
      clear H1
      have H' := Aside0.mk H
      clear H
      have hnb14 := NB180_181.out
      have hnc14 := NB181_180.out
      obtain ⟨hcz15_0, hcz15_1, hcz15_2, hcz15_3, hfz15_0, hfz15_1, hfz15_2, hfz15_3⟩ := cellsF4 BK180.out
      go_wp2_with (first | (go_at_call 23; (with_reducible refine (spec_SyntaxRight.calls k a0_0 a0_1 a0_2 a0_3 false _ A6.out).mono ?_); rintro e w16 ⟨rfl, hb⟩; (try clear A6); have n0_ := Aside0.mk (blkb_ BK180 hb); have n1_ := Aside0.mk (blkb_ BK181 hb); have n2_ := Aside0.mk (below_step bl_ hb); clear BK180; clear BK181; clear HB; have BK180 := n0_; have BK181 := n1_; have HB := n2_; clear n0_ n1_ n2_; (try clear hb); (try clear hb2); (try clear hk); (try clear hi)))
      go_meet
      case rel => exact ⟨_, (true), er_, H', ⟨by first | omega | exact Nat.le_refl _⟩, ⟨bk_ BK180⟩, ⟨bk_ BK181⟩, ⟨bl_⟩⟩
  case rest =>
    clear HC3
    try clear c1
    try clear p2
    try clear c3
    try clear c7
    try clear c9
    try clear c14
    try clear hcz10_0
    try clear hcz10_1
    try clear hcz10_2
    try clear hcz10_3
    try clear hcz12_0
    try clear hcz12_1
    try clear hcz15_0
    try clear hcz15_1
    try clear hcz15_2
    try clear hcz15_3
    try clear hfz10_0
    try clear hfz10_1
    try clear hfz10_2
    try clear hfz10_3
    try clear hfz12_0
    try clear hfz12_1
    try clear hfz15_0
    try clear hfz15_1
    try clear hfz15_2
    try clear hfz15_3
    obtain ⟨kq, x15_2, rfl, HA, HJ2, BK180, BK181, HB⟩ := hcut
    cases kq with
    | zero => exact absurd HA.out (by simp [spec_SegmentText.j0])
    | succ kj2 =>
      have H := HA.out
      clear HA
      simp only [spec_SegmentText.j0] at H
      by_cases c17 : x15_2 = true
      · subst c17
        have H1 : (some (⟨#[]⟩ : ByteArray)) = some r := by rw [if_pos rfl] at H; exact H
        clear H
        have H := H1
        clear H1
        obtain rfl := Option.some.inj H
        go_wp2
        go_ret
        exact ⟨au6_2, bl_⟩
      · replace c17 := Bool.eq_false_iff.mpr c17
        subst c17
        have H1 : (spec_SegmentText.l0 kj2 a1_0 0 a0_0 a0_1 a0_2 a0_3 a1_0 l1_1) = some r := by rw [if_neg (show ¬ (false = true) by decide)] at H; exact H
        clear H
        have H := H1
        clear H1
        have H' := Aside0.mk H
        clear H
        have hnb18 := NB181_180.out
        have hnc18 := NB180_181.out
        obtain ⟨hcz19_0, hcz19_1, hfz19_0, hfz19_1⟩ := cellsF2 BK181.out
        go_wp2
        go_loopg [5, 6] kj2 (fun kq v5 v6 w' => ∃ (x5_2 : ByteArray) (x6_2 : Int), v5 = .string x5_2 ∧ v6 = .int .i64 x6_2 ∧ Aside0 (spec_SegmentText.l0 kq x5_2 x6_2 a0_0 a0_1 a0_2 a0_3 a1_0 l1_1 = some r) ∧ Aside0 (kq ≤ kj2) ∧ Aside0 (w'.heap[gb180]? = some (.cells #[.int .i64 a0_0, .int .i64 a0_1, .int .i64 a0_2, .int .i64 a0_3] 23 (0, 0))) ∧ Aside0 (w'.heap[gb181]? = some (.cells #[.string a1_0, (.slice A1_1 l1_1.length c1_1)] 59 (0, 0))) ∧ Aside0 (Below w.heap.size w w'))
        case atStart => exact ⟨(a1_0), (0), er_, er_, H', ⟨Nat.le_refl _⟩, ⟨bk_ BK180⟩, ⟨bk_ BK181⟩, ⟨bl_⟩⟩
        case round =>
          clear H'
          try clear c1
          try clear p2
          try clear c3
          try clear c7
          try clear c9
          try clear c14
          try clear c17
          try clear c18
          try clear hcz10_0
          try clear hcz10_1
          try clear hcz10_2
          try clear hcz10_3
          try clear hcz12_0
          try clear hcz12_1
          try clear hcz15_0
          try clear hcz15_1
          try clear hcz15_2
          try clear hcz15_3
          try clear hcz19_0
          try clear hcz19_1
          try clear hfz10_0
          try clear hfz10_1
          try clear hfz10_2
          try clear hfz10_3
          try clear hfz12_0
          try clear hfz12_1
          try clear hfz15_0
          try clear hfz15_1
          try clear hfz15_2
          try clear hfz15_3
          try clear hfz19_0
          try clear hfz19_1
          try clear p2
          obtain ⟨x5_2, x6_2, rfl, rfl, HA, HK2, BK180, BK181, HB⟩ := hrel
          cases gk with
          | zero => exact absurd HA.out (by simp [spec_SegmentText.l0])
          | succ k2 =>
            have H := HA.out
            clear HA
            simp only [spec_SegmentText.l0] at H
            by_cases c20 : x6_2 < (l1_1.length : Int)
            · rw [if_pos c20] at H
              have c20b0 : decide (x6_2 < (l1_1.length : Int)) = true := decide_eq_true c20
              clear c20
              obtain ⟨y187, hy187⟩ : ∃ y_ : List Int, y_ = (([(a0_1) % 256] : List Int)) := ⟨_, rfl⟩
              replace H : (if x5_2.size + (strOfNums y187).size ≤ 9223372036854775807 then (spec_SegmentText.l1 k2 (x5_2 ++ (strOfNums y187)) x6_2 0 a0_0 a0_1 a0_2 a0_3 a1_0 l1_1) else (none)) = some r := by first | (rw [hy187]; with_reducible exact H) | (have H2_ := (Option.bind_some _ _).symm.trans H; rw [hy187]; with_reducible exact H2_) | (have H2_ := (Option.bind_some _ _).symm.trans H; with_reducible exact H2_) | with_reducible exact H | (rw [hy187]; exact H) | exact H
              have Ny187 := Aside0.mk hy187
              clear hy187
              by_cases c21 : x5_2.size + (strOfNums y187).size ≤ 9223372036854775807
              · rw [if_pos c21] at H
                have c21b0 := eq_true c21
                have c21b1 : decide (x5_2.size + (strOfNums y187).size ≤ 9223372036854775807) = true := decide_eq_true c21
                try have c21b2 : (9223372036854775807 < x5_2.size + (strOfNums y187).size) = False := eq_false (Nat.not_lt.2 c21)
                have H' := Aside0.mk H
                clear H
                have hnb22 := NB181_180.out
                have hnc22 := NB180_181.out
                obtain ⟨hcz23_0, hcz23_1, hfz23_0, hfz23_1⟩ := cellsF2 BK181.out
                obtain ⟨hcz24_0, hcz24_1, hcz24_2, hcz24_3, hfz24_0, hfz24_1, hfz24_2, hfz24_3⟩ := cellsF4 BK180.out
                go_wp2_with (first | ((with_reducible refine gate_dst (N := 29) rfl ?_); refine Kd.R_lit (Kd.int .u8) _ 5 ?hg (N := 29) ?hd (xs := ([(a0_1) % 256] : List Int)) (inner := [.int .u8 ((a0_1) % 256)]) (ok := fun _ => True) (okp := fun _ => True) ?hr ?hp (fun _ hk => hk) trivial (Below.refl _ _) (Nat.le_refl _) (by simp) ?_; (case hd => rfl); (case hg => rfl); (case hr => exact hr_); (case hp => exact (Reps.one (show Kd.M (Kd.int .u8) _ _ _ ((a0_1) % 256) [.int .u8 ((a0_1) % 256)] from rfl) (Reps.none _ _))); intro v188 w25 ho26 hb hg_ hnew_; clear hg_ hnew_; (first | rw [← Ny187.out] at ho26 | (simp only [Int.reduceToNat] at ho26; rw [← Ny187.out] at ho26)); have n0_ := Aside0.mk (Kd.R_lower ho26 (below_size bl_)); have n1_ := Aside0.mk (blkb_ BK180 hb); have n2_ := Aside0.mk (blkb_ BK181 hb); have n3_ := Aside0.mk (below_step bl_ hb); clear BK180; clear BK181; clear HB; have HO189 := n0_; have BK180 := n1_; have BK181 := n2_; have HB := n3_; clear n0_ n1_ n2_ n3_; clear hb ho26; have hcv27 := own_string (P := Try.prog) Try.underlying36 Try.underlying5 Try.underlying9 (Kd.own_of_R HO189.out)))
                go_loopg [5, 7] k2 (fun kq v5 v7 w' => ∃ (x5_3 : ByteArray) (x7_3 : Int), v5 = .string x5_3 ∧ v7 = .int .i64 x7_3 ∧ Aside0 (spec_SegmentText.l1 kq x5_3 x6_2 x7_3 a0_0 a0_1 a0_2 a0_3 a1_0 l1_1 = some r) ∧ Aside0 (kq ≤ k2) ∧ Aside0 (w'.heap[gb180]? = some (.cells #[.int .i64 a0_0, .int .i64 a0_1, .int .i64 a0_2, .int .i64 a0_3] 23 (0, 0))) ∧ Aside0 (w'.heap[gb181]? = some (.cells #[.string a1_0, (.slice A1_1 l1_1.length c1_1)] 59 (0, 0))) ∧ Aside0 (Below w.heap.size w w'))
                case atStart => exact ⟨(x5_2 ++ (strOfNums y187)), (0), er_, er_, H', ⟨Nat.le_refl _⟩, ⟨bk_ BK180⟩, ⟨bk_ BK181⟩, ⟨bl_⟩⟩
                case round =>
                  clear H'
                  try clear c1
                  try clear c2
                  try clear p2
                  try clear hcv2
                  try clear c3
                  try clear c7
                  try clear c9
                  try clear c14
                  try clear c17
                  try clear c18
                  try clear c20
                  try clear c20b0
                  try clear c21
                  try clear c21b0
                  try clear c21b1
                  try clear c21b2
                  try clear c22
                  try clear hcv27
                  try clear hcz10_0
                  try clear hcz10_1
                  try clear hcz10_2
                  try clear hcz10_3
                  try clear hcz12_0
                  try clear hcz12_1
                  try clear hcz15_0
                  try clear hcz15_1
                  try clear hcz15_2
                  try clear hcz15_3
                  try clear hcz19_0
                  try clear hcz19_1
                  try clear hcz23_0
                  try clear hcz23_1
                  try clear hcz24_0
                  try clear hcz24_1
                  try clear hcz24_2
                  try clear hcz24_3
                  try clear hfz10_0
                  try clear hfz10_1
                  try clear hfz10_2
                  try clear hfz10_3
                  try clear hfz12_0
                  try clear hfz12_1
                  try clear hfz15_0
                  try clear hfz15_1
                  try clear hfz15_2
                  try clear hfz15_3
                  try clear hfz19_0
                  try clear hfz19_1
                  try clear hfz23_0
                  try clear hfz23_1
                  try clear hfz24_0
                  try clear hfz24_1
                  try clear hfz24_2
                  try clear hfz24_3
                  try clear p2
                  obtain ⟨x5_3, x7_3, rfl, rfl, HA, HK3, BK180, BK181, HB⟩ := hrel
                  cases gk with
                  | zero => exact absurd HA.out (by simp [spec_SegmentText.l1])
                  | succ k3 =>
                    have H := HA.out
                    clear HA
                    simp only [spec_SegmentText.l1] at H
                    by_cases c28 : 0 ≤ x6_2
                    · rw [if_pos c28] at H
                      have c28b0 : decide (0 ≤ x6_2) = true := decide_eq_true c28
                      clear c28
                      by_cases c29 : x6_2 < (l1_1.length : Int)
                      · rw [if_pos c29] at H
                        have c29b0 : decide (x6_2 < (l1_1.length : Int)) = true := decide_eq_true c29
                        clear c29
                        by_cases c30 : x7_3 < (((rd_T102 l1_1 x6_2).f0).length : Int)
                        · rw [if_pos c30] at H
                          have c30b0 : decide (x7_3 < (((rd_T102 l1_1 x6_2).f0).length : Int)) = true := decide_eq_true c30
                          clear c30
                          by_cases c31 : x7_3 > 0
                          · rw [if_pos c31] at H
                            have c31b0 : decide (0 < x7_3) = true := decide_eq_true c31
                            clear c31
                            obtain ⟨y191, hy191⟩ : ∃ y_ : List Int, y_ = (([(a0_2) % 256] : List Int)) := ⟨_, rfl⟩
                            replace H : (if x5_3.size + (strOfNums y191).size ≤ 9223372036854775807 then (if 0 ≤ x7_3 then ((spec_l01Escape.f k3 a0_0 a0_1 a0_2 a0_3 (rdOf ByteArray.empty ((rd_T102 l1_1 x6_2).f0) x7_3)).bind fun t196 => (if (x5_3 ++ (strOfNums y191)).size + t196.size ≤ 9223372036854775807 then (spec_SegmentText.l1 k3 ((x5_3 ++ (strOfNums y191)) ++ t196) x6_2 (wrap64 (x7_3 + 1)) a0_0 a0_1 a0_2 a0_3 a1_0 l1_1) else (none))) else (none)) else (none)) = some r := by first | (rw [hy191]; with_reducible exact H) | (have H2_ := (Option.bind_some _ _).symm.trans H; rw [hy191]; with_reducible exact H2_) | (have H2_ := (Option.bind_some _ _).symm.trans H; with_reducible exact H2_) | with_reducible exact H | (rw [hy191]; exact H) | exact H
                            have Ny191 := Aside0.mk hy191
                            clear hy191
                            by_cases c32 : x5_3.size + (strOfNums y191).size ≤ 9223372036854775807
                            · rw [if_pos c32] at H
                              have c32b0 := eq_true c32
                              have c32b1 : decide (x5_3.size + (strOfNums y191).size ≤ 9223372036854775807) = true := decide_eq_true c32
                              try have c32b2 : (9223372036854775807 < x5_3.size + (strOfNums y191).size) = False := eq_false (Nat.not_lt.2 c32)
                              by_cases c33 : 0 ≤ x7_3
                              · rw [if_pos c33] at H
                                have c33b0 : decide (0 ≤ x7_3) = true := decide_eq_true c33
                                clear c33
                                replace H := Option.bind_eq_some_iff.mp H
                                obtain ⟨t196, A340, H⟩ := H
                                replace H : (if (x5_3 ++ (strOfNums y191)).size + t196.size ≤ 9223372036854775807 then (spec_SegmentText.l1 k3 ((x5_3 ++ (strOfNums y191)) ++ t196) x6_2 (wrap64 (x7_3 + 1)) a0_0 a0_1 a0_2 a0_3 a1_0 l1_1) else (none)) = some r := H
                                have A34 := Aside0.mk A340
                                clear A340
                                by_cases c35 : (x5_3 ++ (strOfNums y191)).size + t196.size ≤ 9223372036854775807
                                · rw [if_pos c35] at H
                                  have c35b0 := eq_true c35
                                  have c35b1 : decide ((x5_3 ++ (strOfNums y191)).size + t196.size ≤ 9223372036854775807) = true := decide_eq_true c35
                                  try have c35b2 : (9223372036854775807 < (x5_3 ++ (strOfNums y191)).size + t196.size) = False := eq_false (Nat.not_lt.2 c35)
                                  try (have c35b3 := c35b2; simp only [ByteArray.size_append] at c35b3)
                                  have H' := Aside0.mk H
                                  clear H
                                  have hnb36 := NB181_180.out
                                  have hnc36 := NB180_181.out
                                  obtain ⟨hcz37_0, hcz37_1, hfz37_0, hfz37_1⟩ := cellsF2 BK181.out
                                  have p190 : 0 ≤ (x6_2 : Int) := of_decide_eq_true as_
                                  have q190 : x6_2 < (l1_1.length : Int) := of_decide_eq_true as_
                                  obtain ⟨ad190, A190_0, c190_0, e190, hx190_0, hl190_0, hi190_0⟩ := at_T102 HR1_1.out x6_2 p190 q190
                                  cases e190
                                  replace hx190_0 := (HB.out.cell (World.block_lt_of_cell? _ _ hx190_0)).trans hx190_0
                                  have HR190_0 := Aside0.mk hi190_0
                                  have HC190_0 := Aside0.mk hl190_0
                                  clear hi190_0 hl190_0
                                  replace p190 := eq_true p190
                                  replace q190 := eq_true q190
                                  obtain ⟨hcz38_0, hcz38_1, hcz38_2, hcz38_3, hfz38_0, hfz38_1, hfz38_2, hfz38_3⟩ := cellsF4 BK180.out
                                  try go_wp2_with (first | ((with_reducible refine gate_dst (N := 49) rfl ?_); refine Kd.R_lit (Kd.int .u8) _ 5 ?hg (N := 49) ?hd (xs := ([(a0_2) % 256] : List Int)) (inner := [.int .u8 ((a0_2) % 256)]) (ok := fun _ => True) (okp := fun _ => True) ?hr ?hp (fun _ hk => hk) trivial (Below.refl _ _) (Nat.le_refl _) (by simp) ?_; (case hd => rfl); (case hg => rfl); (case hr => exact hr_); (case hp => exact (Reps.one (show Kd.M (Kd.int .u8) _ _ _ ((a0_2) % 256) [.int .u8 ((a0_2) % 256)] from rfl) (Reps.none _ _))); intro v192 w39 ho40 hb hg_ hnew_; clear hg_ hnew_; (first | rw [← Ny191.out] at ho40 | (simp only [Int.reduceToNat] at ho40; rw [← Ny191.out] at ho40)); have n0_ := Aside0.mk (Kd.R_lower ho40 (below_size bl_)); have n1_ := Aside0.mk (blkb_ BK180 hb); have n2_ := Aside0.mk (blkb_ BK181 hb); have n3_ := Aside0.mk (below_step bl_ hb); clear BK180; clear BK181; clear HB; have HO193 := n0_; have BK180 := n1_; have BK181 := n2_; have HB := n3_; clear n0_ n1_ n2_ n3_; clear hb ho40; have hcv41 := own_string (P := Try.prog) Try.underlying36 Try.underlying5 Try.underlying9 (Kd.own_of_R HO193.out)))
                                  have n0_ := Aside0.mk (Kd.R_drew HO193.out)
                                  have n1_ := Aside0.mk (blk_drew BK180.out)
                                  have n2_ := Aside0.mk (blk_drew BK181.out)
                                  have n3_ := Aside0.mk (below_drew1 HB.out)
                                  clear HO193
                                  clear BK180
                                  clear BK181
                                  clear HB
                                  have HO193 := n0_
                                  have BK180 := n1_
                                  have BK181 := n2_
                                  have HB := n3_
                                  clear n0_ n1_ n2_ n3_
                                  have p194 : 0 ≤ (x6_2 : Int) := of_decide_eq_true as_
                                  have q194 : x6_2 < (l1_1.length : Int) := of_decide_eq_true as_
                                  obtain ⟨ad194, A194_0, c194_0, e194, hx194_0, hl194_0, hi194_0⟩ := at_T102 HR1_1.out x6_2 p194 q194
                                  have hw194_0 := hx194_0
                                  obtain rfl : ad190 = ad194 := (by injection e194)
                                  replace hx194_0 := (HB.out.cell (World.block_lt_of_cell? _ _ hx194_0)).trans hx194_0
                                  have HR194_0 := Aside0.mk hi194_0
                                  have HC194_0 := Aside0.mk hl194_0
                                  clear hi194_0 hl194_0
                                  replace p194 := eq_true p194
                                  replace q194 := eq_true q194
                                  have p195 : 0 ≤ (x7_3 : Int) := of_decide_eq_true as_
                                  have q195 : x7_3 < (((rd_T102 l1_1 x6_2).f0).length : Int) := of_decide_eq_true as_
                                  obtain ⟨ad195, e195, hx195_0⟩ := Kd.at_string HR194_0.out x7_3 p195 q195
                                  have hw195_0 := hx195_0
                                  cases e195
                                  replace hx195_0 := (HB.out.cell (World.block_lt_of_cell? _ _ hx195_0)).trans hx195_0
                                  replace p195 := eq_true p195
                                  replace q195 := eq_true q195
                                  refine start_ (n := 14) (S := fun w' => w'.cell? ⟨gb180, 0, none⟩ = some (.int .i64 a0_0) ∧ w'.cell? ⟨gb180, 1, none⟩ = some (.int .i64 a0_1) ∧ w'.cell? ⟨gb180, 2, none⟩ = some (.int .i64 a0_2) ∧ w'.cell? ⟨gb180, 3, none⟩ = some (.int .i64 a0_3) ∧ w'.cell? ⟨gb181, 0, none⟩ = some (.string a1_0) ∧ w'.cell? ⟨gb181, 1, none⟩ = some (.slice (some ad190) l1_1.length c1_1) ∧ w'.cell? (ad190.add (x6_2).toNat) = some (.slice (some ad195) ((rd_T102 l1_1 x6_2).f0).length c194_0) ∧ w'.cell? (ad195.add (x7_3).toNat) = some (.string (rdOf ByteArray.empty ((rd_T102 l1_1 x6_2).f0) x7_3))) (ds := []) (bs 14 0) (by kernel_rfl) rfl rfl ⟨(blk_cell BK180.out 0).trans rfl, (blk_cell BK180.out 1).trans rfl, (blk_cell BK180.out 2).trans rfl, (blk_cell BK180.out 3).trans rfl, (blk_cell BK181.out 0).trans rfl, (blk_cell BK181.out 1).trans rfl, ((HB.out.cell (World.block_lt_of_cell? _ _ hw194_0)).trans hw194_0), ((HB.out.cell (World.block_lt_of_cell? _ _ hw195_0)).trans hw195_0)⟩ (fun hHeld => ?_); refine with_tabW spec_SegmentText.tab13 spec_SegmentText.bits13 (fun HT_ HW_ => ?_)
                                  generalize w39.drew = w42 at HO193 BK180 BK181 HB HR194_0 hx194_0 hx195_0 hHeld ⊢
                                  refine pu_ 0 52 (bs 14 1) HT_ ?_ rfl rfl
                                  refine pu_ 2 54 (bs 14 5) HT_ ?_ rfl rfl
                                  refine pu_ 4 56 (bs 14 21) HT_ ?_ rfl rfl
                                  refine pu_ 8 60 (bs 14 277) HT_ ?_ rfl rfl
                                  refine tk_ 1 53 (bs 14 279) HT_ HW_ hHeld au6_0 ?_ rfl rfl
                                  refine tk_ 3 55 (bs 14 287) HT_ HW_ hHeld au6_0 ?_ rfl rfl
                                  refine pu_ 5 57 (bs 14 319) HT_ ?_ rfl rfl
                                  refine pu_ 6 58 (bs 14 383) HT_ ?_ rfl rfl
                                  refine tk_ 7 59 (bs 14 511) HT_ HW_ hHeld au6_0 ?_ rfl rfl
                                  refine pu_ 9 61 (bs 14 1023) HT_ ?_ rfl rfl
                                  refine tk_ 10 62 (bs 14 2047) HT_ HW_ hHeld au6_0 ?_ rfl rfl
                                  refine one_ (i := 11) (N := some 63) (bs 14 4095) rfl rfl (one_of HT_.out (by kernel_rfl)) (by decide) (fun K hK => ?_)
                                  refine gr_ Try.func85 #[.agg #[.int .i64 a0_0, .int .i64 a0_1, .int .i64 a0_2, .int .i64 a0_3], .string (rdOf ByteArray.empty ((rd_T102 l1_1 x6_2).f0) x7_3)] (by rfl) ?_ rfl rfl rfl
                                  with_reducible refine (spec_l01Escape.calls k3 a0_0 a0_1 a0_2 a0_3 (rdOf ByteArray.empty ((rd_T102 l1_1 x6_2).f0) x7_3) t196 _ A34.out).mono ?_
                                  rintro e w43 ⟨rfl, hb⟩
                                  refine ⟨_, rfl, ?_⟩
                                  have n0_ := Aside0.mk (Kd.R_below (rk_ HO193) hb)
                                  have n1_ := Aside0.mk (blkb_ BK180 hb)
                                  have n2_ := Aside0.mk (blkb_ BK181 hb)
                                  have n3_ := Aside0.mk (below_step bl_ hb)
                                  clear HO193
                                  clear BK180
                                  clear BK181
                                  clear HB
                                  have HO193 := n0_
                                  have BK180 := n1_
                                  have BK181 := n2_
                                  have HB := n3_
                                  clear n0_ n1_ n2_ n3_
                                  (try clear hb)
                                  (try clear hb2)
                                  (try clear hk)
                                  (try clear hi)
                                  refine hK.out _ _ ⟨(blk_cell BK180.out 0).trans rfl, (blk_cell BK180.out 1).trans rfl, (blk_cell BK180.out 2).trans rfl, (blk_cell BK180.out 3).trans rfl, (blk_cell BK181.out 0).trans rfl, (blk_cell BK181.out 1).trans rfl, ((HB.out.cell (World.block_lt_of_cell? _ _ hw194_0)).trans hw194_0), ((HB.out.cell (World.block_lt_of_cell? _ _ hw195_0)).trans hw195_0)⟩ (fun hHeld => ?_)
                                  clear hK K
                                  refine norm_ (a' := ?_) ?_ ?_
                                  rotate_left
                                  · show Act.put _ (some 63) _ = _
                                    simp only [Act.put, List.setIfInBounds_toArray, List.set_cons_zero, List.set_cons_succ, i64_w, i32_w]
                                    rfl
                                  refine pu_ 12 64 (bs 14 8191) HT_ ?_ rfl rfl
                                  refine pu_ 13 5 (bs 14 16383) HT_ ?_ rfl rfl
                                  refine done_ (done_of HT_.out (by kernel_rfl)) ?_
                                  try go_wp2
                                  go_roundg k3
                                  case measure => have := HJ2.out; have := HK2.out; have := HK3.out; omega
                                  case rel => exact ⟨((x5_3 ++ (strOfNums y191)) ++ t196), (wrap64 (x7_3 + 1)), er_, er_, H', ⟨au6_1⟩, ⟨bk_ BK180⟩, ⟨bk_ BK181⟩, ⟨bl_⟩⟩
                                · rw [if_neg c35] at H
                                  exact absurd H (by simp)
                              · rw [if_neg c33] at H
                                exact absurd H (by simp)
                            · rw [if_neg c32] at H
                              exact absurd H (by simp)
                          · rw [if_neg c31] at H
                            have c31b0 : decide (0 < x7_3) = false := decide_eq_false c31
                            clear c31
                            by_cases c44 : 0 ≤ x7_3
                            · rw [if_pos c44] at H
                              have c44b0 : decide (0 ≤ x7_3) = true := decide_eq_true c44
                              clear c44
                              replace H := Option.bind_eq_some_iff.mp H
                              obtain ⟨t199, A450, H⟩ := H
                              replace H : (if x5_3.size + t199.size ≤ 9223372036854775807 then (spec_SegmentText.l1 k3 (x5_3 ++ t199) x6_2 (wrap64 (x7_3 + 1)) a0_0 a0_1 a0_2 a0_3 a1_0 l1_1) else (none)) = some r := H
                              have A45 := Aside0.mk A450
                              clear A450
                              by_cases c46 : x5_3.size + t199.size ≤ 9223372036854775807
                              · rw [if_pos c46] at H
                                have c46b0 := eq_true c46
                                have c46b1 : decide (x5_3.size + t199.size ≤ 9223372036854775807) = true := decide_eq_true c46
                                try have c46b2 : (9223372036854775807 < x5_3.size + t199.size) = False := eq_false (Nat.not_lt.2 c46)
                                have H' := Aside0.mk H
                                clear H
                                have hnb47 := NB181_180.out
                                have hnc47 := NB180_181.out
                                obtain ⟨hcz48_0, hcz48_1, hfz48_0, hfz48_1⟩ := cellsF2 BK181.out
                                have p190 : 0 ≤ (x6_2 : Int) := of_decide_eq_true as_
                                have q190 : x6_2 < (l1_1.length : Int) := of_decide_eq_true as_
                                obtain ⟨ad190, A190_0, c190_0, e190, hx190_0, hl190_0, hi190_0⟩ := at_T102 HR1_1.out x6_2 p190 q190
                                cases e190
                                replace hx190_0 := (HB.out.cell (World.block_lt_of_cell? _ _ hx190_0)).trans hx190_0
                                have HR190_0 := Aside0.mk hi190_0
                                have HC190_0 := Aside0.mk hl190_0
                                clear hi190_0 hl190_0
                                replace p190 := eq_true p190
                                replace q190 := eq_true q190
                                try go_wp2
                                have n0_ := Aside0.mk (blk_drew BK180.out)
                                have n1_ := Aside0.mk (blk_drew BK181.out)
                                have n2_ := Aside0.mk (below_drew1 HB.out)
                                clear BK180
                                clear BK181
                                clear HB
                                have BK180 := n0_
                                have BK181 := n1_
                                have HB := n2_
                                clear n0_ n1_ n2_
                                have p197 : 0 ≤ (x6_2 : Int) := of_decide_eq_true as_
                                have q197 : x6_2 < (l1_1.length : Int) := of_decide_eq_true as_
                                obtain ⟨ad197, A197_0, c197_0, e197, hx197_0, hl197_0, hi197_0⟩ := at_T102 HR1_1.out x6_2 p197 q197
                                have hw197_0 := hx197_0
                                obtain rfl : ad190 = ad197 := (by injection e197)
                                replace hx197_0 := (HB.out.cell (World.block_lt_of_cell? _ _ hx197_0)).trans hx197_0
                                have HR197_0 := Aside0.mk hi197_0
                                have HC197_0 := Aside0.mk hl197_0
                                clear hi197_0 hl197_0
                                replace p197 := eq_true p197
                                replace q197 := eq_true q197
                                have p198 : 0 ≤ (x7_3 : Int) := of_decide_eq_true as_
                                have q198 : x7_3 < (((rd_T102 l1_1 x6_2).f0).length : Int) := of_decide_eq_true as_
                                obtain ⟨ad198, e198, hx198_0⟩ := Kd.at_string HR197_0.out x7_3 p198 q198
                                have hw198_0 := hx198_0
                                cases e198
                                replace hx198_0 := (HB.out.cell (World.block_lt_of_cell? _ _ hx198_0)).trans hx198_0
                                replace p198 := eq_true p198
                                replace q198 := eq_true q198
                                refine start_ (n := 14) (S := fun w' => w'.cell? ⟨gb180, 0, none⟩ = some (.int .i64 a0_0) ∧ w'.cell? ⟨gb180, 1, none⟩ = some (.int .i64 a0_1) ∧ w'.cell? ⟨gb180, 2, none⟩ = some (.int .i64 a0_2) ∧ w'.cell? ⟨gb180, 3, none⟩ = some (.int .i64 a0_3) ∧ w'.cell? ⟨gb181, 0, none⟩ = some (.string a1_0) ∧ w'.cell? ⟨gb181, 1, none⟩ = some (.slice (some ad190) l1_1.length c1_1) ∧ w'.cell? (ad190.add (x6_2).toNat) = some (.slice (some ad198) ((rd_T102 l1_1 x6_2).f0).length c197_0) ∧ w'.cell? (ad198.add (x7_3).toNat) = some (.string (rdOf ByteArray.empty ((rd_T102 l1_1 x6_2).f0) x7_3))) (ds := []) (bs 14 0) (by kernel_rfl) rfl rfl ⟨(blk_cell BK180.out 0).trans rfl, (blk_cell BK180.out 1).trans rfl, (blk_cell BK180.out 2).trans rfl, (blk_cell BK180.out 3).trans rfl, (blk_cell BK181.out 0).trans rfl, (blk_cell BK181.out 1).trans rfl, ((HB.out.cell (World.block_lt_of_cell? _ _ hw197_0)).trans hw197_0), ((HB.out.cell (World.block_lt_of_cell? _ _ hw198_0)).trans hw198_0)⟩ (fun hHeld => ?_); refine with_tabW spec_SegmentText.tab13 spec_SegmentText.bits13 (fun HT_ HW_ => ?_)
                                generalize wr.drew = w49 at BK180 BK181 HB HR197_0 hx197_0 hx198_0 hHeld ⊢
                                refine pu_ 0 52 (bs 14 1) HT_ ?_ rfl rfl
                                refine pu_ 2 54 (bs 14 5) HT_ ?_ rfl rfl
                                refine pu_ 4 56 (bs 14 21) HT_ ?_ rfl rfl
                                refine pu_ 8 60 (bs 14 277) HT_ ?_ rfl rfl
                                refine tk_ 1 53 (bs 14 279) HT_ HW_ hHeld au6_0 ?_ rfl rfl
                                refine tk_ 3 55 (bs 14 287) HT_ HW_ hHeld au6_0 ?_ rfl rfl
                                refine pu_ 5 57 (bs 14 319) HT_ ?_ rfl rfl
                                refine pu_ 6 58 (bs 14 383) HT_ ?_ rfl rfl
                                refine tk_ 7 59 (bs 14 511) HT_ HW_ hHeld au6_0 ?_ rfl rfl
                                refine pu_ 9 61 (bs 14 1023) HT_ ?_ rfl rfl
                                refine tk_ 10 62 (bs 14 2047) HT_ HW_ hHeld au6_0 ?_ rfl rfl
                                refine one_ (i := 11) (N := some 63) (bs 14 4095) rfl rfl (one_of HT_.out (by kernel_rfl)) (by decide) (fun K hK => ?_)
                                refine gr_ Try.func85 #[.agg #[.int .i64 a0_0, .int .i64 a0_1, .int .i64 a0_2, .int .i64 a0_3], .string (rdOf ByteArray.empty ((rd_T102 l1_1 x6_2).f0) x7_3)] (by rfl) ?_ rfl rfl rfl
                                with_reducible refine (spec_l01Escape.calls k3 a0_0 a0_1 a0_2 a0_3 (rdOf ByteArray.empty ((rd_T102 l1_1 x6_2).f0) x7_3) t199 _ A45.out).mono ?_
                                rintro e w50 ⟨rfl, hb⟩
                                refine ⟨_, rfl, ?_⟩
                                have n0_ := Aside0.mk (blkb_ BK180 hb)
                                have n1_ := Aside0.mk (blkb_ BK181 hb)
                                have n2_ := Aside0.mk (below_step bl_ hb)
                                clear BK180
                                clear BK181
                                clear HB
                                have BK180 := n0_
                                have BK181 := n1_
                                have HB := n2_
                                clear n0_ n1_ n2_
                                (try clear hb)
                                (try clear hb2)
                                (try clear hk)
                                (try clear hi)
                                refine hK.out _ _ ⟨(blk_cell BK180.out 0).trans rfl, (blk_cell BK180.out 1).trans rfl, (blk_cell BK180.out 2).trans rfl, (blk_cell BK180.out 3).trans rfl, (blk_cell BK181.out 0).trans rfl, (blk_cell BK181.out 1).trans rfl, ((HB.out.cell (World.block_lt_of_cell? _ _ hw197_0)).trans hw197_0), ((HB.out.cell (World.block_lt_of_cell? _ _ hw198_0)).trans hw198_0)⟩ (fun hHeld => ?_)
                                clear hK K
                                refine norm_ (a' := ?_) ?_ ?_
                                rotate_left
                                · show Act.put _ (some 63) _ = _
                                  simp only [Act.put, List.setIfInBounds_toArray, List.set_cons_zero, List.set_cons_succ, i64_w, i32_w]
                                  rfl
                                refine pu_ 12 64 (bs 14 8191) HT_ ?_ rfl rfl
                                refine pu_ 13 5 (bs 14 16383) HT_ ?_ rfl rfl
                                refine done_ (done_of HT_.out (by kernel_rfl)) ?_
                                try go_wp2
                                go_roundg k3
                                case measure => have := HJ2.out; have := HK2.out; have := HK3.out; omega
                                case rel => exact ⟨(x5_3 ++ t199), (wrap64 (x7_3 + 1)), er_, er_, H', ⟨au6_1⟩, ⟨bk_ BK180⟩, ⟨bk_ BK181⟩, ⟨bl_⟩⟩
                              · rw [if_neg c46] at H
                                exact absurd H (by simp)
                            · rw [if_neg c44] at H
                              exact absurd H (by simp)
                        · rw [if_neg c30] at H
                          have c30b0 : decide (x7_3 < (((rd_T102 l1_1 x6_2).f0).length : Int)) = false := decide_eq_false c30
                          clear c30
                          have H' := Aside0.mk H
                          clear H
                          have hnb51 := NB181_180.out
                          have hnc51 := NB180_181.out
                          obtain ⟨hcz52_0, hcz52_1, hfz52_0, hfz52_1⟩ := cellsF2 BK181.out
                          have p190 : 0 ≤ (x6_2 : Int) := of_decide_eq_true as_
                          have q190 : x6_2 < (l1_1.length : Int) := of_decide_eq_true as_
                          obtain ⟨ad190, A190_0, c190_0, e190, hx190_0, hl190_0, hi190_0⟩ := at_T102 HR1_1.out x6_2 p190 q190
                          cases e190
                          replace hx190_0 := (HB.out.cell (World.block_lt_of_cell? _ _ hx190_0)).trans hx190_0
                          have HR190_0 := Aside0.mk hi190_0
                          have HC190_0 := Aside0.mk hl190_0
                          clear hi190_0 hl190_0
                          replace p190 := eq_true p190
                          replace q190 := eq_true q190
                          go_wp2
                          go_roundg k3
                          case measure => have := HJ2.out; have := HK2.out; have := HK3.out; omega
                          case rel => exact ⟨(x5_3), (wrap64 (x6_2 + 1)), er_, er_, H', ⟨au6_1⟩, ⟨bk_ BK180⟩, ⟨bk_ BK181⟩, ⟨bl_⟩⟩
                      · rw [if_neg c29] at H
                        exact absurd H (by simp)
                    · rw [if_neg c28] at H
                      exact absurd H (by simp)
              · rw [if_neg c21] at H
                exact absurd H (by simp)
            · rw [if_neg c20] at H
              have c20b0 : decide (x6_2 < (l1_1.length : Int)) = false := decide_eq_false c20
              clear c20
              obtain ⟨y184, hy184⟩ : ∃ y_ : List Int, y_ = (([(a0_0) % 256] : List Int)) := ⟨_, rfl⟩
              replace H : (if x5_2.size + (strOfNums y184).size ≤ 9223372036854775807 then (some (x5_2 ++ (strOfNums y184))) else (none)) = some r := by first | (rw [hy184]; with_reducible exact H) | (have H2_ := (Option.bind_some _ _).symm.trans H; rw [hy184]; with_reducible exact H2_) | (have H2_ := (Option.bind_some _ _).symm.trans H; with_reducible exact H2_) | with_reducible exact H | (rw [hy184]; exact H) | exact H
              have Ny184 := Aside0.mk hy184
              clear hy184
              by_cases c53 : x5_2.size + (strOfNums y184).size ≤ 9223372036854775807
              · rw [if_pos c53] at H
                have c53b0 := eq_true c53
                have c53b1 : decide (x5_2.size + (strOfNums y184).size ≤ 9223372036854775807) = true := decide_eq_true c53
                try have c53b2 : (9223372036854775807 < x5_2.size + (strOfNums y184).size) = False := eq_false (Nat.not_lt.2 c53)
                obtain rfl := Option.some.inj H
                have hnb54 := NB181_180.out
                have hnc54 := NB180_181.out
                obtain ⟨hcz55_0, hcz55_1, hfz55_0, hfz55_1⟩ := cellsF2 BK181.out
                obtain ⟨hcz56_0, hcz56_1, hcz56_2, hcz56_3, hfz56_0, hfz56_1, hfz56_2, hfz56_3⟩ := cellsF4 BK180.out
                go_wp2_with (first | ((with_reducible refine gate_dst (N := 69) rfl ?_); refine Kd.R_lit (Kd.int .u8) _ 5 ?hg (N := 69) ?hd (xs := ([(a0_0) % 256] : List Int)) (inner := [.int .u8 ((a0_0) % 256)]) (ok := fun _ => True) (okp := fun _ => True) ?hr ?hp (fun _ hk => hk) trivial (Below.refl _ _) (Nat.le_refl _) (by simp) ?_; (case hd => rfl); (case hg => rfl); (case hr => exact hr_); (case hp => exact (Reps.one (show Kd.M (Kd.int .u8) _ _ _ ((a0_0) % 256) [.int .u8 ((a0_0) % 256)] from rfl) (Reps.none _ _))); intro v185 w57 ho58 hb hg_ hnew_; clear hg_ hnew_; (first | rw [← Ny184.out] at ho58 | (simp only [Int.reduceToNat] at ho58; rw [← Ny184.out] at ho58)); have n0_ := Aside0.mk (Kd.R_lower ho58 (below_size bl_)); have n1_ := Aside0.mk (blkb_ BK180 hb); have n2_ := Aside0.mk (blkb_ BK181 hb); have n3_ := Aside0.mk (below_step bl_ hb); clear BK180; clear BK181; clear HB; have HO186 := n0_; have BK180 := n1_; have BK181 := n2_; have HB := n3_; clear n0_ n1_ n2_ n3_; clear hb ho58; have hcv59 := own_string (P := Try.prog) Try.underlying36 Try.underlying5 Try.underlying9 (Kd.own_of_R HO186.out)))
                go_ret
                exact ⟨au6_2, bl_⟩
              · rw [if_neg c53] at H
                exact absurd H (by simp)

end Go.Proofs.Ytchoalagkcdbhaa.PFnExactSegmentText
