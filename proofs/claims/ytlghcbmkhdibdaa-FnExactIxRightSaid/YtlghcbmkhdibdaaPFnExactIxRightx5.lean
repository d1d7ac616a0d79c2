-- printed by a program of this session (wip/xp/xprint.py) out of the translation; Lean checks it
import Derived.Test.YtlghcbmkhdibdaaPFnExactIxRightx0
import Derived.Test.YtlghcbmkhdibdaaPFnExactIxRightx3
import Derived.Test.YtlghcbmkhdibdaaPFnExactIxRightx4
namespace Go.Proofs.Ytlghcbmkhdibdaa.PFnExactIxRight
open Go.RowKit Go.Proofs.YtlghcbmkhdibdaaW.PrintWords Go.Proofs.YtlghcbmkhdibdaaW.PrintLast Go.Proofs.YtlghcbmkhdibdaaW.PrintMore
attribute [local go_sem] max2_int min2_int max_two min_two max_three min_three max_four min_four   -- for this text's walks alone
set_option linter.unusedVariables false
set_option linter.unusedSimpArgs false

theorem au5_0 {p : Prop} (h : p := by (with_reducible repeat (first | refine blk_drewN ?_ _ | refine blk_drew ?_ | refine blk_alloc ?_ _)); refine blk_put (cs := #[.int .i64 ((rd_T102 l0_3 x3_2).f0), .int .i64 ((rd_T102 l0_3 x3_2).f1), .slice none 0 0]) ?_ 2 _ rfl; (with_reducible repeat (first | refine blk_drewN ?_ _ | refine blk_drew ?_ | refine blk_alloc ?_ _)); refine blk_put (cs := #[.int .i64 ((rd_T102 l0_3 x3_2).f0), .int .i64 0, .slice none 0 0]) ?_ 1 _ rfl; (with_reducible repeat (first | refine blk_drewN ?_ _ | refine blk_drew ?_ | refine blk_alloc ?_ _)); refine blk_put (cs := #[.int .i64 0, .int .i64 0, .slice none 0 0]) ?_ 0 _ rfl; (with_reducible repeat (first | refine blk_drewN ?_ _ | refine blk_drew ?_ | refine blk_alloc ?_ _)); exact BK135.out) : p := h
theorem au5_1 {p : Prop} (h : p := by (with_reducible repeat (first | refine blk_drewN ?_ _ | refine blk_drew ?_ | refine blk_alloc ?_ _)); refine blk_far ?_ NB130_135.out _; (with_reducible repeat (first | refine blk_drewN ?_ _ | refine blk_drew ?_ | refine blk_alloc ?_ _)); refine blk_far ?_ NB130_135.out _; (with_reducible repeat (first | refine blk_drewN ?_ _ | refine blk_drew ?_ | refine blk_alloc ?_ _)); refine blk_far ?_ NB130_135.out _; (with_reducible repeat (first | refine blk_drewN ?_ _ | refine blk_drew ?_ | refine blk_alloc ?_ _)); exact BK130.out) : p := h
theorem au5_2 {p : Prop} (h : p := by (with_reducible repeat (first | refine blk_drewN ?_ _ | refine blk_drew ?_ | refine blk_alloc ?_ _)); refine blk_put (cs := #[.int .i64 ((rd_T104 ((rd_T102 l0_3 x3_2).f2) x5_4).f0), .slice none 0 0]) ?_ 1 _ rfl; (with_reducible repeat (first | refine blk_drewN ?_ _ | refine blk_drew ?_ | refine blk_alloc ?_ _)); refine blk_put (cs := #[.int .i64 0, .slice none 0 0]) ?_ 0 _ rfl; (with_reducible repeat (first | refine blk_drewN ?_ _ | refine blk_drew ?_ | refine blk_alloc ?_ _)); exact BK138.out) : p := h
theorem au5_3 {p : Prop} (h : p := by first | rfl | (simp [errW_none, errW_some] <;> rfl) | (simp [*, errW_none, errW_some] <;> rfl)) : p := h
theorem au5_4 {p : Prop} (h : p := by (with_reducible repeat (first | refine blk_drewN ?_ _ | refine blk_drew ?_ | refine blk_alloc ?_ _)); refine blk_far ?_ NB130_138.out _; (with_reducible repeat (first | refine blk_drewN ?_ _ | refine blk_drew ?_ | refine blk_alloc ?_ _)); refine blk_far ?_ NB130_138.out _; (with_reducible repeat (first | refine blk_drewN ?_ _ | refine blk_drew ?_ | refine blk_alloc ?_ _)); exact BK130.out) : p := h
theorem au5_5 {p : Prop} (h : p := by (with_reducible repeat (first | refine blk_drewN ?_ _ | refine blk_drew ?_ | refine blk_alloc ?_ _)); refine blk_far ?_ NB135_138.out _; (with_reducible repeat (first | refine blk_drewN ?_ _ | refine blk_drew ?_ | refine blk_alloc ?_ _)); refine blk_far ?_ NB135_138.out _; (with_reducible repeat (first | refine blk_drewN ?_ _ | refine blk_drew ?_ | refine blk_alloc ?_ _)); exact BK135.out) : p := h
theorem au5_6 {p : Prop} (h : p := by repeat (first | exact (Kd.C_below HR140_1.out HB.out) | (with_reducible refine Kd.C_alloc ?_ _) | (with_reducible refine Kd.C_drewN ?_ _) | (with_reducible refine Kd.C_drew ?_))) : p := h
theorem au5_7 {p : Prop} (h : p := by have := HJ1.out; have := HK2.out; first | omega | exact Nat.le_refl _) : p := h
theorem au5_8 {p : Prop} (h : p := by first | omega | exact Nat.le_refl _) : p := h
theorem au5_9 {p : Prop} (h : p := by have := HJ1.out; have := HK2.out; have := HJ18.out; have := HK4.out; have := HJ41.out; have := HK6.out; omega) : p := h
theorem au5_10 {p : Prop} (h : p := by have := HJ1.out; have := HK2.out; have := HJ18.out; have := HK4.out; first | omega | exact Nat.le_refl _) : p := h

/-! ### spec_IxRight: function 25 -/
mutual
def spec_IxRight.j0 : Nat → Bool → ByteArray → ByteArray → Int → List (S102) → Option (Bool)
  | 0, _, _, _, _, _ => none
  | k + 1, x35, x131000, x131001, x131002, x131003 => if x35 = true then (some false) else (spec_IxRight.l0 k 0 x131000 x131001 x131002 x131003)
def spec_IxRight.l0 : Nat → Int → ByteArray → ByteArray → Int → List (S102) → Option (Bool)
  | 0, _, _, _, _, _ => none
  | k + 1, x3, x131000, x131001, x131002, x131003 => if x3 < (x131003.length : Int) then (if 0 ≤ x3 then (if ((rd_T102 x131003 x3).f0) < 1 then (spec_IxRight.j2 k x3 true x131000 x131001 x131002 x131003 ((rd_T102 x131003 x3).f0) ((rd_T102 x131003 x3).f1) ((rd_T102 x131003 x3).f2)) else (if ((rd_T102 x131003 x3).f0) > 7 then (spec_IxRight.j2 k x3 true x131000 x131001 x131002 x131003 ((rd_T102 x131003 x3).f0) ((rd_T102 x131003 x3).f1) ((rd_T102 x131003 x3).f2)) else ((spec_l01Control.f ((rd_T102 x131003 x3).f1)).bind fun t136 => (if t136 = true then (if (((rd_T102 x131003 x3).f2).length : Int) < 1 then (spec_IxRight.j2 k x3 true x131000 x131001 x131002 x131003 ((rd_T102 x131003 x3).f0) ((rd_T102 x131003 x3).f1) ((rd_T102 x131003 x3).f2)) else (spec_IxRight.j2 k x3 (decide ((((rd_T102 x131003 x3).f2).length : Int) > 10)) x131000 x131001 x131002 x131003 ((rd_T102 x131003 x3).f0) ((rd_T102 x131003 x3).f1) ((rd_T102 x131003 x3).f2))) else (spec_IxRight.j2 k x3 true x131000 x131001 x131002 x131003 ((rd_T102 x131003 x3).f0) ((rd_T102 x131003 x3).f1) ((rd_T102 x131003 x3).f2)))))) else (none)) else (some true)
def spec_IxRight.j2 : Nat → Int → Bool → ByteArray → ByteArray → Int → List (S102) → Int → Int → List (S104) → Option (Bool)
  | 0, _, _, _, _, _, _, _, _, _ => none
  | k + 1, x3, x73, x131000, x131001, x131002, x131003, x136000, x136001, x136002 => if x73 = true then (some false) else (spec_IxRight.l1 k x3 0 x131000 x131001 x131002 x131003 x136000 x136001 x136002)
def spec_IxRight.l1 : Nat → Int → Int → ByteArray → ByteArray → Int → List (S102) → Int → Int → List (S104) → Option (Bool)
  | 0, _, _, _, _, _, _, _, _, _ => none
  | k + 1, x3, x5, x131000, x131001, x131002, x131003, x136000, x136001, x136002 => if x5 < (x136002.length : Int) then (if 0 ≤ x5 then ((spec_l01Control.f ((rd_T104 x136002 x5).f0)).bind fun t139 => (if t139 = true then (spec_IxRight.j4 k x3 x5 (decide ((((rd_T104 x136002 x5).f1).length : Int) > 40)) x131000 x131001 x131002 x131003 x136000 x136001 x136002 ((rd_T104 x136002 x5).f0) ((rd_T104 x136002 x5).f1)) else (spec_IxRight.j4 k x3 x5 true x131000 x131001 x131002 x131003 x136000 x136001 x136002 ((rd_T104 x136002 x5).f0) ((rd_T104 x136002 x5).f1)))) else (none)) else (spec_IxRight.l0 k (wrap64 (x3 + 1)) x131000 x131001 x131002 x131003)
def spec_IxRight.j4 : Nat → Int → Int → Bool → ByteArray → ByteArray → Int → List (S102) → Int → Int → List (S104) → Int → List (S88) → Option (Bool)
  | 0, _, _, _, _, _, _, _, _, _, _, _, _ => none
  | k + 1, x3, x5, x95, x131000, x131001, x131002, x131003, x136000, x136001, x136002, x139000, x139001 => if x95 = true then (some false) else (spec_IxRight.l2 k x3 x5 0 x131000 x131001 x131002 x131003 x136000 x136001 x136002 x139000 x139001)
def spec_IxRight.l2 : Nat → Int → Int → Int → ByteArray → ByteArray → Int → List (S102) → Int → Int → List (S104) → Int → List (S88) → Option (Bool)
  | 0, _, _, _, _, _, _, _, _, _, _, _, _ => none
  | k + 1, x3, x5, x7, x131000, x131001, x131002, x131003, x136000, x136001, x136002, x139000, x139001 => if x7 < (x139001.length : Int) then (if 0 ≤ x7 then ((spec_SegmentRight.f k ((rd_T88 x139001 x7).f0) ((rd_T88 x139001 x7).f1)).bind fun t141 => (if t141 = true then ((spec_l03Own.f ((rd_T88 x139001 x7).f0)).bind fun t143 => (if t143 = true then (some false) else (spec_IxRight.l2 k x3 x5 (wrap64 (x7 + 1)) x131000 x131001 x131002 x131003 x136000 x136001 x136002 x139000 x139001))) else (some false))) else (none)) else (spec_IxRight.l1 k x3 (wrap64 (x5 + 1)) x131000 x131001 x131002 x131003 x136000 x136001 x136002)
end
def spec_IxRight.f (k : Nat) (a0_0 : ByteArray) (a0_1 : ByteArray) (a0_2 : Int) (l0_3 : List (S102)) : Option (Bool) := (spec_l01Name.f k a0_0).bind fun t131 => (if t131 = true then ((spec_l01Name.f k a0_1).bind fun t132 => (if t132 = true then ((spec_l01Control.f a0_2).bind fun t133 => (if t133 = true then (if (l0_3.length : Int) < 1 then (spec_IxRight.j0 k true a0_0 a0_1 a0_2 l0_3) else (spec_IxRight.j0 k (decide ((l0_3.length : Int) > 5)) a0_0 a0_1 a0_2 l0_3)) else (spec_IxRight.j0 k true a0_0 a0_1 a0_2 l0_3))) else (spec_IxRight.j0 k true a0_0 a0_1 a0_2 l0_3))) else (spec_IxRight.j0 k true a0_0 a0_1 a0_2 l0_3))
theorem spec_IxRight.mono_l : ∀ k, (∀ y0 y1 y2 y3 y4, LeO (spec_IxRight.j0 k y0 y1 y2 y3 y4) (spec_IxRight.j0 (k + 1) y0 y1 y2 y3 y4)) ∧ (∀ y0 y1 y2 y3 y4, LeO (spec_IxRight.l0 k y0 y1 y2 y3 y4) (spec_IxRight.l0 (k + 1) y0 y1 y2 y3 y4)) ∧ (∀ y0 y1 y2 y3 y4 y5 y6 y7 y8, LeO (spec_IxRight.j2 k y0 y1 y2 y3 y4 y5 y6 y7 y8) (spec_IxRight.j2 (k + 1) y0 y1 y2 y3 y4 y5 y6 y7 y8)) ∧ (∀ y0 y1 y2 y3 y4 y5 y6 y7 y8, LeO (spec_IxRight.l1 k y0 y1 y2 y3 y4 y5 y6 y7 y8) (spec_IxRight.l1 (k + 1) y0 y1 y2 y3 y4 y5 y6 y7 y8)) ∧ (∀ y0 y1 y2 y3 y4 y5 y6 y7 y8 y9 y10 y11, LeO (spec_IxRight.j4 k y0 y1 y2 y3 y4 y5 y6 y7 y8 y9 y10 y11) (spec_IxRight.j4 (k + 1) y0 y1 y2 y3 y4 y5 y6 y7 y8 y9 y10 y11)) ∧ (∀ y0 y1 y2 y3 y4 y5 y6 y7 y8 y9 y10 y11, LeO (spec_IxRight.l2 k y0 y1 y2 y3 y4 y5 y6 y7 y8 y9 y10 y11) (spec_IxRight.l2 (k + 1) y0 y1 y2 y3 y4 y5 y6 y7 y8 y9 y10 y11))
  | 0 => ⟨fun _ _ _ _ _ r h => by simp [spec_IxRight.j0] at h, fun _ _ _ _ _ r h => by simp [spec_IxRight.l0] at h, fun _ _ _ _ _ _ _ _ _ r h => by simp [spec_IxRight.j2] at h, fun _ _ _ _ _ _ _ _ _ r h => by simp [spec_IxRight.l1] at h, fun _ _ _ _ _ _ _ _ _ _ _ _ r h => by simp [spec_IxRight.j4] at h, fun _ _ _ _ _ _ _ _ _ _ _ _ r h => by simp [spec_IxRight.l2] at h⟩
  | k + 1 => by
    obtain ⟨ih0, ih1, ih2, ih3, ih4, ih5⟩ := spec_IxRight.mono_l k
    refine ⟨?_, ?_, ?_, ?_, ?_, ?_⟩
    · intro y0 y1 y2 y3 y4
      unfold spec_IxRight.j0
      repeat' first
      | (with_reducible exact ih0 _ _ _ _ _)
      | (with_reducible exact ih1 _ _ _ _ _)
      | (with_reducible exact ih2 _ _ _ _ _ _ _ _ _)
      | (with_reducible exact ih3 _ _ _ _ _ _ _ _ _)
      | (with_reducible exact ih4 _ _ _ _ _ _ _ _ _ _ _ _)
      | (with_reducible exact ih5 _ _ _ _ _ _ _ _ _ _ _ _)
      | (with_reducible exact spec_SegmentRight.mono _ _ _)
      | (with_reducible exact spec_l01Name.mono _ _)
      | (with_reducible exact LeO.refl _)
      | (with_reducible exact LeO.none _)
      | (with_reducible refine LeO.ite ?_ ?_)
      | (with_reducible refine LeO.bind ?_ (fun _ => ?_))
      | exact ih0 _ _ _ _ _
      | exact ih1 _ _ _ _ _
      | exact ih2 _ _ _ _ _ _ _ _ _
      | exact ih3 _ _ _ _ _ _ _ _ _
      | exact ih4 _ _ _ _ _ _ _ _ _ _ _ _
      | exact ih5 _ _ _ _ _ _ _ _ _ _ _ _
      | exact spec_SegmentRight.mono _ _ _
      | exact spec_l01Name.mono _ _
      | exact LeO.none _
      | refine LeO.ite ?_ ?_
      | refine LeO.bind ?_ (fun _ => ?_)
    · intro y0 y1 y2 y3 y4
      unfold spec_IxRight.l0
      repeat' first
      | (with_reducible exact ih0 _ _ _ _ _)
      | (with_reducible exact ih1 _ _ _ _ _)
      | (with_reducible exact ih2 _ _ _ _ _ _ _ _ _)
      | (with_reducible exact ih3 _ _ _ _ _ _ _ _ _)
      | (with_reducible exact ih4 _ _ _ _ _ _ _ _ _ _ _ _)
      | (with_reducible exact ih5 _ _ _ _ _ _ _ _ _ _ _ _)
      | (with_reducible exact spec_SegmentRight.mono _ _ _)
      | (with_reducible exact spec_l01Name.mono _ _)
      | (with_reducible exact LeO.refl _)
      | (with_reducible exact LeO.none _)
      | (with_reducible refine LeO.ite ?_ ?_)
      | (with_reducible refine LeO.bind ?_ (fun _ => ?_))
      | exact ih0 _ _ _ _ _
      | exact ih1 _ _ _ _ _
      | exact ih2 _ _ _ _ _ _ _ _ _
      | exact ih3 _ _ _ _ _ _ _ _ _
      | exact ih4 _ _ _ _ _ _ _ _ _ _ _ _
      | exact ih5 _ _ _ _ _ _ _ _ _ _ _ _
      | exact spec_SegmentRight.mono _ _ _
      | exact spec_l01Name.mono _ _
      | exact LeO.none _
      | refine LeO.ite ?_ ?_
      | refine LeO.bind ?_ (fun _ => ?_)
    · intro y0 y1 y2 y3 y4 y5 y6 y7 y8
      unfold spec_IxRight.j2
      repeat' first
      | (with_reducible exact ih0 _ _ _ _ _)
      | (with_reducible exact ih1 _ _ _ _ _)
      | (with_reducible exact ih2 _ _ _ _ _ _ _ _ _)
      | (with_reducible exact ih3 _ _ _ _ _ _ _ _ _)
      | (with_reducible exact ih4 _ _ _ _ _ _ _ _ _ _ _ _)
      | (with_reducible exact ih5 _ _ _ _ _ _ _ _ _ _ _ _)
      | (with_reducible exact spec_SegmentRight.mono _ _ _)
      | (with_reducible exact spec_l01Name.mono _ _)
      | (with_reducible exact LeO.refl _)
      | (with_reducible exact LeO.none _)
      | (with_reducible refine LeO.ite ?_ ?_)
      | (with_reducible refine LeO.bind ?_ (fun _ => ?_))
      | exact ih0 _ _ _ _ _
      | exact ih1 _ _ _ _ _
      | exact ih2 _ _ _ _ _ _ _ _ _
      | exact ih3 _ _ _ _ _ _ _ _ _
      | exact ih4 _ _ _ _ _ _ _ _ _ _ _ _
      | exact ih5 _ _ _ _ _ _ _ _ _ _ _ _
      | exact spec_SegmentRight.mono _ _ _
      | exact spec_l01Name.mono _ _
      | exact LeO.none _
      | refine LeO.ite ?_ ?_
      | refine LeO.bind ?_ (fun _ => ?_)
    · intro y0 y1 y2 y3 y4 y5 y6 y7 y8
      unfold spec_IxRight.l1
      repeat' first
      | (with_reducible exact ih0 _ _ _ _ _)
      | (with_reducible exact ih1 _ _ _ _ _)
      | (with_reducible exact ih2 _ _ _ _ _ _ _ _ _)
      | (with_reducible exact ih3 _ _ _ _ _ _ _ _ _)
      | (with_reducible exact ih4 _ _ _ _ _ _ _ _ _ _ _ _)
      | (with_reducible exact ih5 _ _ _ _ _ _ _ _ _ _ _ _)
      | (with_reducible exact spec_SegmentRight.mono _ _ _)
      | (with_reducible exact spec_l01Name.mono _ _)
      | (with_reducible exact LeO.refl _)
      | (with_reducible exact LeO.none _)
      | (with_reducible refine LeO.ite ?_ ?_)
      | (with_reducible refine LeO.bind ?_ (fun _ => ?_))
      | exact ih0 _ _ _ _ _
      | exact ih1 _ _ _ _ _
      | exact ih2 _ _ _ _ _ _ _ _ _
      | exact ih3 _ _ _ _ _ _ _ _ _
      | exact ih4 _ _ _ _ _ _ _ _ _ _ _ _
      | exact ih5 _ _ _ _ _ _ _ _ _ _ _ _
      | exact spec_SegmentRight.mono _ _ _
      | exact spec_l01Name.mono _ _
      | exact LeO.none _
      | refine LeO.ite ?_ ?_
      | refine LeO.bind ?_ (fun _ => ?_)
    · intro y0 y1 y2 y3 y4 y5 y6 y7 y8 y9 y10 y11
      unfold spec_IxRight.j4
      repeat' first
      | (with_reducible exact ih0 _ _ _ _ _)
      | (with_reducible exact ih1 _ _ _ _ _)
      | (with_reducible exact ih2 _ _ _ _ _ _ _ _ _)
      | (with_reducible exact ih3 _ _ _ _ _ _ _ _ _)
      | (with_reducible exact ih4 _ _ _ _ _ _ _ _ _ _ _ _)
      | (with_reducible exact ih5 _ _ _ _ _ _ _ _ _ _ _ _)
      | (with_reducible exact spec_SegmentRight.mono _ _ _)
      | (with_reducible exact spec_l01Name.mono _ _)
      | (with_reducible exact LeO.refl _)
      | (with_reducible exact LeO.none _)
      | (with_reducible refine LeO.ite ?_ ?_)
      | (with_reducible refine LeO.bind ?_ (fun _ => ?_))
      | exact ih0 _ _ _ _ _
      | exact ih1 _ _ _ _ _
      | exact ih2 _ _ _ _ _ _ _ _ _
      | exact ih3 _ _ _ _ _ _ _ _ _
      | exact ih4 _ _ _ _ _ _ _ _ _ _ _ _
      | exact ih5 _ _ _ _ _ _ _ _ _ _ _ _
      | exact spec_SegmentRight.mono _ _ _
      | exact spec_l01Name.mono _ _
      | exact LeO.none _
      | refine LeO.ite ?_ ?_
      | refine LeO.bind ?_ (fun _ => ?_)
    · intro y0 y1 y2 y3 y4 y5 y6 y7 y8 y9 y10 y11
      unfold spec_IxRight.l2
      repeat' first
      | (with_reducible exact ih0 _ _ _ _ _)
      | (with_reducible exact ih1 _ _ _ _ _)
      | (with_reducible exact ih2 _ _ _ _ _ _ _ _ _)
      | (with_reducible exact ih3 _ _ _ _ _ _ _ _ _)
      | (with_reducible exact ih4 _ _ _ _ _ _ _ _ _ _ _ _)
      | (with_reducible exact ih5 _ _ _ _ _ _ _ _ _ _ _ _)
      | (with_reducible exact spec_SegmentRight.mono _ _ _)
      | (with_reducible exact spec_l01Name.mono _ _)
      | (with_reducible exact LeO.refl _)
      | (with_reducible exact LeO.none _)
      | (with_reducible refine LeO.ite ?_ ?_)
      | (with_reducible refine LeO.bind ?_ (fun _ => ?_))
      | exact ih0 _ _ _ _ _
      | exact ih1 _ _ _ _ _
      | exact ih2 _ _ _ _ _ _ _ _ _
      | exact ih3 _ _ _ _ _ _ _ _ _
      | exact ih4 _ _ _ _ _ _ _ _ _ _ _ _
      | exact ih5 _ _ _ _ _ _ _ _ _ _ _ _
      | exact spec_SegmentRight.mono _ _ _
      | exact spec_l01Name.mono _ _
      | exact LeO.none _
      | refine LeO.ite ?_ ?_
      | refine LeO.bind ?_ (fun _ => ?_)
theorem spec_IxRight.mono : ∀ a0 a1 a2 a3 k, LeO (spec_IxRight.f k a0 a1 a2 a3) (spec_IxRight.f (k + 1) a0 a1 a2 a3) := by
  intro a0 a1 a2 a3 k
  obtain ⟨ih0, ih1, ih2, ih3, ih4, ih5⟩ := spec_IxRight.mono_l k
  unfold spec_IxRight.f
  repeat' first
      | (with_reducible exact ih0 _ _ _ _ _)
      | (with_reducible exact ih1 _ _ _ _ _)
      | (with_reducible exact ih2 _ _ _ _ _ _ _ _ _)
      | (with_reducible exact ih3 _ _ _ _ _ _ _ _ _)
      | (with_reducible exact ih4 _ _ _ _ _ _ _ _ _ _ _ _)
      | (with_reducible exact ih5 _ _ _ _ _ _ _ _ _ _ _ _)
      | (with_reducible exact spec_SegmentRight.mono _ _ _)
      | (with_reducible exact spec_l01Name.mono _ _)
      | (with_reducible exact LeO.refl _)
      | (with_reducible exact LeO.none _)
      | (with_reducible refine LeO.ite ?_ ?_)
      | (with_reducible refine LeO.bind ?_ (fun _ => ?_))
      | exact ih0 _ _ _ _ _
      | exact ih1 _ _ _ _ _
      | exact ih2 _ _ _ _ _ _ _ _ _
      | exact ih3 _ _ _ _ _ _ _ _ _
      | exact ih4 _ _ _ _ _ _ _ _ _ _ _ _
      | exact ih5 _ _ _ _ _ _ _ _ _ _ _ _
      | exact spec_SegmentRight.mono _ _ _
      | exact spec_l01Name.mono _ _
      | exact LeO.none _
      | refine LeO.ite ?_ ?_
      | refine LeO.bind ?_ (fun _ => ?_)
set_option maxHeartbeats 8000000 in
set_option maxRecDepth 100000 in
theorem spec_IxRight.calls (k : Nat) (a0_0 : ByteArray) (a0_1 : ByteArray) (a0_2 : Int) (A0_3 : Option Addr) (c0_3 : Nat) (l0_3 : List (S102)) (r : Bool) (w : World) (hr0_3 : Kd.C k102 w A0_3 l0_3.length l0_3) (hc0_3 : l0_3.length ≤ c0_3) (h : spec_IxRight.f k a0_0 a0_1 a0_2 l0_3 = some r) :
    Calls Try.prog 25 #[.agg #[.string a0_0, .string a0_1, .int .i64 a0_2, .slice A0_3 l0_3.length c0_3]] w fun e w' => e = .returned (.bool r) ∧ Below w.heap.size w w' := by
  have hu64 := Try.underlying64
  have hu102 := Try.underlying102
  have hu104 := Try.underlying104
  have hu88 := Try.underlying88
  have HR0_3 := Aside0.mk hr0_3
  have HC0_3 := Aside0.mk hc0_3
  clear hr0_3 hc0_3
  have HB := Aside0.mk (Below.refl w.heap.size w)
  have H : ((spec_l01Name.f k a0_0).bind fun t131 => (if t131 = true then ((spec_l01Name.f k a0_1).bind fun t132 => (if t132 = true then ((spec_l01Control.f a0_2).bind fun t133 => (if t133 = true then (if (l0_3.length : Int) < 1 then (spec_IxRight.j0 k true a0_0 a0_1 a0_2 l0_3) else (spec_IxRight.j0 k (decide ((l0_3.length : Int) > 5)) a0_0 a0_1 a0_2 l0_3)) else (spec_IxRight.j0 k true a0_0 a0_1 a0_2 l0_3))) else (spec_IxRight.j0 k true a0_0 a0_1 a0_2 l0_3))) else (spec_IxRight.j0 k true a0_0 a0_1 a0_2 l0_3))) = some r := h
  clear h
  have HC2 := Aside0.mk H
  clear H
  go_enter Try.func25, Try.ntmps25
  go_upto_region 1 with (first | ((with_reducible refine gate_dst (N := 1) rfl ?_); (try (refine gate_guard (by rfl) ?_; dsimp only)); refine box_event ?hg (N := 1) ?hd (cs := #[.string a0_0, .string a0_1, .int .i64 a0_2, .slice A0_3 l0_3.length c0_3]) (t := 64) ?hr ?_; (case hd => rfl); (case hg => rfl); (case hr => exact hr_); intro gb130 hg w3 hbox hb; have n0_ := Aside0.mk (below_step bl_ hb); have n1_ := Aside0.mk (hbox); have n2_ := Aside0.mk (gw_ hg bl_); have n3_ := Aside0.mk (gw_ hg bl_); clear HB; have HB := n0_; have BK130 := n1_; have GW130 := n2_; have GE130 := n3_; clear n0_ n1_ n2_ n3_; clear hb hbox hg))
  (try simp only [Act.put, List.setIfInBounds_toArray, List.set_cons_zero, List.set_cons_succ])
  go_cut [35] (fun v35 wc => ∃ (kq : Nat) (x35_1 : Bool), v35 = .bool x35_1 ∧ Aside0 (spec_IxRight.j0 kq x35_1 a0_0 a0_1 a0_2 l0_3 = some r) ∧ Aside0 (kq ≤ k) ∧ Aside0 (wc.heap[gb130]? = some (.cells #[.string a0_0, .string a0_1, .int .i64 a0_2, (.slice A0_3 l0_3.length c0_3)] 64 (0, 0))) ∧ Aside0 (Below w.heap.size w wc))
  case first =>
    have H := HC2.out
    clear HC2
    replace H := Option.bind_eq_some_iff.mp H
    obtain ⟨t131, A40, H⟩ := H
    replace H : (if t131 = true then ((spec_l01Name.f k a0_1).bind fun t132 => (if t132 = true then ((spec_l01Control.f a0_2).bind fun t133 => (if t133 = true then (if (l0_3.length : Int) < 1 then (spec_IxRight.j0 k true a0_0 a0_1 a0_2 l0_3) else (spec_IxRight.j0 k (decide ((l0_3.length : Int) > 5)) a0_0 a0_1 a0_2 l0_3)) else (spec_IxRight.j0 k true a0_0 a0_1 a0_2 l0_3))) else (spec_IxRight.j0 k true a0_0 a0_1 a0_2 l0_3))) else (spec_IxRight.j0 k true a0_0 a0_1 a0_2 l0_3)) = some r := H
    have A4 := Aside0.mk A40
    clear A40
    by_cases c5 : t131 = true
    · subst c5
      have H1 : ((spec_l01Name.f k a0_1).bind fun t132 => (if t132 = true then ((spec_l01Control.f a0_2).bind fun t133 => (if t133 = true then (if (l0_3.length : Int) < 1 then (spec_IxRight.j0 k true a0_0 a0_1 a0_2 l0_3) else (spec_IxRight.j0 k (decide ((l0_3.length : Int) > 5)) a0_0 a0_1 a0_2 l0_3)) else (spec_IxRight.j0 k true a0_0 a0_1 a0_2 l0_3))) else (spec_IxRight.j0 k true a0_0 a0_1 a0_2 l0_3))) = some r := by rw [if_pos rfl] at H; exact H
      clear H
      have H := H1
      clear H1
      replace H := Option.bind_eq_some_iff.mp H
      obtain ⟨t132, A60, H⟩ := H
      replace H : (if t132 = true then ((spec_l01Control.f a0_2).bind fun t133 => (if t133 = true then (if (l0_3.length : Int) < 1 then (spec_IxRight.j0 k true a0_0 a0_1 a0_2 l0_3) else (spec_IxRight.j0 k (decide ((l0_3.length : Int) > 5)) a0_0 a0_1 a0_2 l0_3)) else (spec_IxRight.j0 k true a0_0 a0_1 a0_2 l0_3))) else (spec_IxRight.j0 k true a0_0 a0_1 a0_2 l0_3)) = some r := H
      have A6 := Aside0.mk A60
      clear A60
      by_cases c7 : t132 = true
      · subst c7
        have H1 : ((spec_l01Control.f a0_2).bind fun t133 => (if t133 = true then (if (l0_3.length : Int) < 1 then (spec_IxRight.j0 k true a0_0 a0_1 a0_2 l0_3) else (spec_IxRight.j0 k (decide ((l0_3.length : Int) > 5)) a0_0 a0_1 a0_2 l0_3)) else (spec_IxRight.j0 k true a0_0 a0_1 a0_2 l0_3))) = some r := by rw [if_pos rfl] at H; exact H
        clear H
        have H := H1
        clear H1
        replace H := Option.bind_eq_some_iff.mp H
        obtain ⟨t133, A80, H⟩ := H
        replace H : (if t133 = true then (if (l0_3.length : Int) < 1 then (spec_IxRight.j0 k true a0_0 a0_1 a0_2 l0_3) else (spec_IxRight.j0 k (decide ((l0_3.length : Int) > 5)) a0_0 a0_1 a0_2 l0_3)) else (spec_IxRight.j0 k true a0_0 a0_1 a0_2 l0_3)) = some r := H
        have A8 := Aside0.mk A80
        clear A80
        by_cases c9 : t133 = true
        · subst c9
          have H1 : (if (l0_3.length : Int) < 1 then (spec_IxRight.j0 k true a0_0 a0_1 a0_2 l0_3) else (spec_IxRight.j0 k (decide ((l0_3.length : Int) > 5)) a0_0 a0_1 a0_2 l0_3)) = some r := by rw [if_pos rfl] at H; exact H
          clear H
          have H := H1
          clear H1
          by_cases c10 : (l0_3.length : Int) < 1
          · rw [if_pos c10] at H
            have c10b0 : decide ((l0_3.length : Int) < 1) = true := decide_eq_true c10
            have c10b1 : decide (l0_3.length < 1) = true := decide_eq_true (by omega)
            clear c10
            (first | rw [c10b0] | (simp only [i64_w, i32_w]; rw [c10b0]) | skip)
            have H' := Aside0.mk H
            clear H
            obtain ⟨hcz11_0, hcz11_1, hcz11_2, hcz11_3, hfz11_0, hfz11_1, hfz11_2, hfz11_3⟩ := cellsF4 BK130.out
            go_wp2_with (first | (go_at_call 55; (with_reducible refine (spec_l01Name.calls k a0_0 true _ A4.out).mono ?_); rintro e w' ⟨rfl, ⟨nd, rfl⟩⟩) | (go_at_call 55; (with_reducible refine (spec_l01Name.calls k a0_1 true _ A6.out).mono ?_); rintro e w' ⟨rfl, ⟨nd, rfl⟩⟩) | (go_at_call 56; (with_reducible refine (spec_l01Control.calls a0_2 true _ A8.out).mono ?_); rintro e w' ⟨rfl, ⟨nd, rfl⟩⟩))
            go_meet
            case rel => exact ⟨_, (true), er_, H', ⟨au5_8⟩, ⟨bk_ BK130⟩, ⟨bl_⟩⟩
          · rw [if_neg c10] at H
            have c10b0 : decide ((l0_3.length : Int) < 1) = false := decide_eq_false c10
            have c10b1 : decide (l0_3.length < 1) = false := decide_eq_false (by omega)
            clear c10
            (first | rw [c10b0] | (simp only [i64_w, i32_w]; rw [c10b0]) | skip)
            have H' := Aside0.mk H
            clear H
            obtain ⟨hcz12_0, hcz12_1, hcz12_2, hcz12_3, hfz12_0, hfz12_1, hfz12_2, hfz12_3⟩ := cellsF4 BK130.out
            go_wp2_with (first | (go_at_call 55; (with_reducible refine (spec_l01Name.calls k a0_0 true _ A4.out).mono ?_); rintro e w' ⟨rfl, ⟨nd, rfl⟩⟩) | (go_at_call 55; (with_reducible refine (spec_l01Name.calls k a0_1 true _ A6.out).mono ?_); rintro e w' ⟨rfl, ⟨nd, rfl⟩⟩) | (go_at_call 56; (with_reducible refine (spec_l01Control.calls a0_2 true _ A8.out).mono ?_); rintro e w' ⟨rfl, ⟨nd, rfl⟩⟩))
            go_meet
            case rel => exact ⟨_, (decide ((l0_3.length : Int) > 5)), er_, H', ⟨au5_8⟩, ⟨bk_ BK130⟩, ⟨bl_⟩⟩
        · replace c9 := Bool.eq_false_iff.mpr c9
          subst c9
          have H1 : (spec_IxRight.j0 k true a0_0 a0_1 a0_2 l0_3) = some r := by rw [if_neg (show ¬ (false = true) by decide)] at H; exact H
          clear H
          have H := H1
          clear H1
          have H' := Aside0.mk H
          clear H
          obtain ⟨hcz13_0, hcz13_1, hcz13_2, hcz13_3, hfz13_0, hfz13_1, hfz13_2, hfz13_3⟩ := cellsF4 BK130.out
          go_wp2_with (first | (go_at_call 55; (with_reducible refine (spec_l01Name.calls k a0_0 true _ A4.out).mono ?_); rintro e w' ⟨rfl, ⟨nd, rfl⟩⟩) | (go_at_call 55; (with_reducible refine (spec_l01Name.calls k a0_1 true _ A6.out).mono ?_); rintro e w' ⟨rfl, ⟨nd, rfl⟩⟩) | (go_at_call 56; (with_reducible refine (spec_l01Control.calls a0_2 false _ A8.out).mono ?_); rintro e w' ⟨rfl, ⟨nd, rfl⟩⟩))
          go_meet
          case rel => exact ⟨_, (true), er_, H', ⟨au5_8⟩, ⟨bk_ BK130⟩, ⟨bl_⟩⟩
      · replace c7 := Bool.eq_false_iff.mpr c7
        subst c7
        have H1 : (spec_IxRight.j0 k true a0_0 a0_1 a0_2 l0_3) = some r := by rw [if_neg (show ¬ (false = true) by decide)] at H; exact H
        clear H
        have H := H1
        clear H1
        have H' := Aside0.mk H
        clear H
        obtain ⟨hcz14_0, hcz14_1, hcz14_2, hcz14_3, hfz14_0, hfz14_1, hfz14_2, hfz14_3⟩ := cellsF4 BK130.out
        go_wp2_with (first | (go_at_call 55; (with_reducible refine (spec_l01Name.calls k a0_0 true _ A4.out).mono ?_); rintro e w' ⟨rfl, ⟨nd, rfl⟩⟩) | (go_at_call 55; (with_reducible refine (spec_l01Name.calls k a0_1 false _ A6.out).mono ?_); rintro e w' ⟨rfl, ⟨nd, rfl⟩⟩))
        go_meet
        case rel => exact ⟨_, (true), er_, H', ⟨au5_8⟩, ⟨bk_ BK130⟩, ⟨bl_⟩⟩
    · replace c5 := Bool.eq_false_iff.mpr c5
      subst c5
      have H1 : (spec_IxRight.j0 k true a0_0 a0_1 a0_2 l0_3) = some r := by rw [if_neg (show ¬ (false = true) by decide)] at H; exact H
      clear H
      have H := H1
      clear H1
      have H' := Aside0.mk H
      clear H
      obtain ⟨hcz15_0, hcz15_1, hcz15_2, hcz15_3, hfz15_0, hfz15_1, hfz15_2, hfz15_3⟩ := cellsF4 BK130.out
      go_wp2_with (first | (go_at_call 55; (with_reducible refine (spec_l01Name.calls k a0_0 false _ A4.out).mono ?_); rintro e w' ⟨rfl, ⟨nd, rfl⟩⟩))
      go_meet
      case rel => exact ⟨_, (true), er_, H', ⟨au5_8⟩, ⟨bk_ BK130⟩, ⟨bl_⟩⟩
  case rest =>
    clear HC2
    try clear c1
    try clear c2
    try clear p2
    try clear c5
    try clear c7
    try clear c9
    try clear c10
    try clear c10b0
    try clear c10b1
    try clear hcz11_0
    try clear hcz11_1
    try clear hcz11_2
    try clear hcz11_3
    try clear hcz12_0
    try clear hcz12_1
    try clear hcz12_2
    try clear hcz12_3
    try clear hcz13_0
    try clear hcz13_1
    try clear hcz13_2
    try clear hcz13_3
    try clear hcz14_0
    try clear hcz14_1
    try clear hcz14_2
    try clear hcz14_3
    try clear hcz15_0
    try clear hcz15_1
    try clear hcz15_2
    try clear hcz15_3
    try clear hfz11_0
    try clear hfz11_1
    try clear hfz11_2
    try clear hfz11_3
    try clear hfz12_0
    try clear hfz12_1
    try clear hfz12_2
    try clear hfz12_3
    try clear hfz13_0
    try clear hfz13_1
    try clear hfz13_2
    try clear hfz13_3
    try clear hfz14_0
    try clear hfz14_1
    try clear hfz14_2
    try clear hfz14_3
    try clear hfz15_0
    try clear hfz15_1
    try clear hfz15_2
    try clear hfz15_3
    obtain ⟨kq, x35_1, rfl, HA, HJ1, BK130, HB⟩ := hcut
    cases kq with
    | zero => exact absurd HA.out (by simp [spec_IxRight.j0])
    | succ kj1 =>
      have H := HA.out
      clear HA
      simp only [spec_IxRight.j0] at H
      by_cases c16 : x35_1 = true
      · subst c16
        have H1 : (some false) = some r := by rw [if_pos rfl] at H; exact H
        clear H
        have H := H1
        clear H1
        obtain rfl := Option.some.inj H
        go_wp2
        go_ret
        exact ⟨au5_3, bl_⟩
      · replace c16 := Bool.eq_false_iff.mpr c16
        subst c16
        have H1 : (spec_IxRight.l0 kj1 0 a0_0 a0_1 a0_2 l0_3) = some r := by rw [if_neg (show ¬ (false = true) by decide)] at H; exact H
        clear H
        have H := H1
        clear H1
        have H' := Aside0.mk H
        clear H
        go_wp2
        go_loopg [3] kj1 (fun kq v3 w' => ∃ (x3_2 : Int), v3 = .int .i64 x3_2 ∧ Aside0 (spec_IxRight.l0 kq x3_2 a0_0 a0_1 a0_2 l0_3 = some r) ∧ Aside0 (kq ≤ kj1) ∧ Aside0 (w'.heap[gb130]? = some (.cells #[.string a0_0, .string a0_1, .int .i64 a0_2, (.slice A0_3 l0_3.length c0_3)] 64 (0, 0))) ∧ Aside0 (Below w.heap.size w w'))
        case atStart => exact ⟨(0), er_, H', ⟨Nat.le_refl _⟩, ⟨bk_ BK130⟩, ⟨bl_⟩⟩
        case round =>
          clear H'
          try clear c1
          try clear c2
          try clear p2
          try clear c5
          try clear c7
          try clear c9
          try clear c10
          try clear c10b0
          try clear c10b1
          try clear c16
          try clear hcz11_0
          try clear hcz11_1
          try clear hcz11_2
          try clear hcz11_3
          try clear hcz12_0
          try clear hcz12_1
          try clear hcz12_2
          try clear hcz12_3
          try clear hcz13_0
          try clear hcz13_1
          try clear hcz13_2
          try clear hcz13_3
          try clear hcz14_0
          try clear hcz14_1
          try clear hcz14_2
          try clear hcz14_3
          try clear hcz15_0
          try clear hcz15_1
          try clear hcz15_2
          try clear hcz15_3
          try clear hfz11_0
          try clear hfz11_1
          try clear hfz11_2
          try clear hfz11_3
          try clear hfz12_0
          try clear hfz12_1
          try clear hfz12_2
          try clear hfz12_3
          try clear hfz13_0
          try clear hfz13_1
          try clear hfz13_2
          try clear hfz13_3
          try clear hfz14_0
          try clear hfz14_1
          try clear hfz14_2
          try clear hfz14_3
          try clear hfz15_0
          try clear hfz15_1
          try clear hfz15_2
          try clear hfz15_3
          try clear p2
          obtain ⟨x3_2, rfl, HA, HK2, BK130, HB⟩ := hrel
          cases gk with
          | zero => exact absurd HA.out (by simp [spec_IxRight.l0])
          | succ k2 =>
            have H := HA.out
            clear HA
            simp only [spec_IxRight.l0] at H
            by_cases c17 : x3_2 < (l0_3.length : Int)
            · rw [if_pos c17] at H
              have c17b0 : decide (x3_2 < (l0_3.length : Int)) = true := decide_eq_true c17
              clear c17
              by_cases c18 : 0 ≤ x3_2
              · rw [if_pos c18] at H
                have c18b0 : decide (0 ≤ x3_2) = true := decide_eq_true c18
                clear c18
                have HC19 := Aside0.mk H
                clear H
                obtain ⟨hcz20_0, hcz20_1, hcz20_2, hcz20_3, hfz20_0, hfz20_1, hfz20_2, hfz20_3⟩ := cellsF4 BK130.out
                have p134 : 0 ≤ (x3_2 : Int) := of_decide_eq_true as_
                have q134 : x3_2 < (l0_3.length : Int) := of_decide_eq_true as_
                obtain ⟨ad134, A134_2, c134_2, e134, hx134_0, hx134_1, hx134_2, hl134_2, hi134_2⟩ := at_T102 HR0_3.out x3_2 p134 q134
                cases e134
                replace hx134_0 := (HB.out.cell (World.block_lt_of_cell? _ _ hx134_0)).trans hx134_0
                replace hx134_1 := (HB.out.cell (World.block_lt_of_cell? _ _ hx134_1)).trans hx134_1
                replace hx134_2 := (HB.out.cell (World.block_lt_of_cell? _ _ hx134_2)).trans hx134_2
                have HR134_2 := Aside0.mk hi134_2
                have HC134_2 := Aside0.mk hl134_2
                clear hi134_2 hl134_2
                replace p134 := eq_true p134
                replace q134 := eq_true q134
                go_upto_region 7 with (first | ((with_reducible refine gate_dst (N := 4) rfl ?_); (try (refine gate_guard (by rfl) ?_; dsimp only)); refine box_event ?hg (N := 4) ?hd (cs := #[.int .i64 0, .int .i64 0, .slice none 0 0]) (t := 102) ?hr ?_; (case hd => rfl); (case hg => rfl); (case hr => exact hr_); intro gb135 hg w21 hbox hb; have n0_ := Aside0.mk (blkb_ BK130 hb); have n1_ := Aside0.mk (below_step bl_ hb); have n2_ := Aside0.mk (hbox); have n3_ := Aside0.mk (gw_ hg bl_); have n4_ := Aside0.mk (gw_ hg bl_); have n5_ := Aside0.mk (gn_ hg (blkl_ BK130)); have n6_ := Aside0.mk (gm_ hg (blkl_ BK130)); clear BK130; clear HB; have BK130 := n0_; have HB := n1_; have BK135 := n2_; have GW135 := n3_; have GE135 := n4_; have NB130_135 := n5_; have NB135_130 := n6_; clear n0_ n1_ n2_ n3_ n4_ n5_ n6_; clear hb hbox hg; have hnb22 := NB135_130.out; have hnc22 := NB130_135.out; obtain ⟨hcz23_0, hcz23_1, hcz23_2, hfz23_0, hfz23_1, hfz23_2⟩ := cellsF3 BK135.out))
                (try simp only [Act.put, List.setIfInBounds_toArray, List.set_cons_zero, List.set_cons_succ])
                go_cut [73] (fun v73 wc => ∃ (kq : Nat) (x73_18 : Bool), v73 = .bool x73_18 ∧ Aside0 (spec_IxRight.j2 kq x3_2 x73_18 a0_0 a0_1 a0_2 l0_3 ((rd_T102 l0_3 x3_2).f0) ((rd_T102 l0_3 x3_2).f1) ((rd_T102 l0_3 x3_2).f2) = some r) ∧ Aside0 (kq ≤ k2) ∧ Aside0 (wc.heap[gb130]? = some (.cells #[.string a0_0, .string a0_1, .int .i64 a0_2, (.slice (some ad134) l0_3.length c0_3)] 64 (0, 0))) ∧ Aside0 (wc.heap[gb135]? = some (.cells #[.int .i64 ((rd_T102 l0_3 x3_2).f0), .int .i64 ((rd_T102 l0_3 x3_2).f1), (.slice A134_2 ((rd_T102 l0_3 x3_2).f2).length c134_2)] 102 (0, 0))) ∧ Aside0 (Below w.heap.size w wc))
                case first =>
                  have H := HC19.out
                  clear HC19
                  by_cases c24 : ((rd_T102 l0_3 x3_2).f0) < 1
                  · rw [if_pos c24] at H
                    have c24b0 : decide (((rd_T102 l0_3 x3_2).f0) < 1) = true := decide_eq_true c24
                    clear c24
                    (first | rw [c24b0] | (simp only [i64_w, i32_w]; rw [c24b0]) | skip)
                    have H' := Aside0.mk H
                    clear H
                    have hnb25 := NB135_130.out
                    have hnc25 := NB130_135.out
                    obtain ⟨hcz26_0, hcz26_1, hcz26_2, hfz26_0, hfz26_1, hfz26_2⟩ := cellsF3 BK135.out
                    go_wp2
                    go_meet
                    case rel => exact ⟨_, (true), er_, H', ⟨au5_7⟩, ⟨au5_1⟩, ⟨au5_0⟩, ⟨bl_⟩⟩
                  · rw [if_neg c24] at H
                    have c24b0 : decide (((rd_T102 l0_3 x3_2).f0) < 1) = false := decide_eq_false c24
                    clear c24
                    (first | rw [c24b0] | (simp only [i64_w, i32_w]; rw [c24b0]) | skip)
                    by_cases c27 : ((rd_T102 l0_3 x3_2).f0) > 7
                    · rw [if_pos c27] at H
                      have c27b0 : decide (7 < ((rd_T102 l0_3 x3_2).f0)) = true := decide_eq_true c27
                      clear c27
                      have H' := Aside0.mk H
                      clear H
                      have hnb28 := NB135_130.out
                      have hnc28 := NB130_135.out
                      obtain ⟨hcz29_0, hcz29_1, hcz29_2, hfz29_0, hfz29_1, hfz29_2⟩ := cellsF3 BK135.out
                      go_wp2
                      go_meet
                      case rel => exact ⟨_, (true), er_, H', ⟨au5_7⟩, ⟨au5_1⟩, ⟨au5_0⟩, ⟨bl_⟩⟩
                    · rw [if_neg c27] at H
                      have c27b0 : decide (7 < ((rd_T102 l0_3 x3_2).f0)) = false := decide_eq_false c27
                      clear c27
                      replace H := Option.bind_eq_some_iff.mp H
                      obtain ⟨t136, A300, H⟩ := H
                      replace H : (if t136 = true then (if (((rd_T102 l0_3 x3_2).f2).length : Int) < 1 then (spec_IxRight.j2 k2 x3_2 true a0_0 a0_1 a0_2 l0_3 ((rd_T102 l0_3 x3_2).f0) ((rd_T102 l0_3 x3_2).f1) ((rd_T102 l0_3 x3_2).f2)) else (spec_IxRight.j2 k2 x3_2 (decide ((((rd_T102 l0_3 x3_2).f2).length : Int) > 10)) a0_0 a0_1 a0_2 l0_3 ((rd_T102 l0_3 x3_2).f0) ((rd_T102 l0_3 x3_2).f1) ((rd_T102 l0_3 x3_2).f2))) else (spec_IxRight.j2 k2 x3_2 true a0_0 a0_1 a0_2 l0_3 ((rd_T102 l0_3 x3_2).f0) ((rd_T102 l0_3 x3_2).f1) ((rd_T102 l0_3 x3_2).f2))) = some r := H
                      have A30 := Aside0.mk A300
                      clear A300
                      by_cases c31 : t136 = true
                      · subst c31
                        have H1 : (if (((rd_T102 l0_3 x3_2).f2).length : Int) < 1 then (spec_IxRight.j2 k2 x3_2 true a0_0 a0_1 a0_2 l0_3 ((rd_T102 l0_3 x3_2).f0) ((rd_T102 l0_3 x3_2).f1) ((rd_T102 l0_3 x3_2).f2)) else (spec_IxRight.j2 k2 x3_2 (decide ((((rd_T102 l0_3 x3_2).f2).length : Int) > 10)) a0_0 a0_1 a0_2 l0_3 ((rd_T102 l0_3 x3_2).f0) ((rd_T102 l0_3 x3_2).f1) ((rd_T102 l0_3 x3_2).f2))) = some r := by rw [if_pos rfl] at H; exact H
                        clear H
                        have H := H1
                        clear H1
                        by_cases c32 : (((rd_T102 l0_3 x3_2).f2).length : Int) < 1
                        · rw [if_pos c32] at H
                          have c32b0 : decide ((((rd_T102 l0_3 x3_2).f2).length : Int) < 1) = true := decide_eq_true c32
                          have c32b1 : decide (((rd_T102 l0_3 x3_2).f2).length < 1) = true := decide_eq_true (by omega)
                          clear c32
                          have H' := Aside0.mk H
                          clear H
                          have hnb33 := NB135_130.out
                          have hnc33 := NB130_135.out
                          obtain ⟨hcz34_0, hcz34_1, hcz34_2, hfz34_0, hfz34_1, hfz34_2⟩ := cellsF3 BK135.out
                          go_wp2_with (first | (go_at_call 56; (with_reducible refine (spec_l01Control.calls ((rd_T102 l0_3 x3_2).f1) true _ A30.out).mono ?_); rintro e w' ⟨rfl, ⟨nd, rfl⟩⟩))
                          go_meet
                          case rel => exact ⟨_, (true), er_, H', ⟨au5_7⟩, ⟨au5_1⟩, ⟨au5_0⟩, ⟨bl_⟩⟩
                        · rw [if_neg c32] at H
                          have c32b0 : decide ((((rd_T102 l0_3 x3_2).f2).length : Int) < 1) = false := decide_eq_false c32
                          have c32b1 : decide (((rd_T102 l0_3 x3_2).f2).length < 1) = false := decide_eq_false (by omega)
                          clear c32
                          have H' := Aside0.mk H
                          clear H
                          have hnb35 := NB135_130.out
                          have hnc35 := NB130_135.out
                          obtain ⟨hcz36_0, hcz36_1, hcz36_2, hfz36_0, hfz36_1, hfz36_2⟩ := cellsF3 BK135.out
                          go_wp2_with (first | (go_at_call 56; (with_reducible refine (spec_l01Control.calls ((rd_T102 l0_3 x3_2).f1) true _ A30.out).mono ?_); rintro e w' ⟨rfl, ⟨nd, rfl⟩⟩))
                          go_meet
                          case rel => exact ⟨_, (decide ((((rd_T102 l0_3 x3_2).f2).length : Int) > 10)), er_, H', ⟨au5_7⟩, ⟨au5_1⟩, ⟨au5_0⟩, ⟨bl_⟩⟩
                      · replace c31 := Bool.eq_false_iff.mpr c31
                        subst c31
                        have H1 : (spec_IxRight.j2 k2 x3_2 true a0_0 a0_1 a0_2 l0_3 ((rd_T102 l0_3 x3_2).f0) ((rd_T102 l0_3 x3_2).f1) ((rd_T102 l0_3 x3_2).f2)) = some r := by rw [if_neg (show ¬ (false = true) by decide)] at H; exact H
                        clear H
                        have H := H1
                        clear H1
                        have H' := Aside0.mk H
                        clear H
                        have hnb37 := NB135_130.out
                        have hnc37 := NB130_135.out
                        obtain ⟨hcz38_0, hcz38_1, hcz38_2, hfz38_0, hfz38_1, hfz38_2⟩ := cellsF3 BK135.out
                        go_wp2_with (first | (go_at_call 56; (with_reducible refine (spec_l01Control.calls ((rd_T102 l0_3 x3_2).f1) false _ A30.out).mono ?_); rintro e w' ⟨rfl, ⟨nd, rfl⟩⟩))
                        go_meet
                        case rel => exact ⟨_, (true), er_, H', ⟨au5_7⟩, ⟨au5_1⟩, ⟨au5_0⟩, ⟨bl_⟩⟩
                case rest =>
                  clear HC19
                  try clear c1
                  try clear p1
                  try clear q1
                  try clear hx1
                  try clear c2
                  try clear p2
                  try clear c3
                  try clear c5
                  try clear c7
                  try clear c9
                  try clear c10
                  try clear c10b0
                  try clear c10b1
                  try clear c13
                  try clear p13
                  try clear q13
                  try clear hx13
                  try clear c16
                  try clear c17
                  try clear c17b0
                  try clear c18
                  try clear c18b0
                  try clear c22
                  try clear c24
                  try clear c24b0
                  try clear c25
                  try clear c27
                  try clear c27b0
                  try clear c28
                  try clear c31
                  try clear c32
                  try clear c32b0
                  try clear c32b1
                  try clear c33
                  try clear c35
                  try clear c37
                  try clear hcz11_0
                  try clear hcz11_1
                  try clear hcz11_2
                  try clear hcz11_3
                  try clear hcz12_0
                  try clear hcz12_1
                  try clear hcz12_2
                  try clear hcz12_3
                  try clear hcz13_0
                  try clear hcz13_1
                  try clear hcz13_2
                  try clear hcz13_3
                  try clear hcz14_0
                  try clear hcz14_1
                  try clear hcz14_2
                  try clear hcz14_3
                  try clear hcz15_0
                  try clear hcz15_1
                  try clear hcz15_2
                  try clear hcz15_3
                  try clear hcz20_0
                  try clear hcz20_1
                  try clear hcz20_2
                  try clear hcz20_3
                  try clear hcz23_0
                  try clear hcz23_1
                  try clear hcz23_2
                  try clear hcz26_0
                  try clear hcz26_1
                  try clear hcz26_2
                  try clear hcz29_0
                  try clear hcz29_1
                  try clear hcz29_2
                  try clear hcz34_0
                  try clear hcz34_1
                  try clear hcz34_2
                  try clear hcz36_0
                  try clear hcz36_1
                  try clear hcz36_2
                  try clear hcz38_0
                  try clear hcz38_1
                  try clear hcz38_2
                  try clear hfz11_0
                  try clear hfz11_1
                  try clear hfz11_2
                  try clear hfz11_3
                  try clear hfz12_0
                  try clear hfz12_1
                  try clear hfz12_2
                  try clear hfz12_3
                  try clear hfz13_0
                  try clear hfz13_1
                  try clear hfz13_2
                  try clear hfz13_3
                  try clear hfz14_0
                  try clear hfz14_1
                  try clear hfz14_2
                  try clear hfz14_3
                  try clear hfz15_0
                  try clear hfz15_1
                  try clear hfz15_2
                  try clear hfz15_3
                  try clear hfz20_0
                  try clear hfz20_1
                  try clear hfz20_2
                  try clear hfz20_3
                  try clear hfz23_0
                  try clear hfz23_1
                  try clear hfz23_2
                  try clear hfz26_0
                  try clear hfz26_1
                  try clear hfz26_2
                  try clear hfz29_0
                  try clear hfz29_1
                  try clear hfz29_2
                  try clear hfz34_0
                  try clear hfz34_1
                  try clear hfz34_2
                  try clear hfz36_0
                  try clear hfz36_1
                  try clear hfz36_2
                  try clear hfz38_0
                  try clear hfz38_1
                  try clear hfz38_2
                  try clear hx134_0
                  try clear hx134_1
                  try clear hx134_2
                  try clear p134
                  try clear p2
                  try clear q134
                  obtain ⟨kq, x73_18, rfl, HA, HJ18, BK130, BK135, HB⟩ := hcut
                  cases kq with
                  | zero => exact absurd HA.out (by simp [spec_IxRight.j2])
                  | succ kj18 =>
                    have H := HA.out
                    clear HA
                    simp only [spec_IxRight.j2] at H
                    by_cases c39 : x73_18 = true
                    · subst c39
                      have H1 : (some false) = some r := by rw [if_pos rfl] at H; exact H
                      clear H
                      have H := H1
                      clear H1
                      obtain rfl := Option.some.inj H
                      go_wp2
                      go_ret
                      exact ⟨au5_3, bl_⟩
                    · replace c39 := Bool.eq_false_iff.mpr c39
                      subst c39
                      have H1 : (spec_IxRight.l1 kj18 x3_2 0 a0_0 a0_1 a0_2 l0_3 ((rd_T102 l0_3 x3_2).f0) ((rd_T102 l0_3 x3_2).f1) ((rd_T102 l0_3 x3_2).f2)) = some r := by rw [if_neg (show ¬ (false = true) by decide)] at H; exact H
                      clear H
                      have H := H1
                      clear H1
                      have H' := Aside0.mk H
                      clear H
                      go_wp2
                      go_loopg [5] kj18 (fun kq v5 w' => ∃ (x5_4 : Int), v5 = .int .i64 x5_4 ∧ Aside0 (spec_IxRight.l1 kq x3_2 x5_4 a0_0 a0_1 a0_2 l0_3 ((rd_T102 l0_3 x3_2).f0) ((rd_T102 l0_3 x3_2).f1) ((rd_T102 l0_3 x3_2).f2) = some r) ∧ Aside0 (kq ≤ kj18) ∧ Aside0 (w'.heap[gb130]? = some (.cells #[.string a0_0, .string a0_1, .int .i64 a0_2, (.slice (some ad134) l0_3.length c0_3)] 64 (0, 0))) ∧ Aside0 (w'.heap[gb135]? = some (.cells #[.int .i64 ((rd_T102 l0_3 x3_2).f0), .int .i64 ((rd_T102 l0_3 x3_2).f1), (.slice A134_2 ((rd_T102 l0_3 x3_2).f2).length c134_2)] 102 (0, 0))) ∧ Aside0 (Below w.heap.size w w'))
                      case atStart => exact ⟨(0), er_, H', ⟨Nat.le_refl _⟩, ⟨bk_ BK130⟩, ⟨bk_ BK135⟩, ⟨bl_⟩⟩
                      case round =>
                        clear H'
                        try clear c1
                        try clear p1
                        try clear q1
                        try clear hx1
                        try clear c2
                        try clear p2
                        try clear c3
                        try clear c5
                        try clear c7
                        try clear c9
                        try clear c10
                        try clear c10b0
                        try clear c10b1
                        try clear c13
                        try clear p13
                        try clear q13
                        try clear hx13
                        try clear c16
                        try clear c17
                        try clear c17b0
                        try clear c18
                        try clear c18b0
                        try clear c22
                        try clear c24
                        try clear c24b0
                        try clear c25
                        try clear c27
                        try clear c27b0
                        try clear c28
                        try clear c31
                        try clear c32
                        try clear c32b0
                        try clear c32b1
                        try clear c33
                        try clear c35
                        try clear c37
                        try clear c39
                        try clear hcz11_0
                        try clear hcz11_1
                        try clear hcz11_2
                        try clear hcz11_3
                        try clear hcz12_0
                        try clear hcz12_1
                        try clear hcz12_2
                        try clear hcz12_3
                        try clear hcz13_0
                        try clear hcz13_1
                        try clear hcz13_2
                        try clear hcz13_3
                        try clear hcz14_0
                        try clear hcz14_1
                        try clear hcz14_2
                        try clear hcz14_3
                        try clear hcz15_0
                        try clear hcz15_1
                        try clear hcz15_2
                        try clear hcz15_3
                        try clear hcz20_0
                        try clear hcz20_1
                        try clear hcz20_2
                        try clear hcz20_3
                        try clear hcz23_0
                        try clear hcz23_1
                        try clear hcz23_2
                        try clear hcz26_0
                        try clear hcz26_1
                        try clear hcz26_2
                        try clear hcz29_0
                        try clear hcz29_1
                        try clear hcz29_2
                        try clear hcz34_0
                        try clear hcz34_1
                        try clear hcz34_2
                        try clear hcz36_0
                        try clear hcz36_1
                        try clear hcz36_2
                        try clear hcz38_0
                        try clear hcz38_1
                        try clear hcz38_2
                        try clear hfz11_0
                        try clear hfz11_1
                        try clear hfz11_2
                        try clear hfz11_3
                        try clear hfz12_0
                        try clear hfz12_1
                        try clear hfz12_2
                        try clear hfz12_3
                        try clear hfz13_0
                        try clear hfz13_1
                        try clear hfz13_2
                        try clear hfz13_3
                        try clear hfz14_0
                        try clear hfz14_1
                        try clear hfz14_2
                        try clear hfz14_3
                        try clear hfz15_0
                        try clear hfz15_1
                        try clear hfz15_2
                        try clear hfz15_3
                        try clear hfz20_0
                        try clear hfz20_1
                        try clear hfz20_2
                        try clear hfz20_3
                        try clear hfz23_0
                        try clear hfz23_1
                        try clear hfz23_2
                        try clear hfz26_0
                        try clear hfz26_1
                        try clear hfz26_2
                        try clear hfz29_0
                        try clear hfz29_1
                        try clear hfz29_2
                        try clear hfz34_0
                        try clear hfz34_1
                        try clear hfz34_2
                        try clear hfz36_0
                        try clear hfz36_1
                        try clear hfz36_2
                        try clear hfz38_0
                        try clear hfz38_1
                        try clear hfz38_2
                        try clear hx134_0
                        try clear hx134_1
                        try clear hx134_2
                        try clear p1
                        try clear p13
                        try clear p134
                        try clear p2
                        try clear q1
                        try clear q13
                        try clear q134
                        obtain ⟨x5_4, rfl, HA, HK4, BK130, BK135, HB⟩ := hrel
                        cases gk with
                        | zero => exact absurd HA.out (by simp [spec_IxRight.l1])
                        | succ k4 =>
                          have H := HA.out
                          clear HA
                          simp only [spec_IxRight.l1] at H
                          by_cases c40 : x5_4 < (((rd_T102 l0_3 x3_2).f2).length : Int)
                          · rw [if_pos c40] at H
                            have c40b0 : decide (x5_4 < (((rd_T102 l0_3 x3_2).f2).length : Int)) = true := decide_eq_true c40
                            clear c40
                            by_cases c41 : 0 ≤ x5_4
                            · rw [if_pos c41] at H
                              have c41b0 : decide (0 ≤ x5_4) = true := decide_eq_true c41
                              clear c41
                              have HC42 := Aside0.mk H
                              clear H
                              have hnb43 := NB135_130.out
                              have hnc43 := NB130_135.out
                              obtain ⟨hcz44_0, hcz44_1, hcz44_2, hfz44_0, hfz44_1, hfz44_2⟩ := cellsF3 BK135.out
                              have p137 : 0 ≤ (x5_4 : Int) := of_decide_eq_true as_
                              have q137 : x5_4 < (((rd_T102 l0_3 x3_2).f2).length : Int) := of_decide_eq_true as_
                              obtain ⟨ad137, A137_1, c137_1, e137, hx137_0, hx137_1, hl137_1, hi137_1⟩ := at_T104 HR134_2.out x5_4 p137 q137
                              cases e137
                              replace hx137_0 := (HB.out.cell (World.block_lt_of_cell? _ _ hx137_0)).trans hx137_0
                              replace hx137_1 := (HB.out.cell (World.block_lt_of_cell? _ _ hx137_1)).trans hx137_1
                              have HR137_1 := Aside0.mk hi137_1
                              have HC137_1 := Aside0.mk hl137_1
                              clear hi137_1 hl137_1
                              replace p137 := eq_true p137
                              replace q137 := eq_true q137
                              go_upto_region 13 with (first | ((with_reducible refine gate_dst (N := 6) rfl ?_); (try (refine gate_guard (by rfl) ?_; dsimp only)); refine box_event ?hg (N := 6) ?hd (cs := #[.int .i64 0, .slice none 0 0]) (t := 104) ?hr ?_; (case hd => rfl); (case hg => rfl); (case hr => exact hr_); intro gb138 hg w45 hbox hb; have n0_ := Aside0.mk (blkb_ BK130 hb); have n1_ := Aside0.mk (blkb_ BK135 hb); have n2_ := Aside0.mk (below_step bl_ hb); have n3_ := Aside0.mk (hbox); have n4_ := Aside0.mk (gw_ hg bl_); have n5_ := Aside0.mk (gw_ hg bl_); have n6_ := Aside0.mk (gn_ hg (blkl_ BK130)); have n7_ := Aside0.mk (gm_ hg (blkl_ BK130)); have n8_ := Aside0.mk (gn_ hg (blkl_ BK135)); have n9_ := Aside0.mk (gm_ hg (blkl_ BK135)); clear BK130; clear BK135; clear HB; have BK130 := n0_; have BK135 := n1_; have HB := n2_; have BK138 := n3_; have GW138 := n4_; have GE138 := n5_; have NB130_138 := n6_; have NB138_130 := n7_; have NB135_138 := n8_; have NB138_135 := n9_; clear n0_ n1_ n2_ n3_ n4_ n5_ n6_ n7_ n8_ n9_; clear hb hbox hg; have hnb46 := NB138_130.out; have hnc46 := NB130_138.out; have hnb47 := NB138_135.out; have hnc47 := NB135_138.out; obtain ⟨hcz48_0, hcz48_1, hfz48_0, hfz48_1⟩ := cellsF2 BK138.out))
                              (try simp only [Act.put, List.setIfInBounds_toArray, List.set_cons_zero, List.set_cons_succ])
                              go_cut [95] (fun v95 wc => ∃ (kq : Nat) (x95_41 : Bool), v95 = .bool x95_41 ∧ Aside0 (spec_IxRight.j4 kq x3_2 x5_4 x95_41 a0_0 a0_1 a0_2 l0_3 ((rd_T102 l0_3 x3_2).f0) ((rd_T102 l0_3 x3_2).f1) ((rd_T102 l0_3 x3_2).f2) ((rd_T104 ((rd_T102 l0_3 x3_2).f2) x5_4).f0) ((rd_T104 ((rd_T102 l0_3 x3_2).f2) x5_4).f1) = some r) ∧ Aside0 (kq ≤ k4) ∧ Aside0 (wc.heap[gb130]? = some (.cells #[.string a0_0, .string a0_1, .int .i64 a0_2, (.slice (some ad134) l0_3.length c0_3)] 64 (0, 0))) ∧ Aside0 (wc.heap[gb135]? = some (.cells #[.int .i64 ((rd_T102 l0_3 x3_2).f0), .int .i64 ((rd_T102 l0_3 x3_2).f1), (.slice (some ad137) ((rd_T102 l0_3 x3_2).f2).length c134_2)] 102 (0, 0))) ∧ Aside0 (wc.heap[gb138]? = some (.cells #[.int .i64 ((rd_T104 ((rd_T102 l0_3 x3_2).f2) x5_4).f0), (.slice A137_1 ((rd_T104 ((rd_T102 l0_3 x3_2).f2) x5_4).f1).length c137_1)] 104 (0, 0))) ∧ Aside0 (Below w.heap.size w wc))
                              case first =>
                                have H := HC42.out
                                clear HC42
                                replace H := Option.bind_eq_some_iff.mp H
                                obtain ⟨t139, A490, H⟩ := H
                                replace H : (if t139 = true then (spec_IxRight.j4 k4 x3_2 x5_4 (decide ((((rd_T104 ((rd_T102 l0_3 x3_2).f2) x5_4).f1).length : Int) > 40)) a0_0 a0_1 a0_2 l0_3 ((rd_T102 l0_3 x3_2).f0) ((rd_T102 l0_3 x3_2).f1) ((rd_T102 l0_3 x3_2).f2) ((rd_T104 ((rd_T102 l0_3 x3_2).f2) x5_4).f0) ((rd_T104 ((rd_T102 l0_3 x3_2).f2) x5_4).f1)) else (spec_IxRight.j4 k4 x3_2 x5_4 true a0_0 a0_1 a0_2 l0_3 ((rd_T102 l0_3 x3_2).f0) ((rd_T102 l0_3 x3_2).f1) ((rd_T102 l0_3 x3_2).f2) ((rd_T104 ((rd_T102 l0_3 x3_2).f2) x5_4).f0) ((rd_T104 ((rd_T102 l0_3 x3_2).f2) x5_4).f1))) = some r := H
                                have A49 := Aside0.mk A490
                                clear A490
                                by_cases c50 : t139 = true
                                · subst c50
                                  have H1 : (spec_IxRight.j4 k4 x3_2 x5_4 (decide ((((rd_T104 ((rd_T102 l0_3 x3_2).f2) x5_4).f1).length : Int) > 40)) a0_0 a0_1 a0_2 l0_3 ((rd_T102 l0_3 x3_2).f0) ((rd_T102 l0_3 x3_2).f1) ((rd_T102 l0_3 x3_2).f2) ((rd_T104 ((rd_T102 l0_3 x3_2).f2) x5_4).f0) ((rd_T104 ((rd_T102 l0_3 x3_2).f2) x5_4).f1)) = some r := by rw [if_pos rfl] at H; exact H
                                  clear H
                                  have H := H1
                                  clear H1
                                  have H' := Aside0.mk H
                                  clear H
                                  have hnb51 := NB138_130.out
                                  have hnc51 := NB130_138.out
                                  have hnb52 := NB138_135.out
                                  have hnc52 := NB135_138.out
                                  obtain ⟨hcz53_0, hcz53_1, hfz53_0, hfz53_1⟩ := cellsF2 BK138.out
                                  go_wp2_with (first | (go_at_call 56; (with_reducible refine (spec_l01Control.calls ((rd_T104 ((rd_T102 l0_3 x3_2).f2) x5_4).f0) true _ A49.out).mono ?_); rintro e w' ⟨rfl, ⟨nd, rfl⟩⟩))
                                  go_meet
                                  case rel => exact ⟨_, (decide ((((rd_T104 ((rd_T102 l0_3 x3_2).f2) x5_4).f1).length : Int) > 40)), er_, H', ⟨au5_10⟩, ⟨au5_4⟩, ⟨au5_5⟩, ⟨au5_2⟩, ⟨bl_⟩⟩
                                · replace c50 := Bool.eq_false_iff.mpr c50
                                  subst c50
                                  have H1 : (spec_IxRight.j4 k4 x3_2 x5_4 true a0_0 a0_1 a0_2 l0_3 ((rd_T102 l0_3 x3_2).f0) ((rd_T102 l0_3 x3_2).f1) ((rd_T102 l0_3 x3_2).f2) ((rd_T104 ((rd_T102 l0_3 x3_2).f2) x5_4).f0) ((rd_T104 ((rd_T102 l0_3 x3_2).f2) x5_4).f1)) = some r := by rw [if_neg (show ¬ (false = true) by decide)] at H; exact H
                                  clear H
                                  have H := H1
                                  clear H1
                                  have H' := Aside0.mk H
                                  clear H
                                  have hnb54 := NB138_130.out
                                  have hnc54 := NB130_138.out
                                  have hnb55 := NB138_135.out
                                  have hnc55 := NB135_138.out
                                  obtain ⟨hcz56_0, hcz56_1, hfz56_0, hfz56_1⟩ := cellsF2 BK138.out
                                  go_wp2_with (first | (go_at_call 56; (with_reducible refine (spec_l01Control.calls ((rd_T104 ((rd_T102 l0_3 x3_2).f2) x5_4).f0) false _ A49.out).mono ?_); rintro e w' ⟨rfl, ⟨nd, rfl⟩⟩))
                                  go_meet
                                  case rel => exact ⟨_, (true), er_, H', ⟨au5_10⟩, ⟨au5_4⟩, ⟨au5_5⟩, ⟨au5_2⟩, ⟨bl_⟩⟩
                              case rest =>
                                clear HC42
                                try clear c1
                                try clear p1
                                try clear q1
                                try clear hx1
                                try clear c2
                                try clear p2
                                try clear c3
                                try clear c4
                                try clear c5
                                try clear c7
                                try clear c9
                                try clear c10
                                try clear c10b0
                                try clear c10b1
                                try clear c13
                                try clear p13
                                try clear q13
                                try clear hx13
                                try clear c16
                                try clear c17
                                try clear c17b0
                                try clear c18
                                try clear c18b0
                                try clear c22
                                try clear c24
                                try clear c24b0
                                try clear c25
                                try clear c27
                                try clear c27b0
                                try clear c28
                                try clear c31
                                try clear c32
                                try clear c32b0
                                try clear c32b1
                                try clear c33
                                try clear c35
                                try clear c37
                                try clear c39
                                try clear c40
                                try clear c40b0
                                try clear c41
                                try clear c41b0
                                try clear c43
                                try clear c46
                                try clear c47
                                try clear c50
                                try clear c51
                                try clear c52
                                try clear c54
                                try clear c55
                                try clear hcz11_0
                                try clear hcz11_1
                                try clear hcz11_2
                                try clear hcz11_3
                                try clear hcz12_0
                                try clear hcz12_1
                                try clear hcz12_2
                                try clear hcz12_3
                                try clear hcz13_0
                                try clear hcz13_1
                                try clear hcz13_2
                                try clear hcz13_3
                                try clear hcz14_0
                                try clear hcz14_1
                                try clear hcz14_2
                                try clear hcz14_3
                                try clear hcz15_0
                                try clear hcz15_1
                                try clear hcz15_2
                                try clear hcz15_3
                                try clear hcz20_0
                                try clear hcz20_1
                                try clear hcz20_2
                                try clear hcz20_3
                                try clear hcz23_0
                                try clear hcz23_1
                                try clear hcz23_2
                                try clear hcz26_0
                                try clear hcz26_1
                                try clear hcz26_2
                                try clear hcz29_0
                                try clear hcz29_1
                                try clear hcz29_2
                                try clear hcz34_0
                                try clear hcz34_1
                                try clear hcz34_2
                                try clear hcz36_0
                                try clear hcz36_1
                                try clear hcz36_2
                                try clear hcz38_0
                                try clear hcz38_1
                                try clear hcz38_2
                                try clear hcz44_0
                                try clear hcz44_1
                                try clear hcz44_2
                                try clear hcz48_0
                                try clear hcz48_1
                                try clear hcz53_0
                                try clear hcz53_1
                                try clear hcz56_0
                                try clear hcz56_1
                                try clear hfz11_0
                                try clear hfz11_1
                                try clear hfz11_2
                                try clear hfz11_3
                                try clear hfz12_0
                                try clear hfz12_1
                                try clear hfz12_2
                                try clear hfz12_3
                                try clear hfz13_0
                                try clear hfz13_1
                                try clear hfz13_2
                                try clear hfz13_3
                                try clear hfz14_0
                                try clear hfz14_1
                                try clear hfz14_2
                                try clear hfz14_3
                                try clear hfz15_0
                                try clear hfz15_1
                                try clear hfz15_2
                                try clear hfz15_3
                                try clear hfz20_0
                                try clear hfz20_1
                                try clear hfz20_2
                                try clear hfz20_3
                                try clear hfz23_0
                                try clear hfz23_1
                                try clear hfz23_2
                                try clear hfz26_0
                                try clear hfz26_1
                                try clear hfz26_2
                                try clear hfz29_0
                                try clear hfz29_1
                                try clear hfz29_2
                                try clear hfz34_0
                                try clear hfz34_1
                                try clear hfz34_2
                                try clear hfz36_0
                                try clear hfz36_1
                                try clear hfz36_2
                                try clear hfz38_0
                                try clear hfz38_1
                                try clear hfz38_2
                                try clear hfz44_0
                                try clear hfz44_1
                                try clear hfz44_2
                                try clear hfz48_0
                                try clear hfz48_1
                                try clear hfz53_0
                                try clear hfz53_1
                                try clear hfz56_0
                                try clear hfz56_1
                                try clear hx134_0
                                try clear hx134_1
                                try clear hx134_2
                                try clear hx137_0
                                try clear hx137_1
                                try clear p1
                                try clear p13
                                try clear p134
                                try clear p137
                                try clear p2
                                try clear q1
                                try clear q13
                                try clear q134
                                try clear q137
                                obtain ⟨kq, x95_41, rfl, HA, HJ41, BK130, BK135, BK138, HB⟩ := hcut
                                cases kq with
                                | zero => exact absurd HA.out (by simp [spec_IxRight.j4])
                                | succ kj41 =>
                                  have H := HA.out
                                  clear HA
                                  simp only [spec_IxRight.j4] at H
                                  by_cases c57 : x95_41 = true
                                  · subst c57
                                    have H1 : (some false) = some r := by rw [if_pos rfl] at H; exact H
                                    clear H
                                    have H := H1
                                    clear H1
                                    obtain rfl := Option.some.inj H
                                    go_wp2
                                    go_ret
                                    exact ⟨au5_3, bl_⟩
                                  · replace c57 := Bool.eq_false_iff.mpr c57
                                    subst c57
                                    have H1 : (spec_IxRight.l2 kj41 x3_2 x5_4 0 a0_0 a0_1 a0_2 l0_3 ((rd_T102 l0_3 x3_2).f0) ((rd_T102 l0_3 x3_2).f1) ((rd_T102 l0_3 x3_2).f2) ((rd_T104 ((rd_T102 l0_3 x3_2).f2) x5_4).f0) ((rd_T104 ((rd_T102 l0_3 x3_2).f2) x5_4).f1)) = some r := by rw [if_neg (show ¬ (false = true) by decide)] at H; exact H
                                    clear H
                                    have H := H1
                                    clear H1
                                    have H' := Aside0.mk H
                                    clear H
                                    go_wp2
                                    go_loopg [7] kj41 (fun kq v7 w' => ∃ (x7_6 : Int), v7 = .int .i64 x7_6 ∧ Aside0 (spec_IxRight.l2 kq x3_2 x5_4 x7_6 a0_0 a0_1 a0_2 l0_3 ((rd_T102 l0_3 x3_2).f0) ((rd_T102 l0_3 x3_2).f1) ((rd_T102 l0_3 x3_2).f2) ((rd_T104 ((rd_T102 l0_3 x3_2).f2) x5_4).f0) ((rd_T104 ((rd_T102 l0_3 x3_2).f2) x5_4).f1) = some r) ∧ Aside0 (kq ≤ kj41) ∧ Aside0 (w'.heap[gb130]? = some (.cells #[.string a0_0, .string a0_1, .int .i64 a0_2, (.slice (some ad134) l0_3.length c0_3)] 64 (0, 0))) ∧ Aside0 (w'.heap[gb135]? = some (.cells #[.int .i64 ((rd_T102 l0_3 x3_2).f0), .int .i64 ((rd_T102 l0_3 x3_2).f1), (.slice (some ad137) ((rd_T102 l0_3 x3_2).f2).length c134_2)] 102 (0, 0))) ∧ Aside0 (w'.heap[gb138]? = some (.cells #[.int .i64 ((rd_T104 ((rd_T102 l0_3 x3_2).f2) x5_4).f0), (.slice A137_1 ((rd_T104 ((rd_T102 l0_3 x3_2).f2) x5_4).f1).length c137_1)] 104 (0, 0))) ∧ Aside0 (Below w.heap.size w w'))
                                    case atStart => exact ⟨(0), er_, H', ⟨Nat.le_refl _⟩, ⟨bk_ BK130⟩, ⟨bk_ BK135⟩, ⟨bk_ BK138⟩, ⟨bl_⟩⟩
                                    case round =>
                                      clear H'
                                      try clear c1
                                      try clear p1
                                      try clear q1
                                      try clear hx1
                                      try clear c2
                                      try clear p2
                                      try clear c3
                                      try clear c4
                                      try clear c5
                                      try clear c7
                                      try clear c9
                                      try clear c10
                                      try clear c10b0
                                      try clear c10b1
                                      try clear c13
                                      try clear p13
                                      try clear q13
                                      try clear hx13
                                      try clear c16
                                      try clear c17
                                      try clear c17b0
                                      try clear c18
                                      try clear c18b0
                                      try clear c22
                                      try clear c24
                                      try clear c24b0
                                      try clear c25
                                      try clear c27
                                      try clear c27b0
                                      try clear c28
                                      try clear c31
                                      try clear c32
                                      try clear c32b0
                                      try clear c32b1
                                      try clear c33
                                      try clear c35
                                      try clear c37
                                      try clear c39
                                      try clear c40
                                      try clear c40b0
                                      try clear c41
                                      try clear c41b0
                                      try clear c43
                                      try clear c46
                                      try clear c47
                                      try clear c50
                                      try clear c51
                                      try clear c52
                                      try clear c54
                                      try clear c55
                                      try clear c57
                                      try clear hcz11_0
                                      try clear hcz11_1
                                      try clear hcz11_2
                                      try clear hcz11_3
                                      try clear hcz12_0
                                      try clear hcz12_1
                                      try clear hcz12_2
                                      try clear hcz12_3
                                      try clear hcz13_0
                                      try clear hcz13_1
                                      try clear hcz13_2
                                      try clear hcz13_3
                                      try clear hcz14_0
                                      try clear hcz14_1
                                      try clear hcz14_2
                                      try clear hcz14_3
                                      try clear hcz15_0
                                      try clear hcz15_1
                                      try clear hcz15_2
                                      try clear hcz15_3
                                      try clear hcz20_0
                                      try clear hcz20_1
                                      try clear hcz20_2
                                      try clear hcz20_3
                                      try clear hcz23_0
                                      try clear hcz23_1
                                      try clear hcz23_2
                                      try clear hcz26_0
                                      try clear hcz26_1
                                      try clear hcz26_2
                                      try clear hcz29_0
                                      try clear hcz29_1
                                      try clear hcz29_2
                                      try clear hcz34_0
                                      try clear hcz34_1
                                      try clear hcz34_2
                                      try clear hcz36_0
                                      try clear hcz36_1
                                      try clear hcz36_2
                                      try clear hcz38_0
                                      try clear hcz38_1
                                      try clear hcz38_2
                                      try clear hcz44_0
                                      try clear hcz44_1
                                      try clear hcz44_2
                                      try clear hcz48_0
                                      try clear hcz48_1
                                      try clear hcz53_0
                                      try clear hcz53_1
                                      try clear hcz56_0
                                      try clear hcz56_1
                                      try clear hfz11_0
                                      try clear hfz11_1
                                      try clear hfz11_2
                                      try clear hfz11_3
                                      try clear hfz12_0
                                      try clear hfz12_1
                                      try clear hfz12_2
                                      try clear hfz12_3
                                      try clear hfz13_0
                                      try clear hfz13_1
                                      try clear hfz13_2
                                      try clear hfz13_3
                                      try clear hfz14_0
                                      try clear hfz14_1
                                      try clear hfz14_2
                                      try clear hfz14_3
                                      try clear hfz15_0
                                      try clear hfz15_1
                                      try clear hfz15_2
                                      try clear hfz15_3
                                      try clear hfz20_0
                                      try clear hfz20_1
                                      try clear hfz20_2
                                      try clear hfz20_3
                                      try clear hfz23_0
                                      try clear hfz23_1
                                      try clear hfz23_2
                                      try clear hfz26_0
                                      try clear hfz26_1
                                      try clear hfz26_2
                                      try clear hfz29_0
                                      try clear hfz29_1
                                      try clear hfz29_2
                                      try clear hfz34_0
                                      try clear hfz34_1
                                      try clear hfz34_2
                                      try clear hfz36_0
                                      try clear hfz36_1
                                      try clear hfz36_2
                                      try clear hfz38_0
                                      try clear hfz38_1
                                      try clear hfz38_2
                                      try clear hfz44_0
                                      try clear hfz44_1
                                      try clear hfz44_2
                                      try clear hfz48_0
                                      try clear hfz48_1
                                      try clear hfz53_0
                                      try clear hfz53_1
                                      try clear hfz56_0
                                      try clear hfz56_1
                                      try clear hx134_0
                                      try clear hx134_1
                                      try clear hx134_2
                                      try clear hx137_0
                                      try clear hx137_1
                                      try clear p1
                                      try clear p13
                                      try clear p134
                                      try clear p137
                                      try clear p2
                                      try clear q1
                                      try clear q13
                                      try clear q134
                                      try clear q137
                                      obtain ⟨x7_6, rfl, HA, HK6, BK130, BK135, BK138, HB⟩ := hrel
                                      cases gk with
                                      | zero => exact absurd HA.out (by simp [spec_IxRight.l2])
                                      | succ k6 =>
                                        have H := HA.out
                                        clear HA
                                        simp only [spec_IxRight.l2] at H
                                        by_cases c58 : x7_6 < (((rd_T104 ((rd_T102 l0_3 x3_2).f2) x5_4).f1).length : Int)
                                        · rw [if_pos c58] at H
                                          have c58b0 : decide (x7_6 < (((rd_T104 ((rd_T102 l0_3 x3_2).f2) x5_4).f1).length : Int)) = true := decide_eq_true c58
                                          clear c58
                                          by_cases c59 : 0 ≤ x7_6
                                          · rw [if_pos c59] at H
                                            have c59b0 : decide (0 ≤ x7_6) = true := decide_eq_true c59
                                            clear c59
                                            replace H := Option.bind_eq_some_iff.mp H
                                            obtain ⟨t141, A600, H⟩ := H
                                            replace H : (if t141 = true then ((spec_l03Own.f ((rd_T88 ((rd_T104 ((rd_T102 l0_3 x3_2).f2) x5_4).f1) x7_6).f0)).bind fun t143 => (if t143 = true then (some false) else (spec_IxRight.l2 k6 x3_2 x5_4 (wrap64 (x7_6 + 1)) a0_0 a0_1 a0_2 l0_3 ((rd_T102 l0_3 x3_2).f0) ((rd_T102 l0_3 x3_2).f1) ((rd_T102 l0_3 x3_2).f2) ((rd_T104 ((rd_T102 l0_3 x3_2).f2) x5_4).f0) ((rd_T104 ((rd_T102 l0_3 x3_2).f2) x5_4).f1)))) else (some false)) = some r := H
                                            have A60 := Aside0.mk A600
                                            clear A600
                                            by_cases c61 : t141 = true
                                            · subst c61
                                              have H1 : ((spec_l03Own.f ((rd_T88 ((rd_T104 ((rd_T102 l0_3 x3_2).f2) x5_4).f1) x7_6).f0)).bind fun t143 => (if t143 = true then (some false) else (spec_IxRight.l2 k6 x3_2 x5_4 (wrap64 (x7_6 + 1)) a0_0 a0_1 a0_2 l0_3 ((rd_T102 l0_3 x3_2).f0) ((rd_T102 l0_3 x3_2).f1) ((rd_T102 l0_3 x3_2).f2) ((rd_T104 ((rd_T102 l0_3 x3_2).f2) x5_4).f0) ((rd_T104 ((rd_T102 l0_3 x3_2).f2) x5_4).f1)))) = some r := by rw [if_pos rfl] at H; exact H
                                              clear H
                                              have H := H1
                                              clear H1
                                              replace H := Option.bind_eq_some_iff.mp H
                                              obtain ⟨t143, A620, H⟩ := H
                                              replace H : (if t143 = true then (some false) else (spec_IxRight.l2 k6 x3_2 x5_4 (wrap64 (x7_6 + 1)) a0_0 a0_1 a0_2 l0_3 ((rd_T102 l0_3 x3_2).f0) ((rd_T102 l0_3 x3_2).f1) ((rd_T102 l0_3 x3_2).f2) ((rd_T104 ((rd_T102 l0_3 x3_2).f2) x5_4).f0) ((rd_T104 ((rd_T102 l0_3 x3_2).f2) x5_4).f1))) = some r := H
                                              have A62 := Aside0.mk A620
                                              clear A620
                                              by_cases c63 : t143 = true
                                              · subst c63
                                                have H1 : (some false) = some r := by rw [if_pos rfl] at H; exact H
                                                clear H
                                                have H := H1
                                                clear H1
                                                obtain rfl := Option.some.inj H
                                                have hnb64 := NB138_130.out
                                                have hnc64 := NB130_138.out
                                                have hnb65 := NB138_135.out
                                                have hnc65 := NB135_138.out
                                                obtain ⟨hcz66_0, hcz66_1, hfz66_0, hfz66_1⟩ := cellsF2 BK138.out
                                                have p140 : 0 ≤ (x7_6 : Int) := of_decide_eq_true as_
                                                have q140 : x7_6 < (((rd_T104 ((rd_T102 l0_3 x3_2).f2) x5_4).f1).length : Int) := of_decide_eq_true as_
                                                obtain ⟨ad140, A140_1, c140_1, e140, hx140_0, hx140_1, hl140_1, hi140_1⟩ := at_T88 HR137_1.out x7_6 p140 q140
                                                cases e140
                                                replace hx140_0 := (HB.out.cell (World.block_lt_of_cell? _ _ hx140_0)).trans hx140_0
                                                replace hx140_1 := (HB.out.cell (World.block_lt_of_cell? _ _ hx140_1)).trans hx140_1
                                                have HR140_1 := Aside0.mk hi140_1
                                                have HC140_1 := Aside0.mk hl140_1
                                                clear hi140_1 hl140_1
                                                replace p140 := eq_true p140
                                                replace q140 := eq_true q140
                                                go_wp2_with (first | (go_at_call 44; (with_reducible refine (spec_SegmentRight.calls k6 ((rd_T88 ((rd_T104 ((rd_T102 l0_3 x3_2).f2) x5_4).f1) x7_6).f0) _ _ ((rd_T88 ((rd_T104 ((rd_T102 l0_3 x3_2).f2) x5_4).f1) x7_6).f1) true _ ?side1 ?side2 A60.out).mono ?_); (case side1 => exact au5_6); (case side2 => exact HC140_1.out); rintro e w67 ⟨rfl, hb⟩; have n0_ := Aside0.mk (blkb_ BK130 hb); have n1_ := Aside0.mk (blkb_ BK135 hb); have n2_ := Aside0.mk (blkb_ BK138 hb); have n3_ := Aside0.mk (below_step bl_ hb); clear BK130; clear BK135; clear BK138; clear HB; have BK130 := n0_; have BK135 := n1_; have BK138 := n2_; have HB := n3_; clear n0_ n1_ n2_ n3_; (try clear hb); (try clear hb2); (try clear hk); (try clear hi); obtain ⟨hcz68_0, hcz68_1, hfz68_0, hfz68_1⟩ := cellsF2 BK138.out; have p142 : 0 ≤ (x7_6 : Int) := of_decide_eq_true as_; have q142 : x7_6 < (((rd_T104 ((rd_T102 l0_3 x3_2).f2) x5_4).f1).length : Int) := of_decide_eq_true as_; obtain ⟨ad142, A142_1, c142_1, e142, hx142_0, hx142_1, hl142_1, hi142_1⟩ := at_T88 HR137_1.out x7_6 p142 q142; obtain rfl : ad140 = ad142 := (by injection e142); replace hx142_0 := (HB.out.cell (World.block_lt_of_cell? _ _ hx142_0)).trans hx142_0; replace hx142_1 := (HB.out.cell (World.block_lt_of_cell? _ _ hx142_1)).trans hx142_1; have HR142_1 := Aside0.mk hi142_1; have HC142_1 := Aside0.mk hl142_1; clear hi142_1 hl142_1; replace p142 := eq_true p142; replace q142 := eq_true q142) | (go_at_call 57; (with_reducible refine (spec_l03Own.calls ((rd_T88 ((rd_T104 ((rd_T102 l0_3 x3_2).f2) x5_4).f1) x7_6).f0) true _ A62.out).mono ?_); rintro e w' ⟨rfl, ⟨nd, rfl⟩⟩))
                                                go_ret
                                                exact ⟨au5_3, bl_⟩
                                              · replace c63 := Bool.eq_false_iff.mpr c63
                                                subst c63
                                                have H1 : (spec_IxRight.l2 k6 x3_2 x5_4 (wrap64 (x7_6 + 1)) a0_0 a0_1 a0_2 l0_3 ((rd_T102 l0_3 x3_2).f0) ((rd_T102 l0_3 x3_2).f1) ((rd_T102 l0_3 x3_2).f2) ((rd_T104 ((rd_T102 l0_3 x3_2).f2) x5_4).f0) ((rd_T104 ((rd_T102 l0_3 x3_2).f2) x5_4).f1)) = some r := by rw [if_neg (show ¬ (false = true) by decide)] at H; exact H
                                                clear H
                                                have H := H1
                                                clear H1
                                                have H' := Aside0.mk H
                                                clear H
                                                have hnb69 := NB138_130.out
                                                have hnc69 := NB130_138.out
                                                have hnb70 := NB138_135.out
                                                have hnc70 := NB135_138.out
                                                obtain ⟨hcz71_0, hcz71_1, hfz71_0, hfz71_1⟩ := cellsF2 BK138.out
                                                have p140 : 0 ≤ (x7_6 : Int) := of_decide_eq_true as_
                                                have q140 : x7_6 < (((rd_T104 ((rd_T102 l0_3 x3_2).f2) x5_4).f1).length : Int) := of_decide_eq_true as_
                                                obtain ⟨ad140, A140_1, c140_1, e140, hx140_0, hx140_1, hl140_1, hi140_1⟩ := at_T88 HR137_1.out x7_6 p140 q140
                                                cases e140
                                                replace hx140_0 := (HB.out.cell (World.block_lt_of_cell? _ _ hx140_0)).trans hx140_0
                                                replace hx140_1 := (HB.out.cell (World.block_lt_of_cell? _ _ hx140_1)).trans hx140_1
                                                have HR140_1 := Aside0.mk hi140_1
                                                have HC140_1 := Aside0.mk hl140_1
                                                clear hi140_1 hl140_1
                                                replace p140 := eq_true p140
                                                replace q140 := eq_true q140
                                                go_wp2_with (first | (go_at_call 44; (with_reducible refine (spec_SegmentRight.calls k6 ((rd_T88 ((rd_T104 ((rd_T102 l0_3 x3_2).f2) x5_4).f1) x7_6).f0) _ _ ((rd_T88 ((rd_T104 ((rd_T102 l0_3 x3_2).f2) x5_4).f1) x7_6).f1) true _ ?side1 ?side2 A60.out).mono ?_); (case side1 => exact au5_6); (case side2 => exact HC140_1.out); rintro e w72 ⟨rfl, hb⟩; have n0_ := Aside0.mk (blkb_ BK130 hb); have n1_ := Aside0.mk (blkb_ BK135 hb); have n2_ := Aside0.mk (blkb_ BK138 hb); have n3_ := Aside0.mk (below_step bl_ hb); clear BK130; clear BK135; clear BK138; clear HB; have BK130 := n0_; have BK135 := n1_; have BK138 := n2_; have HB := n3_; clear n0_ n1_ n2_ n3_; (try clear hb); (try clear hb2); (try clear hk); (try clear hi); obtain ⟨hcz73_0, hcz73_1, hfz73_0, hfz73_1⟩ := cellsF2 BK138.out; have p142 : 0 ≤ (x7_6 : Int) := of_decide_eq_true as_; have q142 : x7_6 < (((rd_T104 ((rd_T102 l0_3 x3_2).f2) x5_4).f1).length : Int) := of_decide_eq_true as_; obtain ⟨ad142, A142_1, c142_1, e142, hx142_0, hx142_1, hl142_1, hi142_1⟩ := at_T88 HR137_1.out x7_6 p142 q142; obtain rfl : ad140 = ad142 := (by injection e142); replace hx142_0 := (HB.out.cell (World.block_lt_of_cell? _ _ hx142_0)).trans hx142_0; replace hx142_1 := (HB.out.cell (World.block_lt_of_cell? _ _ hx142_1)).trans hx142_1; have HR142_1 := Aside0.mk hi142_1; have HC142_1 := Aside0.mk hl142_1; clear hi142_1 hl142_1; replace p142 := eq_true p142; replace q142 := eq_true q142) | (go_at_call 57; (with_reducible refine (spec_l03Own.calls ((rd_T88 ((rd_T104 ((rd_T102 l0_3 x3_2).f2) x5_4).f1) x7_6).f0) false _ A62.out).mono ?_); rintro e w' ⟨rfl, ⟨nd, rfl⟩⟩))
                                                go_roundg k6
                                                case measure => have := HJ1.out; have := HK2.out; have := HJ18.out; have := HK4.out; have := HJ41.out; have := HK6.out; omega
                                                case rel => exact ⟨(wrap64 (x7_6 + 1)), er_, H', ⟨au5_9⟩, ⟨bk_ BK130⟩, ⟨bk_ BK135⟩, ⟨bk_ BK138⟩, ⟨bl_⟩⟩
                                            · replace c61 := Bool.eq_false_iff.mpr c61
                                              subst c61
                                              have H1 : (some false) = some r := by rw [if_neg (show ¬ (false = true) by decide)] at H; exact H
                                              clear H
                                              have H := H1
                                              clear H1
                                              obtain rfl := Option.some.inj H
                                              have hnb74 := NB138_130.out
                                              have hnc74 := NB130_138.out
                                              have hnb75 := NB138_135.out
                                              have hnc75 := NB135_138.out
                                              obtain ⟨hcz76_0, hcz76_1, hfz76_0, hfz76_1⟩ := cellsF2 BK138.out
                                              have p140 : 0 ≤ (x7_6 : Int) := of_decide_eq_true as_
                                              have q140 : x7_6 < (((rd_T104 ((rd_T102 l0_3 x3_2).f2) x5_4).f1).length : Int) := of_decide_eq_true as_
                                              obtain ⟨ad140, A140_1, c140_1, e140, hx140_0, hx140_1, hl140_1, hi140_1⟩ := at_T88 HR137_1.out x7_6 p140 q140
                                              cases e140
                                              replace hx140_0 := (HB.out.cell (World.block_lt_of_cell? _ _ hx140_0)).trans hx140_0
                                              replace hx140_1 := (HB.out.cell (World.block_lt_of_cell? _ _ hx140_1)).trans hx140_1
                                              have HR140_1 := Aside0.mk hi140_1
                                              have HC140_1 := Aside0.mk hl140_1
                                              clear hi140_1 hl140_1
                                              replace p140 := eq_true p140
                                              replace q140 := eq_true q140
                                              go_wp2_with (first | (go_at_call 44; (with_reducible refine (spec_SegmentRight.calls k6 ((rd_T88 ((rd_T104 ((rd_T102 l0_3 x3_2).f2) x5_4).f1) x7_6).f0) _ _ ((rd_T88 ((rd_T104 ((rd_T102 l0_3 x3_2).f2) x5_4).f1) x7_6).f1) false _ ?side1 ?side2 A60.out).mono ?_); (case side1 => exact au5_6); (case side2 => exact HC140_1.out); rintro e w77 ⟨rfl, hb⟩; have n0_ := Aside0.mk (blkb_ BK130 hb); have n1_ := Aside0.mk (blkb_ BK135 hb); have n2_ := Aside0.mk (blkb_ BK138 hb); have n3_ := Aside0.mk (below_step bl_ hb); clear BK130; clear BK135; clear BK138; clear HB; have BK130 := n0_; have BK135 := n1_; have BK138 := n2_; have HB := n3_; clear n0_ n1_ n2_ n3_; (try clear hb); (try clear hb2); (try clear hk); (try clear hi)))
                                              go_ret
                                              exact ⟨au5_3, bl_⟩
                                          · rw [if_neg c59] at H
                                            exact absurd H (by simp)
                                        · rw [if_neg c58] at H
                                          have c58b0 : decide (x7_6 < (((rd_T104 ((rd_T102 l0_3 x3_2).f2) x5_4).f1).length : Int)) = false := decide_eq_false c58
                                          clear c58
                                          have H' := Aside0.mk H
                                          clear H
                                          have hnb78 := NB138_130.out
                                          have hnc78 := NB130_138.out
                                          have hnb79 := NB138_135.out
                                          have hnc79 := NB135_138.out
                                          obtain ⟨hcz80_0, hcz80_1, hfz80_0, hfz80_1⟩ := cellsF2 BK138.out
                                          go_wp2
                                          go_roundg k6
                                          case measure => have := HJ1.out; have := HK2.out; have := HJ18.out; have := HK4.out; have := HJ41.out; have := HK6.out; omega
                                          case rel => exact ⟨(wrap64 (x5_4 + 1)), er_, H', ⟨au5_9⟩, ⟨bk_ BK130⟩, ⟨bk_ BK135⟩, ⟨bl_⟩⟩
                            · rw [if_neg c41] at H
                              exact absurd H (by simp)
                          · rw [if_neg c40] at H
                            have c40b0 : decide (x5_4 < (((rd_T102 l0_3 x3_2).f2).length : Int)) = false := decide_eq_false c40
                            clear c40
                            have H' := Aside0.mk H
                            clear H
                            have hnb81 := NB135_130.out
                            have hnc81 := NB130_135.out
                            obtain ⟨hcz82_0, hcz82_1, hcz82_2, hfz82_0, hfz82_1, hfz82_2⟩ := cellsF3 BK135.out
                            go_wp2
                            go_roundg k4
                            case measure => have := HJ1.out; have := HK2.out; have := HJ18.out; have := HK4.out; omega
                            case rel => exact ⟨(wrap64 (x3_2 + 1)), er_, H', ⟨by have := HJ1.out; have := HK2.out; have := HJ18.out; have := HK4.out; omega⟩, ⟨bk_ BK130⟩, ⟨bl_⟩⟩
              · rw [if_neg c18] at H
                exact absurd H (by simp)
            · rw [if_neg c17] at H
              have c17b0 : decide (x3_2 < (l0_3.length : Int)) = false := decide_eq_false c17
              clear c17
              obtain rfl := Option.some.inj H
              obtain ⟨hcz83_0, hcz83_1, hcz83_2, hcz83_3, hfz83_0, hfz83_1, hfz83_2, hfz83_3⟩ := cellsF4 BK130.out
              go_wp2
              go_ret
              exact ⟨au5_3, bl_⟩

end Go.Proofs.Ytlghcbmkhdibdaa.PFnExactIxRight
