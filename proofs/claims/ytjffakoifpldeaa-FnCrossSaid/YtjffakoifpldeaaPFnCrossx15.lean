-- printed by a program of this session (wip/xp/xprint.py) out of the translation; Lean checks it
import Derived.Test.YtjffakoifpldeaaPFnCrossx0
import Derived.Test.YtjffakoifpldeaaPFnCrossx3
import Derived.Test.YtjffakoifpldeaaPFnCrossx5
import Derived.Test.YtjffakoifpldeaaPFnCrossx6
import Derived.Test.YtjffakoifpldeaaPFnCrossx7
import Derived.Test.YtjffakoifpldeaaPFnCrossx8
import Derived.Test.YtjffakoifpldeaaPFnCrossx11
import Derived.Test.YtjffakoifpldeaaPFnCrossx13
import Derived.Test.YtjffakoifpldeaaPFnCrossx14
namespace Go.Proofs.Ytjffakoifpldeaa.PFnCross
open Go.RowKit Go.Proofs.YtjffakoifpldeaaW.PrintWords Go.Proofs.YtjffakoifpldeaaW.PrintLast Go.Proofs.YtjffakoifpldeaaW.PrintMore
attribute [local go_sem] max2_int min2_int max_two min_two max_three min_three max_four min_four   -- for this text's walks alone
set_option linter.unusedVariables false
set_option linter.unusedSimpArgs false

theorem au15_0 {p : Prop} (h : p := by (with_reducible repeat (first | refine blk_drewN ?_ _ | refine blk_drew ?_ | refine blk_alloc ?_ _)); refine blk_put (cs := #[.string ((rd_T37 t384 x7_2).f0), .string ((rd_T37 t384 x7_2).f1), .string (⟨#[]⟩ : ByteArray)]) ?_ 2 _ rfl; (with_reducible repeat (first | refine blk_drewN ?_ _ | refine blk_drew ?_ | refine blk_alloc ?_ _)); refine blk_put (cs := #[.string ((rd_T37 t384 x7_2).f0), .string (⟨#[]⟩ : ByteArray), .string (⟨#[]⟩ : ByteArray)]) ?_ 1 _ rfl; (with_reducible repeat (first | refine blk_drewN ?_ _ | refine blk_drew ?_ | refine blk_alloc ?_ _)); refine blk_put (cs := #[.string (⟨#[]⟩ : ByteArray), .string (⟨#[]⟩ : ByteArray), .string (⟨#[]⟩ : ByteArray)]) ?_ 0 _ rfl; (with_reducible repeat (first | refine blk_drewN ?_ _ | refine blk_drew ?_ | refine blk_alloc ?_ _)); exact BK415.out) : p := h
theorem au15_1 {p : Prop} (h : p := by (with_reducible repeat (first | apply Kd.R_alloc | apply Kd.R_drewN | apply Kd.R_drew)); exact (Kd.R_mono (Kd.R_far (p := ⟨gb376, 2, none⟩) (Kd.R_far (p := ⟨gb376, 1, none⟩) (Kd.R_far (p := ⟨gb376, 0, none⟩) (Kd.R_mono HO372.out (fun k_ hk => (⟨hk, hk.2⟩ : _ ∧ k_ ≠ gb376))) (fun _ hk => hk.2) (.string t373)) (fun _ hk => hk.2) (.string t374)) (fun _ hk => hk.2) (.string t375)) (fun _ h_ => h_.1))) : p := h
theorem au15_2 {p : Prop} (h : p := by (with_reducible repeat (first | refine blk_drewN ?_ _ | refine blk_drew ?_ | refine blk_alloc ?_ _)); refine blk_far ?_ NB376_415.out _; (with_reducible repeat (first | refine blk_drewN ?_ _ | refine blk_drew ?_ | refine blk_alloc ?_ _)); refine blk_far ?_ NB376_415.out _; (with_reducible repeat (first | refine blk_drewN ?_ _ | refine blk_drew ?_ | refine blk_alloc ?_ _)); refine blk_far ?_ NB376_415.out _; (with_reducible repeat (first | refine blk_drewN ?_ _ | refine blk_drew ?_ | refine blk_alloc ?_ _)); exact BK376.out) : p := h
theorem au15_3 {p : Prop} (h : p := by (with_reducible repeat (first | apply Kd.R_alloc | apply Kd.R_drewN | apply Kd.R_drew)); exact Kd.R_mono (Kd.R_far (p := ⟨gb415, 2, none⟩) (Kd.R_far (p := ⟨gb415, 1, none⟩) (Kd.R_far (p := ⟨gb415, 0, none⟩) (Kd.R_mono HO_5.out (fun k_ hk => (⟨hk, hk.2⟩ : _ ∧ k_ ≠ gb415))) (fun _ hk => hk.2) (.string ((rd_T37 t384 x7_2).f0))) (fun _ hk => hk.2) (.string ((rd_T37 t384 x7_2).f1))) (fun _ hk => hk.2) (.string ((rd_T37 t384 x7_2).f2))) (fun _ hk => ⟨hk.1.1, hk.1.2⟩)) : p := h
theorem au15_4 {p : Prop} (h : p := by rintro w' ⟨s0, s1, s2⟩; go_simp; with_reducible rfl) : p := h
theorem au15_5 {p : Prop} (h : p := by repeat (first | exact (Kd.R_reads' HO_5.out).2.2 | (with_reducible refine Kd.C_alloc ?_ _) | (with_reducible refine Kd.C_drewN ?_ _) | (with_reducible refine Kd.C_drew ?_))) : p := h
theorem au15_6 {p : Prop} (h : p := by (with_reducible repeat (first | refine blk_drewN ?_ _ | refine blk_drew ?_ | refine blk_alloc ?_ _)); refine blk_put (cs := #[.string t373, .string t374, .string (⟨#[]⟩ : ByteArray)]) ?_ 2 _ rfl; (with_reducible repeat (first | refine blk_drewN ?_ _ | refine blk_drew ?_ | refine blk_alloc ?_ _)); refine blk_put (cs := #[.string t373, .string (⟨#[]⟩ : ByteArray), .string (⟨#[]⟩ : ByteArray)]) ?_ 1 _ rfl; (with_reducible repeat (first | refine blk_drewN ?_ _ | refine blk_drew ?_ | refine blk_alloc ?_ _)); refine blk_put (cs := #[.string (⟨#[]⟩ : ByteArray), .string (⟨#[]⟩ : ByteArray), .string (⟨#[]⟩ : ByteArray)]) ?_ 0 _ rfl; (with_reducible repeat (first | refine blk_drewN ?_ _ | refine blk_drew ?_ | refine blk_alloc ?_ _)); exact BK376.out) : p := h
theorem au15_7 {p : Prop} (h : p := by exact (fun k_ hk => ⟨Kd.fresh' (Kd.R_lt (rk_ HO_5)) k_ hk, Kd.freshB (g := gb376) (o := .cells #[.string t373, .string t374, .string t375] 37 (0, 0)) (bk_ BK376) k_ hk, Kd.freshB (g := gb415) (o := .cells #[.string ((rd_T37 t384 x7_2).f0), .string ((rd_T37 t384 x7_2).f1), .string ((rd_T37 t384 x7_2).f2)] 37 (0, 0)) (bk_ BK415) k_ hk⟩)) : p := h
theorem au15_8 {p : Prop} (h : p := by first | rfl | (simp [errW_none, errW_some] <;> rfl) | (simp [*, errW_none, errW_some] <;> rfl)) : p := h
theorem au15_9 {p : Prop} (h : p := by exact (fun k_ hk => ⟨Kd.fresh' (Kd.R_lt (rk_ HO_5)) k_ hk, Kd.fresh' (Kd.R_lt (rk_ HO421)) k_ hk, Kd.freshB (g := gb376) (o := .cells #[.string t373, .string t374, .string t375] 37 (0, 0)) (bk_ BK376) k_ hk, Kd.freshB (g := gb415) (o := .cells #[.string ((rd_T37 t384 x7_2).f0), .string ((rd_T37 t384 x7_2).f1), .string ((rd_T37 t384 x7_2).f2)] 37 (0, 0)) (bk_ BK415) k_ hk⟩)) : p := h
theorem au15_10 {p : Prop} (h : p := by repeat (first | exact (Kd.R_reads' HO386.out).2.2 | (with_reducible refine Kd.C_alloc ?_ _) | (with_reducible refine Kd.C_drewN ?_ _) | (with_reducible refine Kd.C_drew ?_))) : p := h
theorem au15_11 {p : Prop} (h : p := by repeat (first | exact (Kd.R_reads' HO421.out).2.2 | (with_reducible refine Kd.C_alloc ?_ _) | (with_reducible refine Kd.C_drewN ?_ _) | (with_reducible refine Kd.C_drew ?_))) : p := h
theorem au15_12 {p : Prop} (h : p := by exact (by (with_reducible repeat (first | apply Kd.R_alloc | apply Kd.R_drewN | apply Kd.R_drew)); exact Kd.R_mono HO418.out (fun _ hk => ⟨hk.1.1.2, ⟨hk.1.2, hk.2⟩⟩))) : p := h
theorem au15_13 {p : Prop} (h : p := by exact (by (with_reducible repeat (first | apply Kd.R_alloc | apply Kd.R_drewN | apply Kd.R_drew)); exact Kd.R_mono HO425.out (fun _ hk => ⟨hk.1.1.1.2, ⟨hk.1.1.2, ⟨hk.1.2, hk.2⟩⟩⟩))) : p := h
theorem au15_14 {p : Prop} (h : p := by repeat (first | exact (Kd.R_reads' HO372.out).2.2 | (with_reducible refine Kd.C_alloc ?_ _) | (with_reducible refine Kd.C_drewN ?_ _) | (with_reducible refine Kd.C_drew ?_))) : p := h
theorem au15_15 {p : Prop} (h : p := by repeat (first | exact (Kd.R_reads' HO389.out).2.2 | (with_reducible refine Kd.C_alloc ?_ _) | (with_reducible refine Kd.C_drewN ?_ _) | (with_reducible refine Kd.C_drew ?_))) : p := h
theorem au15_16 {p : Prop} (h : p := by repeat (first | exact (Kd.R_reads' HO428.out).2.2 | (with_reducible refine Kd.C_alloc ?_ _) | (with_reducible refine Kd.C_drewN ?_ _) | (with_reducible refine Kd.C_drew ?_))) : p := h
theorem au15_17 {p : Prop} (h : p := by (with_reducible repeat (first | apply Kd.R_alloc | apply Kd.R_drewN | apply Kd.R_drew)); exact Kd.R_mono HO_5.out (fun _ hk => ⟨⟨hk.1.2, ⟨hk.1.1.1, hk.1.1.2⟩⟩, hk.2⟩)) : p := h
theorem au15_18 {p : Prop} (h : p := by repeat (first | exact HR0.out | (with_reducible refine Kd.C_alloc ?_ _) | (with_reducible refine Kd.C_drewN ?_ _) | (with_reducible refine Kd.C_drew ?_))) : p := h

/-! ### laws_FnCross: function 8 -/
mutual
def laws_FnCross.j0 : Nat → List (S37) → Bool → ByteArray → ByteArray → ByteArray → Option (Bool)
  | 0, _, _, _, _, _ => none
  | k + 1, x5, x39, x377000, x377001, x377002 => if x39 = true then (some false) else (laws_FnCross.l0 k x5 0 x377000 x377001 x377002)
def laws_FnCross.l0 : Nat → List (S37) → Int → ByteArray → ByteArray → ByteArray → Option (Bool)
  | 0, _, _, _, _, _ => none
  | k + 1, x5, x7, x377000, x377001, x377002 => if x7 < (x5.length : Int) then (if 0 ≤ x7 then ((some (([] : List (S37)) : List (S37))).bind fun y416 => (if y416.length + x5.length < 2932031007402 then ((impl_CrossOwn.f k (y416 ++ x5) ((rd_T37 x5 x7).f0) ((rd_T37 x5 x7).f1)).bind fun t422 => (if t422.toList = ((rd_T37 x5 x7).f2).toList then ((some (([] : List (S37)) : List (S37))).bind fun y423 => (if y423.length + x5.length < 2932031007402 then ((impl_CrossTheirs.f k (y423 ++ x5) ((rd_T37 x5 x7).f0) ((rd_T37 x5 x7).f2)).bind fun t429 => (if t429.toList = ((rd_T37 x5 x7).f1).toList then (laws_FnCross.l0 k x5 (wrap64 (x7 + 1)) x377000 x377001 x377002) else (some false))) else (none))) else (some false))) else (none))) else (none)) else ((some (([] : List (S37)) : List (S37))).bind fun y398 => (if y398.length + x5.length < 2932031007402 then ((impl_CrossDrop.f k (y398 ++ x5) x377000 x377001).bind fun t404 => ((some (([] : List (S37)) : List (S37))).bind fun y407 => (if y407.length + t404.length < 2932031007402 then ((impl_CrossOwn.f k (y407 ++ t404) x377000 x377001).bind fun t413 => (some (t413.toList == x377001.toList))) else (none)))) else (none)))
end
def laws_FnCross.f (k : Nat) (l0 : List Int) : Option (Bool) := if (l0.length : Int) > 1048576 then (some true) else ((spec_DrawCrossPut.f k l0).bind fun bt370 => ((spec_CrossRight.f k bt370.1).bind fun t377 => (if t377 = true then ((some (([] : List (S37)) : List (S37))).bind fun y378 => (if y378.length + bt370.1.length < 2932031007402 then ((impl_CrossPut.f k (y378 ++ bt370.1) bt370.2.1 bt370.2.2.1 bt370.2.2.2).bind fun t384 => ((spec_CrossPut.f k bt370.1 bt370.2.1 bt370.2.2.1 bt370.2.2.2).bind fun t387 => ((laws_lwCrosses.f k t384 t387).bind fun t390 => (if t390 = true then ((some (([] : List (S37)) : List (S37))).bind fun y391 => (if y391.length + t384.length < 2932031007402 then ((impl_CrossRight.f k (y391 ++ t384)).bind fun t397 => (laws_FnCross.j0 k t384 (!t397) bt370.2.1 bt370.2.2.1 bt370.2.2.2)) else (none))) else (laws_FnCross.j0 k t384 true bt370.2.1 bt370.2.2.1 bt370.2.2.2))))) else (none))) else (some true))))
theorem laws_FnCross.mono_l : ∀ k, (∀ y0 y1 y2 y3 y4, LeO (laws_FnCross.j0 k y0 y1 y2 y3 y4) (laws_FnCross.j0 (k + 1) y0 y1 y2 y3 y4)) ∧ (∀ y0 y1 y2 y3 y4, LeO (laws_FnCross.l0 k y0 y1 y2 y3 y4) (laws_FnCross.l0 (k + 1) y0 y1 y2 y3 y4))
  | 0 => ⟨fun _ _ _ _ _ r h => by simp [laws_FnCross.j0] at h, fun _ _ _ _ _ r h => by simp [laws_FnCross.l0] at h⟩
  | k + 1 => by
    obtain ⟨ih0, ih1⟩ := laws_FnCross.mono_l k
    refine ⟨?_, ?_⟩
    · intro y0 y1 y2 y3 y4
      unfold laws_FnCross.j0
      repeat' first
      | (with_reducible exact ih0 _ _ _ _ _)
      | (with_reducible exact ih1 _ _ _ _ _)
      | (with_reducible exact impl_CrossDrop.mono _ _ _ _)
      | (with_reducible exact impl_CrossOwn.mono _ _ _ _)
      | (with_reducible exact impl_CrossPut.mono _ _ _ _ _)
      | (with_reducible exact impl_CrossRight.mono _ _)
      | (with_reducible exact impl_CrossTheirs.mono _ _ _ _)
      | (with_reducible exact laws_lwCrosses.mono _ _ _)
      | (with_reducible exact spec_CrossPut.mono _ _ _ _ _)
      | (with_reducible exact spec_CrossRight.mono _ _)
      | (with_reducible exact spec_DrawCrossPut.mono _ _)
      | (with_reducible exact LeO.refl _)
      | (with_reducible exact LeO.none _)
      | (with_reducible refine LeO.ite ?_ ?_)
      | (with_reducible refine LeO.bind ?_ (fun _ => ?_))
      | exact ih0 _ _ _ _ _
      | exact ih1 _ _ _ _ _
      | exact impl_CrossDrop.mono _ _ _ _
      | exact impl_CrossOwn.mono _ _ _ _
      | exact impl_CrossPut.mono _ _ _ _ _
      | exact impl_CrossRight.mono _ _
      | exact impl_CrossTheirs.mono _ _ _ _
      | exact laws_lwCrosses.mono _ _ _
      | exact spec_CrossPut.mono _ _ _ _ _
      | exact spec_CrossRight.mono _ _
      | exact spec_DrawCrossPut.mono _ _
      | exact LeO.none _
      | refine LeO.ite ?_ ?_
      | refine LeO.bind ?_ (fun _ => ?_)
    · intro y0 y1 y2 y3 y4
      unfold laws_FnCross.l0
      repeat' first
      | (with_reducible exact ih0 _ _ _ _ _)
      | (with_reducible exact ih1 _ _ _ _ _)
      | (with_reducible exact impl_CrossDrop.mono _ _ _ _)
      | (with_reducible exact impl_CrossOwn.mono _ _ _ _)
      | (with_reducible exact impl_CrossPut.mono _ _ _ _ _)
      | (with_reducible exact impl_CrossRight.mono _ _)
      | (with_reducible exact impl_CrossTheirs.mono _ _ _ _)
      | (with_reducible exact laws_lwCrosses.mono _ _ _)
      | (with_reducible exact spec_CrossPut.mono _ _ _ _ _)
      | (with_reducible exact spec_CrossRight.mono _ _)
      | (with_reducible exact spec_DrawCrossPut.mono _ _)
      | (with_reducible exact LeO.refl _)
      | (with_reducible exact LeO.none _)
      | (with_reducible refine LeO.ite ?_ ?_)
      | (with_reducible refine LeO.bind ?_ (fun _ => ?_))
      | exact ih0 _ _ _ _ _
      | exact ih1 _ _ _ _ _
      | exact impl_CrossDrop.mono _ _ _ _
      | exact impl_CrossOwn.mono _ _ _ _
      | exact impl_CrossPut.mono _ _ _ _ _
      | exact impl_CrossRight.mono _ _
      | exact impl_CrossTheirs.mono _ _ _ _
      | exact laws_lwCrosses.mono _ _ _
      | exact spec_CrossPut.mono _ _ _ _ _
      | exact spec_CrossRight.mono _ _
      | exact spec_DrawCrossPut.mono _ _
      | exact LeO.none _
      | refine LeO.ite ?_ ?_
      | refine LeO.bind ?_ (fun _ => ?_)
theorem laws_FnCross.mono : ∀ a0 k, LeO (laws_FnCross.f k a0) (laws_FnCross.f (k + 1) a0) := by
  intro a0 k
  obtain ⟨ih0, ih1⟩ := laws_FnCross.mono_l k
  unfold laws_FnCross.f
  repeat' first
      | (with_reducible exact ih0 _ _ _ _ _)
      | (with_reducible exact ih1 _ _ _ _ _)
      | (with_reducible exact impl_CrossDrop.mono _ _ _ _)
      | (with_reducible exact impl_CrossOwn.mono _ _ _ _)
      | (with_reducible exact impl_CrossPut.mono _ _ _ _ _)
      | (with_reducible exact impl_CrossRight.mono _ _)
      | (with_reducible exact impl_CrossTheirs.mono _ _ _ _)
      | (with_reducible exact laws_lwCrosses.mono _ _ _)
      | (with_reducible exact spec_CrossPut.mono _ _ _ _ _)
      | (with_reducible exact spec_CrossRight.mono _ _)
      | (with_reducible exact spec_DrawCrossPut.mono _ _)
      | (with_reducible exact LeO.refl _)
      | (with_reducible exact LeO.none _)
      | (with_reducible refine LeO.ite ?_ ?_)
      | (with_reducible refine LeO.bind ?_ (fun _ => ?_))
      | exact ih0 _ _ _ _ _
      | exact ih1 _ _ _ _ _
      | exact impl_CrossDrop.mono _ _ _ _
      | exact impl_CrossOwn.mono _ _ _ _
      | exact impl_CrossPut.mono _ _ _ _ _
      | exact impl_CrossRight.mono _ _
      | exact impl_CrossTheirs.mono _ _ _ _
      | exact laws_lwCrosses.mono _ _ _
      | exact spec_CrossPut.mono _ _ _ _ _
      | exact spec_CrossRight.mono _ _
      | exact spec_DrawCrossPut.mono _ _
      | exact LeO.none _
      | refine LeO.ite ?_ ?_
      | refine LeO.bind ?_ (fun _ => ?_)
def laws_FnCross.T14 : Bool × List (List Nat × List Nat) := (true, [([], []), ([], []), ([0, 1], [0, 1]), ([], []), ([3], [3]), ([], []), ([5], [5]), ([2, 4, 6, 2], [2, 4, 6]), ([], []), ([8], [8]), ([7, 9], [7, 9]), ([10, 7], [10]), ([11], [11]), ([11], [11]), ([12, 13, 11, 11], [11, 12, 13]), ([11], [11]), ([15, 11], [11, 15]), ([11], [11]), ([17, 11], [11, 17]), ([14, 16, 18, 14, 11], [11, 14, 16, 18]), ([11], [11]), ([20, 11], [11, 20]), ([19, 21, 11], [11, 19, 21]), ([11, 22], [11, 22])])
def laws_FnCross.B14 : List Nat := [0, 0, 3, 0, 8, 0, 32, 127, 0, 256, 1023, 2047, 4095, 4095, 16383, 4095, 36863, 4095, 135167, 524287, 4095, 1052671, 4194303, 8388607]
theorem laws_FnCross.tab14 : rtab .any (opsOf Try.f8 14) = laws_FnCross.T14 := by kernel_rfl
theorem laws_FnCross.bits14 : waitsOk laws_FnCross.T14.2 laws_FnCross.B14 = true := by kernel_rfl
def laws_FnCross.T16 : Bool × List (List Nat × List Nat) := (true, [([], []), ([], []), ([0, 1], [0, 1]), ([], []), ([3], [3]), ([], []), ([5], [5]), ([2, 4, 6, 2], [2, 4, 6]), ([7, 7, 0, 1, 2, 3, 4, 5, 6, 7], [7])])
def laws_FnCross.B16 : List Nat := [0, 0, 3, 0, 8, 0, 32, 127, 255]
theorem laws_FnCross.tab16 : rtab .any (opsOf Try.f8 16) = laws_FnCross.T16 := by kernel_rfl
theorem laws_FnCross.bits16 : waitsOk laws_FnCross.T16.2 laws_FnCross.B16 = true := by kernel_rfl
def laws_FnCross.T17 : Bool × List (List Nat × List Nat) := (true, [([], []), ([], []), ([0, 1], [0, 1]), ([], []), ([3], [3]), ([], []), ([5], [5]), ([2, 4, 6, 2], [2, 4, 6]), ([], []), ([8], [8]), ([7, 9], [7, 9]), ([10, 7, 0, 1, 2, 3, 4, 5, 6, 7, 8, 9, 10], [10])])
def laws_FnCross.B17 : List Nat := [0, 0, 3, 0, 8, 0, 32, 127, 0, 256, 1023, 2047]
theorem laws_FnCross.tab17 : rtab .any (opsOf Try.f8 17) = laws_FnCross.T17 := by kernel_rfl
theorem laws_FnCross.bits17 : waitsOk laws_FnCross.T17.2 laws_FnCross.B17 = true := by kernel_rfl
set_option maxHeartbeats 8000000 in
set_option maxRecDepth 100000 in
theorem laws_FnCross.calls (k : Nat) (A0 : Option Addr) (c0 : Nat) (l0 : List Int) (r : Bool) (w : World) (hr0 : Kd.C (Kd.int .u8) w A0 l0.length l0) (hc0 : l0.length ≤ c0) (h : laws_FnCross.f k l0 = some r) :
    Calls Try.prog 8 #[.slice A0 l0.length c0] w fun e w' => e = .returned (.bool r) ∧ Below w.heap.size w w' := by
  have hu37 := Try.underlying37
  have HR0 := Aside0.mk hr0
  have HC0 := Aside0.mk hc0
  clear hr0 hc0
  have HB := Aside0.mk (Below.refl w.heap.size w)
  have H : (if (l0.length : Int) > 1048576 then (some true) else ((spec_DrawCrossPut.f k l0).bind fun bt370 => ((spec_CrossRight.f k bt370.1).bind fun t377 => (if t377 = true then ((some (([] : List (S37)) : List (S37))).bind fun y378 => (if y378.length + bt370.1.length < 2932031007402 then ((impl_CrossPut.f k (y378 ++ bt370.1) bt370.2.1 bt370.2.2.1 bt370.2.2.2).bind fun t384 => ((spec_CrossPut.f k bt370.1 bt370.2.1 bt370.2.2.1 bt370.2.2.2).bind fun t387 => ((laws_lwCrosses.f k t384 t387).bind fun t390 => (if t390 = true then ((some (([] : List (S37)) : List (S37))).bind fun y391 => (if y391.length + t384.length < 2932031007402 then ((impl_CrossRight.f k (y391 ++ t384)).bind fun t397 => (laws_FnCross.j0 k t384 (!t397) bt370.2.1 bt370.2.2.1 bt370.2.2.2)) else (none))) else (laws_FnCross.j0 k t384 true bt370.2.1 bt370.2.2.1 bt370.2.2.2))))) else (none))) else (some true))))) = some r := h
  clear h
  by_cases c2 : (l0.length : Int) > 1048576
  · rw [if_pos c2] at H
    have c2b0 : decide (1048576 < (l0.length : Int)) = true := decide_eq_true c2
    have c2b1 : decide (1048576 < l0.length) = true := decide_eq_true (by omega)
    clear c2
    obtain rfl := Option.some.inj H
    go_enter Try.func8, Try.ntmps8
    go_wp2
    go_ret
    exact ⟨au15_8, bl_⟩
  · rw [if_neg c2] at H
    have c2b0 : decide (1048576 < (l0.length : Int)) = false := decide_eq_false c2
    have c2b1 : decide (1048576 < l0.length) = false := decide_eq_false (by omega)
    clear c2
    replace H := Option.bind_eq_some_iff.mp H
    obtain ⟨⟨t370, t373, t374, t375⟩, A30, H⟩ := H
    replace H : ((spec_CrossRight.f k t370).bind fun t377 => (if t377 = true then ((some (([] : List (S37)) : List (S37))).bind fun y378 => (if y378.length + t370.length < 2932031007402 then ((impl_CrossPut.f k (y378 ++ t370) t373 t374 t375).bind fun t384 => ((spec_CrossPut.f k t370 t373 t374 t375).bind fun t387 => ((laws_lwCrosses.f k t384 t387).bind fun t390 => (if t390 = true then ((some (([] : List (S37)) : List (S37))).bind fun y391 => (if y391.length + t384.length < 2932031007402 then ((impl_CrossRight.f k (y391 ++ t384)).bind fun t397 => (laws_FnCross.j0 k t384 (!t397) t373 t374 t375)) else (none))) else (laws_FnCross.j0 k t384 true t373 t374 t375))))) else (none))) else (some true))) = some r := H
    have A3 := Aside0.mk A30
    clear A30
    replace H := Option.bind_eq_some_iff.mp H
    obtain ⟨t377, A40, H⟩ := H
    replace H : (if t377 = true then ((some (([] : List (S37)) : List (S37))).bind fun y378 => (if y378.length + t370.length < 2932031007402 then ((impl_CrossPut.f k (y378 ++ t370) t373 t374 t375).bind fun t384 => ((spec_CrossPut.f k t370 t373 t374 t375).bind fun t387 => ((laws_lwCrosses.f k t384 t387).bind fun t390 => (if t390 = true then ((some (([] : List (S37)) : List (S37))).bind fun y391 => (if y391.length + t384.length < 2932031007402 then ((impl_CrossRight.f k (y391 ++ t384)).bind fun t397 => (laws_FnCross.j0 k t384 (!t397) t373 t374 t375)) else (none))) else (laws_FnCross.j0 k t384 true t373 t374 t375))))) else (none))) else (some true)) = some r := H
    have A4 := Aside0.mk A40
    clear A40
    by_cases c5 : t377 = true
    · subst c5
      have H1 : ((some (([] : List (S37)) : List (S37))).bind fun y378 => (if y378.length + t370.length < 2932031007402 then ((impl_CrossPut.f k (y378 ++ t370) t373 t374 t375).bind fun t384 => ((spec_CrossPut.f k t370 t373 t374 t375).bind fun t387 => ((laws_lwCrosses.f k t384 t387).bind fun t390 => (if t390 = true then ((some (([] : List (S37)) : List (S37))).bind fun y391 => (if y391.length + t384.length < 2932031007402 then ((impl_CrossRight.f k (y391 ++ t384)).bind fun t397 => (laws_FnCross.j0 k t384 (!t397) t373 t374 t375)) else (none))) else (laws_FnCross.j0 k t384 true t373 t374 t375))))) else (none))) = some r := by rw [if_pos rfl] at H; exact H
      clear H
      have H := H1
      clear H1
      obtain ⟨y378, hy378⟩ : ∃ y_ : List (S37), y_ = (([] : List (S37))) := ⟨_, rfl⟩
      replace H : (if y378.length + t370.length < 2932031007402 then ((impl_CrossPut.f k (y378 ++ t370) t373 t374 t375).bind fun t384 => ((spec_CrossPut.f k t370 t373 t374 t375).bind fun t387 => ((laws_lwCrosses.f k t384 t387).bind fun t390 => (if t390 = true then ((some (([] : List (S37)) : List (S37))).bind fun y391 => (if y391.length + t384.length < 2932031007402 then ((impl_CrossRight.f k (y391 ++ t384)).bind fun t397 => (laws_FnCross.j0 k t384 (!t397) t373 t374 t375)) else (none))) else (laws_FnCross.j0 k t384 true t373 t374 t375))))) else (none)) = some r := by first | (rw [hy378]; with_reducible exact H) | (have H2_ := (Option.bind_some _ _).symm.trans H; rw [hy378]; with_reducible exact H2_) | (have H2_ := (Option.bind_some _ _).symm.trans H; with_reducible exact H2_) | with_reducible exact H | (rw [hy378]; exact H) | exact H
      have Ny378 := Aside0.mk hy378
      clear hy378
      by_cases c6 : y378.length + t370.length < 2932031007402
      · rw [if_pos c6] at H
        have LMc6 := Aside0.mk c6
        clear c6
        obtain ⟨y381, hy381⟩ : ∃ y_ : List (S37), y_ = (y378 ++ t370) := ⟨_, rfl⟩
        replace H : ((impl_CrossPut.f k y381 t373 t374 t375).bind fun t384 => ((spec_CrossPut.f k t370 t373 t374 t375).bind fun t387 => ((laws_lwCrosses.f k t384 t387).bind fun t390 => (if t390 = true then ((some (([] : List (S37)) : List (S37))).bind fun y391 => (if y391.length + t384.length < 2932031007402 then ((impl_CrossRight.f k (y391 ++ t384)).bind fun t397 => (laws_FnCross.j0 k t384 (!t397) t373 t374 t375)) else (none))) else (laws_FnCross.j0 k t384 true t373 t374 t375))))) = some r := by first | (rw [hy381]; with_reducible exact H) | (have H2_ := (Option.bind_some _ _).symm.trans H; rw [hy381]; with_reducible exact H2_) | (have H2_ := (Option.bind_some _ _).symm.trans H; with_reducible exact H2_) | with_reducible exact H | (rw [hy381]; exact H) | exact H
        have Ny381 := Aside0.mk hy381
        clear hy381
        replace H := Option.bind_eq_some_iff.mp H
        obtain ⟨t384, A70, H⟩ := H
        replace H : ((spec_CrossPut.f k t370 t373 t374 t375).bind fun t387 => ((laws_lwCrosses.f k t384 t387).bind fun t390 => (if t390 = true then ((some (([] : List (S37)) : List (S37))).bind fun y391 => (if y391.length + t384.length < 2932031007402 then ((impl_CrossRight.f k (y391 ++ t384)).bind fun t397 => (laws_FnCross.j0 k t384 (!t397) t373 t374 t375)) else (none))) else (laws_FnCross.j0 k t384 true t373 t374 t375)))) = some r := H
        have A7 := Aside0.mk A70
        clear A70
        replace H := Option.bind_eq_some_iff.mp H
        obtain ⟨t387, A80, H⟩ := H
        replace H : ((laws_lwCrosses.f k t384 t387).bind fun t390 => (if t390 = true then ((some (([] : List (S37)) : List (S37))).bind fun y391 => (if y391.length + t384.length < 2932031007402 then ((impl_CrossRight.f k (y391 ++ t384)).bind fun t397 => (laws_FnCross.j0 k t384 (!t397) t373 t374 t375)) else (none))) else (laws_FnCross.j0 k t384 true t373 t374 t375))) = some r := H
        have A8 := Aside0.mk A80
        clear A80
        have HC9 := Aside0.mk H
        clear H
        go_enter Try.func8, Try.ntmps8
        try go_wp2_with (first | (go_at_call 31; (with_reducible refine (spec_DrawCrossPut.calls k _ _ l0 t370 t373 t374 t375 _ ?side1 ?side2 A3.out).mono ?_); (case side1 => exact au15_18); (case side2 => exact HC0.out); rintro e w10 ⟨v371, rfl, ho0, hb⟩; (try clear A3); have n0_ := Aside0.mk (Kd.R_lower ho0 (below_size bl_)); have n1_ := Aside0.mk (below_step bl_ hb); clear HB; have HO372 := n0_; have HB := n1_; clear n0_ n1_; (try clear hb); (try clear hb2); (try clear hk); (try clear hi); (try clear ho0)) | ((with_reducible refine gate_dst (N := 4) rfl ?_); (try (refine gate_guard (by rfl) ?_; dsimp only)); refine box_event ?hg (N := 4) ?hd (cs := #[.string (⟨#[]⟩ : ByteArray), .string (⟨#[]⟩ : ByteArray), .string (⟨#[]⟩ : ByteArray)]) (t := 37) ?hr ?_; (case hd => rfl); (case hg => rfl); (case hr => exact hr_); intro gb376 hg w11 hbox hb; have n0_ := Aside0.mk (Kd.R_below (Kd.R_elderB (rk_ HO372) gb376 (Nat.le_of_eq hg.symm)) hb); have n1_ := Aside0.mk (below_step bl_ hb); have n2_ := Aside0.mk (hbox); have n3_ := Aside0.mk (gw_ hg bl_); have n4_ := Aside0.mk (gw_ hg bl_); clear HO372; clear HB; have HO372 := n0_; have HB := n1_; have BK376 := n2_; have GW376 := n3_; have GE376 := n4_; clear n0_ n1_ n2_ n3_ n4_; clear hb hbox hg; obtain ⟨hcz12_0, hcz12_1, hcz12_2, hfz12_0, hfz12_1, hfz12_2⟩ := cellsF3 BK376.out; obtain ⟨Ao13, co13, eo13⟩ := Kd.R_slice HO372.out; subst eo13) | (go_at_call 15; (with_reducible refine (spec_CrossRight.calls k _ _ t370 true _ ?side1 ?side2 A4.out).mono ?_); (case side1 => refine (Kd.R_reads' (e := 37) (base := w.heap.size) (ok := fun k_ => (True ∧ k_ ≠ gb376)) (n := t370.length) (c := co13) ?_).2.2; exact au15_1); (case side2 => exact (Kd.R_reads' HO372.out).2.1); rintro e w14 ⟨rfl, hb⟩; (try clear A4); have n0_ := Aside0.mk (Kd.R_below au15_1 hb); have n1_ := Aside0.mk (blk_below (g := gb376) (o := .cells #[.string t373, .string t374, .string t375] 37 (0, 0)) au15_6 hb); have n2_ := Aside0.mk (below_step bl_ hb); clear HO372; clear BK376; clear HB; have HO372 := n0_; have BK376 := n1_; have HB := n2_; clear n0_ n1_ n2_; (try clear hb); (try clear hb2); (try clear hk); (try clear hi)))
        have n0_ := Aside0.mk (Kd.R_drew HO372.out)
        have n1_ := Aside0.mk (blk_drew BK376.out)
        have n2_ := Aside0.mk (below_drew1 HB.out)
        clear HO372
        clear BK376
        clear HB
        have HO372 := n0_
        have BK376 := n1_
        have HB := n2_
        clear n0_ n1_ n2_
        refine start_ (n := 6) (S := fun w' => w'.cell? ⟨gb376, 0, none⟩ = some (.string t373) ∧ w'.cell? ⟨gb376, 1, none⟩ = some (.string t374) ∧ w'.cell? ⟨gb376, 2, none⟩ = some (.string t375)) (ds := []) (bs 6 0) (by kernel_rfl) rfl rfl ⟨(blk_cell BK376.out 0).trans rfl, (blk_cell BK376.out 1).trans rfl, (blk_cell BK376.out 2).trans rfl⟩ (fun hHeld => ?_)
        generalize w14.drew = w15 at HO372 BK376 HB hHeld ⊢
        refine pure_ (i := 1) (N := some 22) (v := ?_) (a' := ?_) (bs 6 2) rfl rfl (by kernel_rfl) (fun _ _ _ h => h) (Or.inl ⟨by rfl, ?_⟩) ?_ ?_
        rotate_left
        · intro w'
          go_simp
          with_reducible rfl
        rotate_left
        · simp only [Act.put, List.setIfInBounds_toArray, List.set_cons_zero, List.set_cons_succ, i64_w, i32_w]
          rfl
        refine take_ (i := 3) (N := some 24) (v := ?_) (a' := ?_) (bs 6 10) rfl rfl (by kernel_rfl) (fun _ _ _ h => h) (Or.inl ⟨by rfl, ?_⟩) hHeld ?_ ?_
        rotate_left
        · rintro w' ⟨s0, s1, s2⟩
          go_simp
          with_reducible rfl
        rotate_left
        · simp only [Act.put, List.setIfInBounds_toArray, List.set_cons_zero, List.set_cons_succ, i64_w, i32_w]
          rfl
        refine one_ (i := 0) (N := some 21) (bs 6 11) rfl rfl (by kernel_rfl) (by decide) (fun K hK => ?_)
        refine Kd.R_lit_step k37 _ 37 ?hg (N := 21) ?hd (xs := ([] : List (S37))) (inner := []) (ok := fun _ => True) (okp := fun _ => True) ?hr ?hp (fun _ hk => hk) trivial (Below.refl _ _) (Nat.le_refl _) (by simp) ?_; (case hd => rfl); (case hg => rfl); (case hr => exact hr_); (case hp => exact (Reps.none _ _))
        intro v379 w16 ho17 hb hg_ hnew_
        clear hg_ hnew_
        (first | rw [← Ny378.out] at ho17 | (simp only [Int.reduceToNat] at ho17; rw [← Ny378.out] at ho17))
        have n0_ := Aside0.mk (Kd.R_elder' (rk_ HO372) (Kd.R_base ho17) hb)
        have n1_ := Aside0.mk (Kd.R_lower (Kd.R_newB (Kd.R_new' ho17 (Kd.R_lt (rk_ HO372))) (g := gb376) (o := .cells #[.string t373, .string t374, .string t375] 37 (0, 0)) (bk_ BK376)) (below_size bl_))
        have n2_ := Aside0.mk (blkb_ BK376 hb)
        have n3_ := Aside0.mk (below_step bl_ hb)
        clear HO372
        clear BK376
        clear HB
        have HO372 := n0_
        have HO380 := n1_
        have BK376 := n2_
        have HB := n3_
        clear n0_ n1_ n2_ n3_
        clear hb ho17
        refine hK.out _ _ ⟨(blk_cell BK376.out 0).trans rfl, (blk_cell BK376.out 1).trans rfl, (blk_cell BK376.out 2).trans rfl⟩ (fun hHeld => ?_)
        clear hK K
        refine norm_ (a' := ?_) ?_ ?_
        rotate_left
        · show Act.put _ (some 21) _ = _
          simp only [Act.put, List.setIfInBounds_toArray, List.set_cons_zero, List.set_cons_succ, i64_w, i32_w]
          rfl
        refine one_ (i := 2) (N := some 23) (bs 6 15) rfl rfl (by kernel_rfl) (by decide) (fun K hK => ?_)
        refine Kd.R_append_rows_step k37 (w0 := w) w.heap.size (by rfl) (.tmp 21) (.tmp 22) 25 37 (.agg #[(.string ⟨#[]⟩), (.string ⟨#[]⟩), (.string ⟨#[]⟩)]) 48 rfl Try.underlying25 info37 rfl (by decide) (by omega) v379 y378 t370 _ _ _ (fun k_ => some k_ ≠ (.slice Ao13 t370.length co13 : Value).ownBlock ∧ k_ ≠ gb376) (fun _ => False) rfl rfl ?aO ?aR (fun _ _ h => h) (fun _ h => h.elim) ?aF ?aB ?aS ?aL ?_
        (case aR => exact au15_14)
        (case aB => exact bl_)
        (case aF => exact (fun k_ hk => ⟨Kd.fresh' (Kd.R_lt (rk_ HO372)) k_ hk, Kd.freshB (g := gb376) (o := .cells #[.string t373, .string t374, .string t375] 37 (0, 0)) (bk_ BK376) k_ hk⟩))
        (case aO => exact (by (with_reducible repeat (first | apply Kd.R_alloc | apply Kd.R_drewN | apply Kd.R_drew)); exact Kd.R_mono HO380.out (fun _ hk => ⟨hk.1.2, hk.2⟩)))
        (case aS => exact (below_size bl_))
        (case aL => have := LMc6.out; omega)
        intro v382 w18 ho hb hg hat
        rw [← Ny381.out] at ho
        have n0_ := Aside0.mk (Kd.R_after (ok := (fun k_ => k_ ≠ gb376)) (by (with_reducible repeat (first | apply Kd.R_alloc | apply Kd.R_drewN | apply Kd.R_drew)); exact Kd.R_mono HO372.out (fun _ hk => ⟨hk.1.2, hk.2⟩)) hg hat)
        have n1_ := Aside0.mk (blk_grown (g := gb376) (o := .cells #[.string t373, .string t374, .string t375] 37 (0, 0)) (bk_ BK376) hg (Kd.R_away HO380.out (fun _ hk => hk.2)))
        have n2_ := Aside0.mk (hb)
        have n3_ := Aside0.mk (ho)
        clear HO372
        clear BK376
        clear HB
        clear HO380
        have HO372 := n0_
        have BK376 := n1_
        have HB := n2_
        have HO383 := n3_
        clear n0_ n1_ n2_ n3_
        clear ho hb hg hat
        obtain ⟨Ao19, co19, eo19⟩ := Kd.R_slice HO383.out
        (first | subst eo19 | (injection eo19 with f1_ f2_ f3_; have f4_ := f1_.symm; have f5_ := f3_.symm; clear f1_ f2_ f3_; subst f4_; subst f5_))
        refine hK.out _ _ ⟨(blk_cell BK376.out 0).trans rfl, (blk_cell BK376.out 1).trans rfl, (blk_cell BK376.out 2).trans rfl⟩ (fun hHeld => ?_)
        clear hK K
        refine norm_ (a' := ?_) ?_ ?_
        rotate_left
        · show Act.put _ (some 23) _ = _
          simp only [Act.put, List.setIfInBounds_toArray, List.set_cons_zero, List.set_cons_succ, i64_w, i32_w]
          rfl
        refine one_ (i := 4) (N := some 25) (bs 6 31) rfl rfl (by kernel_rfl) (by decide) (fun K hK => ?_)
        refine gr_ Try.func30 #[.slice Ao19 y381.length co19, .agg #[.string t373, .string t374, .string t375]] (by rfl) ?_ rfl rfl rfl
        with_reducible refine (impl_CrossPut.calls k _ _ y381 t373 t374 t375 t384 _ ?side1 ?side2 A7.out).mono ?_
        (case side1 => repeat (first | exact (Kd.R_reads' HO383.out).2.2 | (with_reducible refine Kd.C_alloc ?_ _) | (with_reducible refine Kd.C_drewN ?_ _) | (with_reducible refine Kd.C_drew ?_)))
        (case side2 => exact (Kd.R_reads' HO383.out).2.1)
        rintro e w20 ⟨v385, rfl, ho0, hb⟩
        refine ⟨_, rfl, ?_⟩
        have n0_ := Aside0.mk (Kd.R_elder' (rk_ HO372) (Kd.R_base ho0) hb)
        have n1_ := Aside0.mk (Kd.R_elder' (rk_ HO383) (Kd.R_base ho0) hb)
        have n2_ := Aside0.mk (Kd.R_lower (Kd.R_newB (Kd.R_new' (Kd.R_new' ho0 (Kd.R_lt (rk_ HO372))) (Kd.R_lt (rk_ HO383))) (g := gb376) (o := .cells #[.string t373, .string t374, .string t375] 37 (0, 0)) (bk_ BK376)) (below_size bl_))
        have n3_ := Aside0.mk (blkb_ BK376 hb)
        have n4_ := Aside0.mk (below_step bl_ hb)
        clear HO372
        clear HO383
        clear BK376
        clear HB
        have HO372 := n0_
        have HO383 := n1_
        have HO386 := n2_
        have BK376 := n3_
        have HB := n4_
        clear n0_ n1_ n2_ n3_ n4_
        (try clear hb)
        (try clear hb2)
        (try clear hk)
        (try clear hi)
        (try clear ho0)
        refine hK.out _ _ ⟨(blk_cell BK376.out 0).trans rfl, (blk_cell BK376.out 1).trans rfl, (blk_cell BK376.out 2).trans rfl⟩ (fun hHeld => ?_)
        clear hK K
        refine norm_ (a' := ?_) ?_ ?_
        rotate_left
        · show Act.put _ (some 25) _ = _
          simp only [Act.put, List.setIfInBounds_toArray, List.set_cons_zero, List.set_cons_succ, i64_w, i32_w]
          rfl
        refine pure_ (i := 5) (N := some 5) (v := ?_) (a' := ?_) (bs 6 63) rfl rfl (by kernel_rfl) (fun _ _ _ h => h) (Or.inl ⟨by rfl, ?_⟩) ?_ ?_
        rotate_left
        · intro w'
          go_simp
          with_reducible rfl
        rotate_left
        · simp only [Act.put, List.setIfInBounds_toArray, List.set_cons_zero, List.set_cons_succ, i64_w, i32_w]
          rfl
        refine done_ (by kernel_rfl) ?_
        obtain ⟨hcz21_0, hcz21_1, hcz21_2, hfz21_0, hfz21_1, hfz21_2⟩ := cellsF3 BK376.out
        go_upto_region 8 with (first | (go_at_call 28; (with_reducible refine (spec_CrossPut.calls k _ _ t370 t373 t374 t375 t387 _ ?side1 ?side2 A8.out).mono ?_); (case side1 => exact au15_14); (case side2 => exact (Kd.R_reads' HO372.out).2.1); rintro e w22 ⟨v388, rfl, ho0, hb⟩; (try clear A8); have n0_ := Aside0.mk (Kd.R_elder' (rk_ HO372) (Kd.R_base ho0) hb); have n1_ := Aside0.mk (Kd.R_elder' (rk_ HO383) (Kd.R_base ho0) hb); have n2_ := Aside0.mk (Kd.R_elder' (rk_ HO386) (Kd.R_base ho0) hb); have n3_ := Aside0.mk (Kd.R_lower (Kd.R_newB (Kd.R_new' (Kd.R_new' (Kd.R_new' ho0 (Kd.R_lt (rk_ HO372))) (Kd.R_lt (rk_ HO383))) (Kd.R_lt (rk_ HO386))) (g := gb376) (o := .cells #[.string t373, .string t374, .string t375] 37 (0, 0)) (bk_ BK376)) (below_size bl_)); have n4_ := Aside0.mk (blkb_ BK376 hb); have n5_ := Aside0.mk (below_step bl_ hb); clear HO372; clear HO383; clear HO386; clear BK376; clear HB; have HO372 := n0_; have HO383 := n1_; have HO386 := n2_; have HO389 := n3_; have BK376 := n4_; have HB := n5_; clear n0_ n1_ n2_ n3_ n4_ n5_; (try clear hb); (try clear hb2); (try clear hk); (try clear hi); (try clear ho0)))
        (try simp only [Act.put, List.setIfInBounds_toArray, List.set_cons_zero, List.set_cons_succ])
        go_cut [39] (fun v39 wc => ∃ (kq : Nat) (x39_8 : Bool), v39 = .bool x39_8 ∧ Aside0 (laws_FnCross.j0 kq t384 x39_8 t373 t374 t375 = some r) ∧ Aside0 (kq ≤ k) ∧ Aside0 (Kd.R k37 37 wc w.heap.size (fun k_ => k_ ≠ gb376) v385 t384) ∧ Aside0 (wc.heap[gb376]? = some (.cells #[.string t373, .string t374, .string t375] 37 (0, 0))) ∧ Aside0 (Below w.heap.size w wc))
        case first =>
          have H := HC9.out
          clear HC9
          replace H := Option.bind_eq_some_iff.mp H
          obtain ⟨t390, A230, H⟩ := H
          replace H : (if t390 = true then ((some (([] : List (S37)) : List (S37))).bind fun y391 => (if y391.length + t384.length < 2932031007402 then ((impl_CrossRight.f k (y391 ++ t384)).bind fun t397 => (laws_FnCross.j0 k t384 (!t397) t373 t374 t375)) else (none))) else (laws_FnCross.j0 k t384 true t373 t374 t375)) = some r := H
          have A23 := Aside0.mk A230
          clear A230
          by_cases c24 : t390 = true
          · subst c24
            have H1 : ((some (([] : List (S37)) : List (S37))).bind fun y391 => (if y391.length + t384.length < 2932031007402 then ((impl_CrossRight.f k (y391 ++ t384)).bind fun t397 => (laws_FnCross.j0 k t384 (!t397) t373 t374 t375)) else (none))) = some r := by rw [if_pos rfl] at H; exact H
            clear H
            have H := H1
            clear H1
            obtain ⟨y391, hy391⟩ : ∃ y_ : List (S37), y_ = (([] : List (S37))) := ⟨_, rfl⟩
            replace H : (if y391.length + t384.length < 2932031007402 then ((impl_CrossRight.f k (y391 ++ t384)).bind fun t397 => (laws_FnCross.j0 k t384 (!t397) t373 t374 t375)) else (none)) = some r := by first | (rw [hy391]; with_reducible exact H) | (have H2_ := (Option.bind_some _ _).symm.trans H; rw [hy391]; with_reducible exact H2_) | (have H2_ := (Option.bind_some _ _).symm.trans H; with_reducible exact H2_) | with_reducible exact H | (rw [hy391]; exact H) | exact H
            have Ny391 := Aside0.mk hy391
            clear hy391
            by_cases c25 : y391.length + t384.length < 2932031007402
            · rw [if_pos c25] at H
              have LMc25 := Aside0.mk c25
              clear c25
              obtain ⟨y394, hy394⟩ : ∃ y_ : List (S37), y_ = (y391 ++ t384) := ⟨_, rfl⟩
              replace H : ((impl_CrossRight.f k y394).bind fun t397 => (laws_FnCross.j0 k t384 (!t397) t373 t374 t375)) = some r := by first | (rw [hy394]; with_reducible exact H) | (have H2_ := (Option.bind_some _ _).symm.trans H; rw [hy394]; with_reducible exact H2_) | (have H2_ := (Option.bind_some _ _).symm.trans H; with_reducible exact H2_) | with_reducible exact H | (rw [hy394]; exact H) | exact H
              have Ny394 := Aside0.mk hy394
              clear hy394
              replace H := Option.bind_eq_some_iff.mp H
              obtain ⟨t397, A260, H⟩ := H
              replace H : (laws_FnCross.j0 k t384 (!t397) t373 t374 t375) = some r := H
              have A26 := Aside0.mk A260
              clear A260
              have H' := Aside0.mk H
              clear H
              obtain ⟨Ao27, co27, eo27⟩ := Kd.R_slice HO386.out
              subst eo27
              obtain ⟨Ao28, co28, eo28⟩ := Kd.R_slice HO389.out
              subst eo28
              go_wp2_with (first | (go_at_call 32; (with_reducible refine (laws_lwCrosses.calls k _ _ t384 _ _ t387 true _ ?side1 ?side2 ?side3 ?side4 A23.out).mono ?_); (case side1 => exact au15_10); (case side2 => exact (Kd.R_reads' HO386.out).2.1); (case side3 => exact au15_15); (case side4 => exact (Kd.R_reads' HO389.out).2.1); rintro e w' ⟨rfl, ⟨nd, rfl⟩⟩; (try clear A23)) | ((with_reducible refine gate_dst (N := 34) rfl ?_); (try (refine gate_guard (by rfl) ?_; dsimp only)); refine Kd.R_lit k37 _ 37 ?hg (N := 34) ?hd (xs := ([] : List (S37))) (inner := []) (ok := fun _ => True) (okp := fun _ => True) ?hr ?hp (fun _ hk => hk) trivial (Below.refl _ _) (Nat.le_refl _) (by simp) ?_; (case hd => rfl); (case hg => rfl); (case hr => exact hr_); (case hp => exact (Reps.none _ _)); intro v392 w29 ho30 hb hg_ hnew_; clear hg_ hnew_; (first | rw [← Ny391.out] at ho30 | (simp only [Int.reduceToNat] at ho30; rw [← Ny391.out] at ho30)); have n0_ := Aside0.mk (Kd.R_elder' (rk_ HO372) (Kd.R_base ho30) hb); have n1_ := Aside0.mk (Kd.R_elder' (rk_ HO383) (Kd.R_base ho30) hb); have n2_ := Aside0.mk (Kd.R_elder' (rk_ HO386) (Kd.R_base ho30) hb); have n3_ := Aside0.mk (Kd.R_elder' (rk_ HO389) (Kd.R_base ho30) hb); have n4_ := Aside0.mk (Kd.R_lower (Kd.R_newB (Kd.R_new' (Kd.R_new' (Kd.R_new' (Kd.R_new' ho30 (Kd.R_lt (rk_ HO372))) (Kd.R_lt (rk_ HO383))) (Kd.R_lt (rk_ HO386))) (Kd.R_lt (rk_ HO389))) (g := gb376) (o := .cells #[.string t373, .string t374, .string t375] 37 (0, 0)) (bk_ BK376)) (below_size bl_)); have n5_ := Aside0.mk (blkb_ BK376 hb); have n6_ := Aside0.mk (below_step bl_ hb); clear HO372; clear HO383; clear HO386; clear HO389; clear BK376; clear HB; have HO372 := n0_; have HO383 := n1_; have HO386 := n2_; have HO389 := n3_; have HO393 := n4_; have BK376 := n5_; have HB := n6_; clear n0_ n1_ n2_ n3_ n4_ n5_ n6_; clear hb ho30) | ((with_reducible refine gate_builtin (b := .append) (xs := #[.tmp 34, .tmp 35]) rfl ?_); (try (refine gate_guard (by rfl) ?_; dsimp only)); at_builtin; refine Kd.R_append_rows k37 (w0 := w) w.heap.size rfl (.tmp 34) (.tmp 35) 25 37 (.agg #[(.string ⟨#[]⟩), (.string ⟨#[]⟩), (.string ⟨#[]⟩)]) 48 rfl Try.underlying25 info37 rfl (by decide) (by omega) v392 y391 t384 _ _ _ (fun k_ => some k_ ≠ (.slice Ao13 t370.length co13 : Value).ownBlock ∧ some k_ ≠ (.slice Ao19 y381.length co19 : Value).ownBlock ∧ some k_ ≠ (.slice Ao27 t384.length co27 : Value).ownBlock ∧ some k_ ≠ (.slice Ao28 t387.length co28 : Value).ownBlock ∧ k_ ≠ gb376) (fun _ => False) rfl rfl ?aO ?aR (fun _ _ h => h) (fun _ h => h.elim) ?aF ?aB ?aS ?aL ?_; (case aR => exact au15_10); (case aB => exact bl_); (case aF => exact (fun k_ hk => ⟨Kd.fresh' (Kd.R_lt (rk_ HO372)) k_ hk, Kd.fresh' (Kd.R_lt (rk_ HO383)) k_ hk, Kd.fresh' (Kd.R_lt (rk_ HO386)) k_ hk, Kd.fresh' (Kd.R_lt (rk_ HO389)) k_ hk, Kd.freshB (g := gb376) (o := .cells #[.string t373, .string t374, .string t375] 37 (0, 0)) (bk_ BK376) k_ hk⟩)); (case aO => exact (by (with_reducible repeat (first | apply Kd.R_alloc | apply Kd.R_drewN | apply Kd.R_drew)); exact Kd.R_mono HO393.out (fun _ hk => ⟨hk.1.1.1.1.2, ⟨hk.1.1.1.2, ⟨hk.1.1.2, ⟨hk.1.2, hk.2⟩⟩⟩⟩))); (case aS => exact (below_size bl_)); (case aL => have := LMc25.out; omega); intro v395 w31 ho hb hg hat; rw [← Ny394.out] at ho; have n0_ := Aside0.mk (Kd.R_after (ok := (fun k_ => some k_ ≠ (.slice Ao19 y381.length co19 : Value).ownBlock ∧ some k_ ≠ (.slice Ao27 t384.length co27 : Value).ownBlock ∧ some k_ ≠ (.slice Ao28 t387.length co28 : Value).ownBlock ∧ k_ ≠ gb376)) (by (with_reducible repeat (first | apply Kd.R_alloc | apply Kd.R_drewN | apply Kd.R_drew)); exact Kd.R_mono HO372.out (fun _ hk => ⟨⟨hk.1.1.1.2, ⟨hk.1.1.2, ⟨hk.1.2, hk.1.1.1.1⟩⟩⟩, hk.2⟩)) hg hat); have n1_ := Aside0.mk (blk_grown (g := gb376) (o := .cells #[.string t373, .string t374, .string t375] 37 (0, 0)) (bk_ BK376) hg (Kd.R_away HO393.out (fun _ hk => hk.2))); have n2_ := Aside0.mk (Kd.R_after (ok := (fun k_ => some k_ ≠ (.slice Ao13 t370.length co13 : Value).ownBlock ∧ some k_ ≠ (.slice Ao27 t384.length co27 : Value).ownBlock ∧ some k_ ≠ (.slice Ao28 t387.length co28 : Value).ownBlock ∧ k_ ≠ gb376)) (by (with_reducible repeat (first | apply Kd.R_alloc | apply Kd.R_drewN | apply Kd.R_drew)); exact Kd.R_mono HO383.out (fun _ hk => ⟨⟨hk.1.1.1.1, ⟨hk.1.1.2, ⟨hk.1.2, hk.1.1.1.2⟩⟩⟩, hk.2⟩)) hg hat); have n3_ := Aside0.mk (Kd.R_after (ok := (fun k_ => some k_ ≠ (.slice Ao13 t370.length co13 : Value).ownBlock ∧ some k_ ≠ (.slice Ao19 y381.length co19 : Value).ownBlock ∧ some k_ ≠ (.slice Ao28 t387.length co28 : Value).ownBlock ∧ k_ ≠ gb376)) (by (with_reducible repeat (first | apply Kd.R_alloc | apply Kd.R_drewN | apply Kd.R_drew)); exact Kd.R_mono HO386.out (fun _ hk => ⟨⟨hk.1.1.1.1.2, ⟨hk.1.1.1.2, ⟨hk.1.2, hk.1.1.2⟩⟩⟩, hk.2⟩)) hg hat); have n4_ := Aside0.mk (Kd.R_after (ok := (fun k_ => some k_ ≠ (.slice Ao13 t370.length co13 : Value).ownBlock ∧ some k_ ≠ (.slice Ao19 y381.length co19 : Value).ownBlock ∧ some k_ ≠ (.slice Ao27 t384.length co27 : Value).ownBlock ∧ k_ ≠ gb376)) (by (with_reducible repeat (first | apply Kd.R_alloc | apply Kd.R_drewN | apply Kd.R_drew)); exact Kd.R_mono HO389.out (fun _ hk => ⟨⟨hk.1.1.1.1.2, ⟨hk.1.1.1.2, ⟨hk.1.1.2, hk.1.2⟩⟩⟩, hk.2⟩)) hg hat); have n5_ := Aside0.mk (hb); have n6_ := Aside0.mk (ho); clear HO372; clear BK376; clear HO383; clear HO386; clear HO389; clear HB; clear HO393; have HO372 := n0_; have BK376 := n1_; have HO383 := n2_; have HO386 := n3_; have HO389 := n4_; have HB := n5_; have HO396 := n6_; clear n0_ n1_ n2_ n3_ n4_ n5_ n6_; clear ho hb hg hat; obtain ⟨Ao32, co32, eo32⟩ := Kd.R_slice HO396.out; subst eo32) | (go_at_call 17; (with_reducible refine (impl_CrossRight.calls k _ _ y394 t397 _ ?side1 ?side2 A26.out).mono ?_); (case side1 => repeat (first | exact (Kd.R_reads' HO396.out).2.2 | (with_reducible refine Kd.C_alloc ?_ _) | (with_reducible refine Kd.C_drewN ?_ _) | (with_reducible refine Kd.C_drew ?_))); (case side2 => exact (Kd.R_reads' HO396.out).2.1); rintro e w33 ⟨rfl, hb⟩; (try clear A26); have n0_ := Aside0.mk (Kd.R_below (rk_ HO372) hb); have n1_ := Aside0.mk (Kd.R_below (rk_ HO383) hb); have n2_ := Aside0.mk (Kd.R_below (rk_ HO386) hb); have n3_ := Aside0.mk (Kd.R_below (rk_ HO389) hb); have n4_ := Aside0.mk (Kd.R_below (rk_ HO396) hb); have n5_ := Aside0.mk (blkb_ BK376 hb); have n6_ := Aside0.mk (below_step bl_ hb); clear HO372; clear HO383; clear HO386; clear HO389; clear HO396; clear BK376; clear HB; have HO372 := n0_; have HO383 := n1_; have HO386 := n2_; have HO389 := n3_; have HO396 := n4_; have BK376 := n5_; have HB := n6_; clear n0_ n1_ n2_ n3_ n4_ n5_ n6_; (try clear hb); (try clear hb2); (try clear hk); (try clear hi)))
              go_meet
              case rel => exact ⟨_, (!t397), er_, H', ⟨by first | omega | exact Nat.le_refl _⟩, ⟨by (with_reducible repeat (first | apply Kd.R_alloc | apply Kd.R_drewN | apply Kd.R_drew)); exact Kd.R_mono HO386.out (fun _ hk => hk.1.2.2.2)⟩, ⟨bk_ BK376⟩, ⟨bl_⟩⟩
            · rw [if_neg c25] at H
              exact absurd H (by simp)
          · replace c24 := Bool.eq_false_iff.mpr c24
            subst c24
            have H1 : (laws_FnCross.j0 k t384 true t373 t374 t375) = some r := by rw [if_neg (show ¬ (false = true) by decide)] at H; exact H
            clear H
            have H := H1
            clear H1
            have H' := Aside0.mk H
            clear H
            obtain ⟨Ao34, co34, eo34⟩ := Kd.R_slice HO386.out
            subst eo34
            obtain ⟨Ao35, co35, eo35⟩ := Kd.R_slice HO389.out
            subst eo35
            go_wp2_with (first | (go_at_call 32; (with_reducible refine (laws_lwCrosses.calls k _ _ t384 _ _ t387 false _ ?side1 ?side2 ?side3 ?side4 A23.out).mono ?_); (case side1 => exact au15_10); (case side2 => exact (Kd.R_reads' HO386.out).2.1); (case side3 => exact au15_15); (case side4 => exact (Kd.R_reads' HO389.out).2.1); rintro e w' ⟨rfl, ⟨nd, rfl⟩⟩; (try clear A23)))
            go_meet
            case rel => exact ⟨_, (true), er_, H', ⟨by first | omega | exact Nat.le_refl _⟩, ⟨by (with_reducible repeat (first | apply Kd.R_alloc | apply Kd.R_drewN | apply Kd.R_drew)); exact Kd.R_mono HO386.out (fun _ hk => hk.1.2)⟩, ⟨bk_ BK376⟩, ⟨bl_⟩⟩
        case rest =>
          clear HC9
          try clear c2
          try clear c2b0
          try clear c2b1
          try clear p2
          try clear c3
          try clear c5
          try clear c6
          try clear c8
          try clear c24
          try clear c25
          try clear c30
          try clear hcz12_0
          try clear hcz12_1
          try clear hcz12_2
          try clear hcz21_0
          try clear hcz21_1
          try clear hcz21_2
          try clear hfz12_0
          try clear hfz12_1
          try clear hfz12_2
          try clear hfz21_0
          try clear hfz21_1
          try clear hfz21_2
          obtain ⟨kq, x39_8, rfl, HA, HJ8, HO_5, BK376, HB⟩ := hcut
          cases kq with
          | zero => exact absurd HA.out (by simp [laws_FnCross.j0])
          | succ kj8 =>
            have H := HA.out
            clear HA
            simp only [laws_FnCross.j0] at H
            by_cases c36 : x39_8 = true
            · subst c36
              have H1 : (some false) = some r := by rw [if_pos rfl] at H; exact H
              clear H
              have H := H1
              clear H1
              obtain rfl := Option.some.inj H
              go_wp2
              go_ret
              exact ⟨au15_8, bl_⟩
            · replace c36 := Bool.eq_false_iff.mpr c36
              subst c36
              have H1 : (laws_FnCross.l0 kj8 t384 0 t373 t374 t375) = some r := by rw [if_neg (show ¬ (false = true) by decide)] at H; exact H
              clear H
              have H := H1
              clear H1
              have H' := Aside0.mk H
              clear H
              go_wp2
              go_loopg [7] kj8 (fun kq v7 w' => ∃ (x7_2 : Int), v7 = .int .i64 x7_2 ∧ Aside0 (laws_FnCross.l0 kq t384 x7_2 t373 t374 t375 = some r) ∧ Aside0 (kq ≤ kj8) ∧ Aside0 (Kd.R k37 37 w' w.heap.size (fun k_ => k_ ≠ gb376) v385 t384) ∧ Aside0 (w'.heap[gb376]? = some (.cells #[.string t373, .string t374, .string t375] 37 (0, 0))) ∧ Aside0 (Below w.heap.size w w'))
              case atStart => exact ⟨(0), er_, H', ⟨Nat.le_refl _⟩, ⟨rk_ HO_5⟩, ⟨bk_ BK376⟩, ⟨bl_⟩⟩
              case round =>
                clear H'
                try clear c2
                try clear c2b0
                try clear c2b1
                try clear p2
                try clear c3
                try clear c5
                try clear c6
                try clear c8
                try clear c24
                try clear c25
                try clear c30
                try clear c36
                try clear hcz12_0
                try clear hcz12_1
                try clear hcz12_2
                try clear hcz21_0
                try clear hcz21_1
                try clear hcz21_2
                try clear hfz12_0
                try clear hfz12_1
                try clear hfz12_2
                try clear hfz21_0
                try clear hfz21_1
                try clear hfz21_2
                try clear p2
                obtain ⟨x7_2, rfl, HA, HK2, HO_5, BK376, HB⟩ := hrel
                cases gk with
                | zero => exact absurd HA.out (by simp [laws_FnCross.l0])
                | succ k2 =>
                  have H := HA.out
                  clear HA
                  simp only [laws_FnCross.l0] at H
                  by_cases c37 : x7_2 < (t384.length : Int)
                  · rw [if_pos c37] at H
                    have c37b0 : decide (x7_2 < (t384.length : Int)) = true := decide_eq_true c37
                    clear c37
                    by_cases c38 : 0 ≤ x7_2
                    · rw [if_pos c38] at H
                      have c38b0 : decide (0 ≤ x7_2) = true := decide_eq_true c38
                      clear c38
                      obtain ⟨y416, hy416⟩ : ∃ y_ : List (S37), y_ = (([] : List (S37))) := ⟨_, rfl⟩
                      replace H : (if y416.length + t384.length < 2932031007402 then ((impl_CrossOwn.f k2 (y416 ++ t384) ((rd_T37 t384 x7_2).f0) ((rd_T37 t384 x7_2).f1)).bind fun t422 => (if t422.toList = ((rd_T37 t384 x7_2).f2).toList then ((some (([] : List (S37)) : List (S37))).bind fun y423 => (if y423.length + t384.length < 2932031007402 then ((impl_CrossTheirs.f k2 (y423 ++ t384) ((rd_T37 t384 x7_2).f0) ((rd_T37 t384 x7_2).f2)).bind fun t429 => (if t429.toList = ((rd_T37 t384 x7_2).f1).toList then (laws_FnCross.l0 k2 t384 (wrap64 (x7_2 + 1)) t373 t374 t375) else (some false))) else (none))) else (some false))) else (none)) = some r := by first | (rw [hy416]; with_reducible exact H) | (have H2_ := (Option.bind_some _ _).symm.trans H; rw [hy416]; with_reducible exact H2_) | (have H2_ := (Option.bind_some _ _).symm.trans H; with_reducible exact H2_) | with_reducible exact H | (rw [hy416]; exact H) | exact H
                      have Ny416 := Aside0.mk hy416
                      clear hy416
                      by_cases c39 : y416.length + t384.length < 2932031007402
                      · rw [if_pos c39] at H
                        have LMc39 := Aside0.mk c39
                        clear c39
                        obtain ⟨y419, hy419⟩ : ∃ y_ : List (S37), y_ = (y416 ++ t384) := ⟨_, rfl⟩
                        replace H : ((impl_CrossOwn.f k2 y419 ((rd_T37 t384 x7_2).f0) ((rd_T37 t384 x7_2).f1)).bind fun t422 => (if t422.toList = ((rd_T37 t384 x7_2).f2).toList then ((some (([] : List (S37)) : List (S37))).bind fun y423 => (if y423.length + t384.length < 2932031007402 then ((impl_CrossTheirs.f k2 (y423 ++ t384) ((rd_T37 t384 x7_2).f0) ((rd_T37 t384 x7_2).f2)).bind fun t429 => (if t429.toList = ((rd_T37 t384 x7_2).f1).toList then (laws_FnCross.l0 k2 t384 (wrap64 (x7_2 + 1)) t373 t374 t375) else (some false))) else (none))) else (some false))) = some r := by first | (rw [hy419]; with_reducible exact H) | (have H2_ := (Option.bind_some _ _).symm.trans H; rw [hy419]; with_reducible exact H2_) | (have H2_ := (Option.bind_some _ _).symm.trans H; with_reducible exact H2_) | with_reducible exact H | (rw [hy419]; exact H) | exact H
                        have Ny419 := Aside0.mk hy419
                        clear hy419
                        replace H := Option.bind_eq_some_iff.mp H
                        obtain ⟨t422, A400, H⟩ := H
                        replace H : (if t422.toList = ((rd_T37 t384 x7_2).f2).toList then ((some (([] : List (S37)) : List (S37))).bind fun y423 => (if y423.length + t384.length < 2932031007402 then ((impl_CrossTheirs.f k2 (y423 ++ t384) ((rd_T37 t384 x7_2).f0) ((rd_T37 t384 x7_2).f2)).bind fun t429 => (if t429.toList = ((rd_T37 t384 x7_2).f1).toList then (laws_FnCross.l0 k2 t384 (wrap64 (x7_2 + 1)) t373 t374 t375) else (some false))) else (none))) else (some false)) = some r := H
                        have A40 := Aside0.mk A400
                        clear A400
                        by_cases c41 : t422.toList = ((rd_T37 t384 x7_2).f2).toList
                        · rw [if_pos c41] at H
                          have c41b0 : (t422.toList == ((rd_T37 t384 x7_2).f2).toList) = true := beq_iff_eq.mpr c41
                          have c41b1 : (t422.toList != ((rd_T37 t384 x7_2).f2).toList) = false := bne_eq_false_iff_eq.mpr c41
                          clear c41
                          obtain ⟨y423, hy423⟩ : ∃ y_ : List (S37), y_ = (([] : List (S37))) := ⟨_, rfl⟩
                          replace H : (if y423.length + t384.length < 2932031007402 then ((impl_CrossTheirs.f k2 (y423 ++ t384) ((rd_T37 t384 x7_2).f0) ((rd_T37 t384 x7_2).f2)).bind fun t429 => (if t429.toList = ((rd_T37 t384 x7_2).f1).toList then (laws_FnCross.l0 k2 t384 (wrap64 (x7_2 + 1)) t373 t374 t375) else (some false))) else (none)) = some r := by first | (rw [hy423]; with_reducible exact H) | (have H2_ := (Option.bind_some _ _).symm.trans H; rw [hy423]; with_reducible exact H2_) | (have H2_ := (Option.bind_some _ _).symm.trans H; with_reducible exact H2_) | with_reducible exact H | (rw [hy423]; exact H) | exact H
                          have Ny423 := Aside0.mk hy423
                          clear hy423
                          by_cases c42 : y423.length + t384.length < 2932031007402
                          · rw [if_pos c42] at H
                            have LMc42 := Aside0.mk c42
                            clear c42
                            obtain ⟨y426, hy426⟩ : ∃ y_ : List (S37), y_ = (y423 ++ t384) := ⟨_, rfl⟩
                            replace H : ((impl_CrossTheirs.f k2 y426 ((rd_T37 t384 x7_2).f0) ((rd_T37 t384 x7_2).f2)).bind fun t429 => (if t429.toList = ((rd_T37 t384 x7_2).f1).toList then (laws_FnCross.l0 k2 t384 (wrap64 (x7_2 + 1)) t373 t374 t375) else (some false))) = some r := by first | (rw [hy426]; with_reducible exact H) | (have H2_ := (Option.bind_some _ _).symm.trans H; rw [hy426]; with_reducible exact H2_) | (have H2_ := (Option.bind_some _ _).symm.trans H; with_reducible exact H2_) | with_reducible exact H | (rw [hy426]; exact H) | exact H
                            have Ny426 := Aside0.mk hy426
                            clear hy426
                            replace H := Option.bind_eq_some_iff.mp H
                            obtain ⟨t429, A430, H⟩ := H
                            replace H : (if t429.toList = ((rd_T37 t384 x7_2).f1).toList then (laws_FnCross.l0 k2 t384 (wrap64 (x7_2 + 1)) t373 t374 t375) else (some false)) = some r := H
                            have A43 := Aside0.mk A430
                            clear A430
                            by_cases c44 : t429.toList = ((rd_T37 t384 x7_2).f1).toList
                            · rw [if_pos c44] at H
                              have c44b0 : (t429.toList == ((rd_T37 t384 x7_2).f1).toList) = true := beq_iff_eq.mpr c44
                              have c44b1 : (t429.toList != ((rd_T37 t384 x7_2).f1).toList) = false := bne_eq_false_iff_eq.mpr c44
                              clear c44
                              have H' := Aside0.mk H
                              clear H
                              obtain ⟨Ao45, co45, eo45⟩ := Kd.R_slice HO_5.out
                              subst eo45
                              have p414 : 0 ≤ (x7_2 : Int) := of_decide_eq_true as_
                              have q414 : x7_2 < (t384.length : Int) := of_decide_eq_true as_
                              obtain ⟨ad414, e414, hx414_0, hx414_1, hx414_2⟩ := at_T37 (Kd.R_reads' HO_5.out).2.2 x7_2 p414 q414
                              cases e414
                              replace p414 := eq_true p414
                              replace q414 := eq_true q414
                              try go_wp2_with (first | ((with_reducible refine gate_dst (N := 8) rfl ?_); (try (refine gate_guard (by rfl) ?_; dsimp only)); refine box_event ?hg (N := 8) ?hd (cs := #[.string (⟨#[]⟩ : ByteArray), .string (⟨#[]⟩ : ByteArray), .string (⟨#[]⟩ : ByteArray)]) (t := 37) ?hr ?_; (case hd => rfl); (case hg => rfl); (case hr => exact hr_); intro gb415 hg w46 hbox hb; have n0_ := Aside0.mk (Kd.R_below (Kd.R_elderB (rk_ HO_5) gb415 (Nat.le_of_eq hg.symm)) hb); have n1_ := Aside0.mk (blkb_ BK376 hb); have n2_ := Aside0.mk (below_step bl_ hb); have n3_ := Aside0.mk (hbox); have n4_ := Aside0.mk (gw_ hg bl_); have n5_ := Aside0.mk (gw_ hg bl_); have n6_ := Aside0.mk (gn_ hg (blkl_ BK376)); have n7_ := Aside0.mk (gm_ hg (blkl_ BK376)); clear HO_5; clear BK376; clear HB; have HO_5 := n0_; have BK376 := n1_; have HB := n2_; have BK415 := n3_; have GW415 := n4_; have GE415 := n5_; have NB376_415 := n6_; have NB415_376 := n7_; clear n0_ n1_ n2_ n3_ n4_ n5_ n6_ n7_; clear hb hbox hg; have hnb47 := NB415_376.out; have hnc47 := NB376_415.out; obtain ⟨hcz48_0, hcz48_1, hcz48_2, hfz48_0, hfz48_1, hfz48_2⟩ := cellsF3 BK415.out))
                              have n0_ : Aside0 (Kd.R k37 37 (((w46.setCell ⟨gb415, 0, none⟩ (.string ((rd_T37 t384 x7_2).f0))).setCell ⟨gb415, 1, none⟩ (.string ((rd_T37 t384 x7_2).f1))).setCell ⟨gb415, 2, none⟩ (.string ((rd_T37 t384 x7_2).f2))) w.heap.size (fun k_ => k_ ≠ gb376 ∧ k_ ≠ gb415) (.slice (some ad414) t384.length co45) t384) := ⟨au15_3⟩
                              have n1_ : Aside0 ((((w46.setCell ⟨gb415, 0, none⟩ (.string ((rd_T37 t384 x7_2).f0))).setCell ⟨gb415, 1, none⟩ (.string ((rd_T37 t384 x7_2).f1))).setCell ⟨gb415, 2, none⟩ (.string ((rd_T37 t384 x7_2).f2))).heap[gb376]? = some (.cells #[.string t373, .string t374, .string t375] 37 (0, 0))) := ⟨au15_2⟩
                              have n2_ : Aside0 ((((w46.setCell ⟨gb415, 0, none⟩ (.string ((rd_T37 t384 x7_2).f0))).setCell ⟨gb415, 1, none⟩ (.string ((rd_T37 t384 x7_2).f1))).setCell ⟨gb415, 2, none⟩ (.string ((rd_T37 t384 x7_2).f2))).heap[gb415]? = some (.cells #[.string ((rd_T37 t384 x7_2).f0), .string ((rd_T37 t384 x7_2).f1), .string ((rd_T37 t384 x7_2).f2)] 37 (0, 0))) := ⟨au15_0⟩
                              have n3_ : Aside0 (Below w.heap.size w (((w46.setCell ⟨gb415, 0, none⟩ (.string ((rd_T37 t384 x7_2).f0))).setCell ⟨gb415, 1, none⟩ (.string ((rd_T37 t384 x7_2).f1))).setCell ⟨gb415, 2, none⟩ (.string ((rd_T37 t384 x7_2).f2)))) := ⟨bl_⟩
                              (try clear HO_5)
                              (try clear BK376)
                              (try clear BK415)
                              (try clear HB)
                              generalize (((w46.setCell ⟨gb415, 0, none⟩ (.string ((rd_T37 t384 x7_2).f0))).setCell ⟨gb415, 1, none⟩ (.string ((rd_T37 t384 x7_2).f1))).setCell ⟨gb415, 2, none⟩ (.string ((rd_T37 t384 x7_2).f2))) = w49 at n0_ n1_ n2_ n3_ ⊢
                              have HO_5 := n0_
                              have BK376 := n1_
                              have BK415 := n2_
                              have HB := n3_
                              clear n0_ n1_ n2_ n3_
                              have n0_ := Aside0.mk (Kd.R_drew HO_5.out)
                              have n1_ := Aside0.mk (blk_drew BK376.out)
                              have n2_ := Aside0.mk (blk_drew BK415.out)
                              have n3_ := Aside0.mk (below_drew1 HB.out)
                              clear HO_5
                              clear BK376
                              clear BK415
                              clear HB
                              have HO_5 := n0_
                              have BK376 := n1_
                              have BK415 := n2_
                              have HB := n3_
                              clear n0_ n1_ n2_ n3_
                              refine start_ (n := 24) (S := fun w' => w'.cell? ⟨gb415, 0, none⟩ = some (.string ((rd_T37 t384 x7_2).f0)) ∧ w'.cell? ⟨gb415, 1, none⟩ = some (.string ((rd_T37 t384 x7_2).f1)) ∧ w'.cell? ⟨gb415, 2, none⟩ = some (.string ((rd_T37 t384 x7_2).f2))) (ds := []) (bs 24 0) (by kernel_rfl) rfl rfl ⟨(blk_cell BK415.out 0).trans rfl, (blk_cell BK415.out 1).trans rfl, (blk_cell BK415.out 2).trans rfl⟩ (fun hHeld => ?_); refine with_tabW laws_FnCross.tab14 laws_FnCross.bits14 (fun HT_ HW_ => ?_)
                              generalize w49.drew = w50 at HO_5 BK376 BK415 HB hHeld ⊢
                              refine pu_ 1 51 (bs 24 2) HT_ ?_ rfl rfl
                              refine pu_ 3 53 (bs 24 10) HT_ ?_ rfl rfl
                              refine pu_ 5 55 (bs 24 42) HT_ ?_ rfl rfl
                              refine pu_ 8 58 (bs 24 298) HT_ ?_ rfl rfl
                              refine tk_ 4 54 (bs 24 314) HT_ HW_ hHeld au15_4 ?_ rfl rfl
                              refine tk_ 6 56 (bs 24 378) HT_ HW_ hHeld au15_4 ?_ rfl rfl
                              refine tk_ 9 59 (bs 24 890) HT_ HW_ hHeld au15_4 ?_ rfl rfl
                              refine one_ (i := 0) (N := some 50) (bs 24 891) rfl rfl (one_of HT_.out (by kernel_rfl)) (by decide) (fun K hK => ?_)
                              refine Kd.R_lit_step k37 _ 37 ?hg (N := 50) ?hd (xs := ([] : List (S37))) (inner := []) (ok := fun _ => True) (okp := fun _ => True) ?hr ?hp (fun _ hk => hk) trivial (Below.refl _ _) (Nat.le_refl _) (by simp) ?_; (case hd => rfl); (case hg => rfl); (case hr => exact hr_); (case hp => exact (Reps.none _ _))
                              intro v417 w51 ho52 hb hg_ hnew_
                              clear hg_ hnew_
                              (first | rw [← Ny416.out] at ho52 | (simp only [Int.reduceToNat] at ho52; rw [← Ny416.out] at ho52))
                              have n0_ := Aside0.mk (Kd.R_elder' (rk_ HO_5) (Kd.R_base ho52) hb)
                              have n1_ := Aside0.mk (Kd.R_lower (Kd.R_newB (Kd.R_newB (Kd.R_new' ho52 (Kd.R_lt (rk_ HO_5))) (g := gb376) (o := .cells #[.string t373, .string t374, .string t375] 37 (0, 0)) (bk_ BK376)) (g := gb415) (o := .cells #[.string ((rd_T37 t384 x7_2).f0), .string ((rd_T37 t384 x7_2).f1), .string ((rd_T37 t384 x7_2).f2)] 37 (0, 0)) (bk_ BK415)) (below_size bl_))
                              have n2_ := Aside0.mk (blkb_ BK376 hb)
                              have n3_ := Aside0.mk (blkb_ BK415 hb)
                              have n4_ := Aside0.mk (below_step bl_ hb)
                              clear HO_5
                              clear BK376
                              clear BK415
                              clear HB
                              have HO_5 := n0_
                              have HO418 := n1_
                              have BK376 := n2_
                              have BK415 := n3_
                              have HB := n4_
                              clear n0_ n1_ n2_ n3_ n4_
                              clear hb ho52
                              refine hK.out _ _ ⟨(blk_cell BK415.out 0).trans rfl, (blk_cell BK415.out 1).trans rfl, (blk_cell BK415.out 2).trans rfl⟩ (fun hHeld => ?_)
                              clear hK K
                              refine norm_ (a' := ?_) ?_ ?_
                              rotate_left
                              · show Act.put _ (some 50) _ = _
                                simp only [Act.put, List.setIfInBounds_toArray, List.set_cons_zero, List.set_cons_succ, i64_w, i32_w]
                                rfl
                              refine one_ (i := 2) (N := some 52) (bs 24 895) rfl rfl (one_of HT_.out (by kernel_rfl)) (by decide) (fun K hK => ?_)
                              refine Kd.R_append_rows_step k37 (w0 := w) w.heap.size (by rfl) (.tmp 50) (.tmp 51) 25 37 (.agg #[(.string ⟨#[]⟩), (.string ⟨#[]⟩), (.string ⟨#[]⟩)]) 48 rfl Try.underlying25 info37 rfl (by decide) (by omega) v417 y416 t384 _ _ _ (fun k_ => some k_ ≠ (.slice (some ad414) t384.length co45 : Value).ownBlock ∧ k_ ≠ gb376 ∧ k_ ≠ gb415) (fun _ => False) rfl rfl ?aO ?aR (fun _ _ h => h) (fun _ h => h.elim) ?aF ?aB ?aS ?aL ?_
                              (case aR => exact au15_5)
                              (case aB => exact bl_)
                              (case aF => exact au15_7)
                              (case aO => exact au15_12)
                              (case aS => exact (below_size bl_))
                              (case aL => have := LMc39.out; omega)
                              intro v420 w53 ho hb hg hat
                              rw [← Ny419.out] at ho
                              have n0_ := Aside0.mk (Kd.R_after (ok := (fun k_ => k_ ≠ gb376 ∧ k_ ≠ gb415)) (rk_ HO_5) hg hat)
                              have n1_ := Aside0.mk (blk_grown (g := gb376) (o := .cells #[.string t373, .string t374, .string t375] 37 (0, 0)) (bk_ BK376) hg (Kd.R_away HO418.out (fun _ hk => hk.1.2)))
                              have n2_ := Aside0.mk (blk_grown (g := gb415) (o := .cells #[.string ((rd_T37 t384 x7_2).f0), .string ((rd_T37 t384 x7_2).f1), .string ((rd_T37 t384 x7_2).f2)] 37 (0, 0)) (bk_ BK415) hg (Kd.R_away HO418.out (fun _ hk => hk.2)))
                              have n3_ := Aside0.mk (hb)
                              have n4_ := Aside0.mk (ho)
                              clear HO_5
                              clear BK376
                              clear BK415
                              clear HB
                              clear HO418
                              have HO_5 := n0_
                              have BK376 := n1_
                              have BK415 := n2_
                              have HB := n3_
                              have HO421 := n4_
                              clear n0_ n1_ n2_ n3_ n4_
                              clear ho hb hg hat
                              obtain ⟨Ao54, co54, eo54⟩ := Kd.R_slice HO421.out
                              (first | subst eo54 | (injection eo54 with f1_ f2_ f3_; have f4_ := f1_.symm; have f5_ := f3_.symm; clear f1_ f2_ f3_; subst f4_; subst f5_))
                              refine hK.out _ _ ⟨(blk_cell BK415.out 0).trans rfl, (blk_cell BK415.out 1).trans rfl, (blk_cell BK415.out 2).trans rfl⟩ (fun hHeld => ?_)
                              clear hK K
                              refine norm_ (a' := ?_) ?_ ?_
                              rotate_left
                              · show Act.put _ (some 52) _ = _
                                simp only [Act.put, List.setIfInBounds_toArray, List.set_cons_zero, List.set_cons_succ, i64_w, i32_w]
                                rfl
                              refine one_ (i := 7) (N := some 57) (bs 24 1023) rfl rfl (one_of HT_.out (by kernel_rfl)) (by decide) (fun K hK => ?_)
                              refine gr_ Try.func20 #[.slice Ao54 y419.length co54, .string ((rd_T37 t384 x7_2).f0), .string ((rd_T37 t384 x7_2).f1)] (by rfl) ?_ rfl rfl rfl
                              with_reducible refine (impl_CrossOwn.calls k2 _ _ y419 ((rd_T37 t384 x7_2).f0) ((rd_T37 t384 x7_2).f1) t422 _ ?side1 ?side2 A40.out).mono ?_
                              (case side1 => exact au15_11)
                              (case side2 => exact (Kd.R_reads' HO421.out).2.1)
                              rintro e w55 ⟨rfl, hb⟩
                              refine ⟨_, rfl, ?_⟩
                              have n0_ := Aside0.mk (Kd.R_below (rk_ HO_5) hb)
                              have n1_ := Aside0.mk (Kd.R_below (rk_ HO421) hb)
                              have n2_ := Aside0.mk (blkb_ BK376 hb)
                              have n3_ := Aside0.mk (blkb_ BK415 hb)
                              have n4_ := Aside0.mk (below_step bl_ hb)
                              clear HO_5
                              clear HO421
                              clear BK376
                              clear BK415
                              clear HB
                              have HO_5 := n0_
                              have HO421 := n1_
                              have BK376 := n2_
                              have BK415 := n3_
                              have HB := n4_
                              clear n0_ n1_ n2_ n3_ n4_
                              (try clear hb)
                              (try clear hb2)
                              (try clear hk)
                              (try clear hi)
                              refine hK.out _ _ ⟨(blk_cell BK415.out 0).trans rfl, (blk_cell BK415.out 1).trans rfl, (blk_cell BK415.out 2).trans rfl⟩ (fun hHeld => ?_)
                              clear hK K
                              refine norm_ (a' := ?_) ?_ ?_
                              rotate_left
                              · show Act.put _ (some 57) _ = _
                                simp only [Act.put, List.setIfInBounds_toArray, List.set_cons_zero, List.set_cons_succ, i64_w, i32_w]
                                rfl
                              refine pu_ 10 60 (bs 24 2047) HT_ ?_ rfl rfl
                              refine pu_ 11 61 (bs 24 4095) HT_ ?_ rfl rfl
                              refine pu_ 13 63 (bs 24 12287) HT_ ?_ rfl rfl
                              refine pu_ 15 65 (bs 24 45055) HT_ ?_ rfl rfl
                              refine pu_ 17 67 (bs 24 176127) HT_ ?_ rfl rfl
                              refine pu_ 20 70 (bs 24 1224703) HT_ ?_ rfl rfl
                              refine tk_ 16 66 (bs 24 1290239) HT_ HW_ hHeld au15_4 ?_ rfl rfl
                              refine tk_ 18 68 (bs 24 1552383) HT_ HW_ hHeld au15_4 ?_ rfl rfl
                              refine tk_ 21 71 (bs 24 3649535) HT_ HW_ hHeld au15_4 ?_ rfl rfl
                              refine one_ (i := 12) (N := some 62) (bs 24 3653631) rfl rfl (one_of HT_.out (by kernel_rfl)) (by decide) (fun K hK => ?_)
                              refine Kd.R_lit_step k37 _ 37 ?hg (N := 62) ?hd (xs := ([] : List (S37))) (inner := []) (ok := fun _ => True) (okp := fun _ => True) ?hr ?hp (fun _ hk => hk) trivial (Below.refl _ _) (Nat.le_refl _) (by simp) ?_; (case hd => rfl); (case hg => rfl); (case hr => exact hr_); (case hp => exact (Reps.none _ _))
                              intro v424 w56 ho57 hb hg_ hnew_
                              clear hg_ hnew_
                              (first | rw [← Ny423.out] at ho57 | (simp only [Int.reduceToNat] at ho57; rw [← Ny423.out] at ho57))
                              have n0_ := Aside0.mk (Kd.R_elder' (rk_ HO_5) (Kd.R_base ho57) hb)
                              have n1_ := Aside0.mk (Kd.R_elder' (rk_ HO421) (Kd.R_base ho57) hb)
                              have n2_ := Aside0.mk (Kd.R_lower (Kd.R_newB (Kd.R_newB (Kd.R_new' (Kd.R_new' ho57 (Kd.R_lt (rk_ HO_5))) (Kd.R_lt (rk_ HO421))) (g := gb376) (o := .cells #[.string t373, .string t374, .string t375] 37 (0, 0)) (bk_ BK376)) (g := gb415) (o := .cells #[.string ((rd_T37 t384 x7_2).f0), .string ((rd_T37 t384 x7_2).f1), .string ((rd_T37 t384 x7_2).f2)] 37 (0, 0)) (bk_ BK415)) (below_size bl_))
                              have n3_ := Aside0.mk (blkb_ BK376 hb)
                              have n4_ := Aside0.mk (blkb_ BK415 hb)
                              have n5_ := Aside0.mk (below_step bl_ hb)
                              clear HO_5
                              clear HO421
                              clear BK376
                              clear BK415
                              clear HB
                              have HO_5 := n0_
                              have HO421 := n1_
                              have HO425 := n2_
                              have BK376 := n3_
                              have BK415 := n4_
                              have HB := n5_
                              clear n0_ n1_ n2_ n3_ n4_ n5_
                              clear hb ho57
                              refine hK.out _ _ ⟨(blk_cell BK415.out 0).trans rfl, (blk_cell BK415.out 1).trans rfl, (blk_cell BK415.out 2).trans rfl⟩ (fun hHeld => ?_)
                              clear hK K
                              refine norm_ (a' := ?_) ?_ ?_
                              rotate_left
                              · show Act.put _ (some 62) _ = _
                                simp only [Act.put, List.setIfInBounds_toArray, List.set_cons_zero, List.set_cons_succ, i64_w, i32_w]
                                rfl
                              refine one_ (i := 14) (N := some 64) (bs 24 3670015) rfl rfl (one_of HT_.out (by kernel_rfl)) (by decide) (fun K hK => ?_)
                              refine Kd.R_append_rows_step k37 (w0 := w) w.heap.size (by rfl) (.tmp 62) (.tmp 63) 25 37 (.agg #[(.string ⟨#[]⟩), (.string ⟨#[]⟩), (.string ⟨#[]⟩)]) 48 rfl Try.underlying25 info37 rfl (by decide) (by omega) v424 y423 t384 _ _ _ (fun k_ => some k_ ≠ (.slice (some ad414) t384.length co45 : Value).ownBlock ∧ some k_ ≠ (.slice Ao54 y419.length co54 : Value).ownBlock ∧ k_ ≠ gb376 ∧ k_ ≠ gb415) (fun _ => False) rfl rfl ?aO ?aR (fun _ _ h => h) (fun _ h => h.elim) ?aF ?aB ?aS ?aL ?_
                              (case aR => exact au15_5)
                              (case aB => exact bl_)
                              (case aF => exact au15_9)
                              (case aO => exact au15_13)
                              (case aS => exact (below_size bl_))
                              (case aL => have := LMc42.out; omega)
                              intro v427 w58 ho hb hg hat
                              rw [← Ny426.out] at ho
                              have n0_ := Aside0.mk (Kd.R_after (ok := (fun k_ => some k_ ≠ (.slice Ao54 y419.length co54 : Value).ownBlock ∧ k_ ≠ gb376 ∧ k_ ≠ gb415)) au15_17 hg hat)
                              have n1_ := Aside0.mk (blk_grown (g := gb376) (o := .cells #[.string t373, .string t374, .string t375] 37 (0, 0)) (bk_ BK376) hg (Kd.R_away HO425.out (fun _ hk => hk.1.2)))
                              have n2_ := Aside0.mk (blk_grown (g := gb415) (o := .cells #[.string ((rd_T37 t384 x7_2).f0), .string ((rd_T37 t384 x7_2).f1), .string ((rd_T37 t384 x7_2).f2)] 37 (0, 0)) (bk_ BK415) hg (Kd.R_away HO425.out (fun _ hk => hk.2)))
                              have n3_ := Aside0.mk (Kd.R_after (ok := (fun k_ => some k_ ≠ (.slice (some ad414) t384.length co45 : Value).ownBlock ∧ k_ ≠ gb376 ∧ k_ ≠ gb415)) (rk_ HO421) hg hat)
                              have n4_ := Aside0.mk (hb)
                              have n5_ := Aside0.mk (ho)
                              clear HO_5
                              clear BK376
                              clear BK415
                              clear HO421
                              clear HB
                              clear HO425
                              have HO_5 := n0_
                              have BK376 := n1_
                              have BK415 := n2_
                              have HO421 := n3_
                              have HB := n4_
                              have HO428 := n5_
                              clear n0_ n1_ n2_ n3_ n4_ n5_
                              clear ho hb hg hat
                              obtain ⟨Ao59, co59, eo59⟩ := Kd.R_slice HO428.out
                              (first | subst eo59 | (injection eo59 with f1_ f2_ f3_; have f4_ := f1_.symm; have f5_ := f3_.symm; clear f1_ f2_ f3_; subst f4_; subst f5_))
                              refine hK.out _ _ ⟨(blk_cell BK415.out 0).trans rfl, (blk_cell BK415.out 1).trans rfl, (blk_cell BK415.out 2).trans rfl⟩ (fun hHeld => ?_)
                              clear hK K
                              refine norm_ (a' := ?_) ?_ ?_
                              rotate_left
                              · show Act.put _ (some 64) _ = _
                                simp only [Act.put, List.setIfInBounds_toArray, List.set_cons_zero, List.set_cons_succ, i64_w, i32_w]
                                rfl
                              refine one_ (i := 19) (N := some 69) (bs 24 4194303) rfl rfl (one_of HT_.out (by kernel_rfl)) (by decide) (fun K hK => ?_)
                              refine gr_ Try.func22 #[.slice Ao59 y426.length co59, .string ((rd_T37 t384 x7_2).f0), .string ((rd_T37 t384 x7_2).f2)] (by rfl) ?_ rfl rfl rfl
                              with_reducible refine (impl_CrossTheirs.calls k2 _ _ y426 ((rd_T37 t384 x7_2).f0) ((rd_T37 t384 x7_2).f2) t429 _ ?side1 ?side2 A43.out).mono ?_
                              (case side1 => exact au15_16)
                              (case side2 => exact (Kd.R_reads' HO428.out).2.1)
                              rintro e w60 ⟨rfl, hb⟩
                              refine ⟨_, rfl, ?_⟩
                              have n0_ := Aside0.mk (Kd.R_below (rk_ HO_5) hb)
                              have n1_ := Aside0.mk (Kd.R_below (rk_ HO421) hb)
                              have n2_ := Aside0.mk (Kd.R_below (rk_ HO428) hb)
                              have n3_ := Aside0.mk (blkb_ BK376 hb)
                              have n4_ := Aside0.mk (blkb_ BK415 hb)
                              have n5_ := Aside0.mk (below_step bl_ hb)
                              clear HO_5
                              clear HO421
                              clear HO428
                              clear BK376
                              clear BK415
                              clear HB
                              have HO_5 := n0_
                              have HO421 := n1_
                              have HO428 := n2_
                              have BK376 := n3_
                              have BK415 := n4_
                              have HB := n5_
                              clear n0_ n1_ n2_ n3_ n4_ n5_
                              (try clear hb)
                              (try clear hb2)
                              (try clear hk)
                              (try clear hi)
                              refine hK.out _ _ ⟨(blk_cell BK415.out 0).trans rfl, (blk_cell BK415.out 1).trans rfl, (blk_cell BK415.out 2).trans rfl⟩ (fun hHeld => ?_)
                              clear hK K
                              refine norm_ (a' := ?_) ?_ ?_
                              rotate_left
                              · show Act.put _ (some 69) _ = _
                                simp only [Act.put, List.setIfInBounds_toArray, List.set_cons_zero, List.set_cons_succ, i64_w, i32_w]
                                rfl
                              refine pu_ 22 72 (bs 24 8388607) HT_ ?_ rfl rfl
                              refine pu_ 23 73 (bs 24 16777215) HT_ ?_ rfl rfl
                              refine done_ (done_of HT_.out (by kernel_rfl)) ?_
                              try go_wp2
                              go_roundg k2
                              case measure => have := HJ8.out; have := HK2.out; omega
                              case rel => exact ⟨(wrap64 (x7_2 + 1)), er_, H', ⟨by have := HJ8.out; have := HK2.out; omega⟩, ⟨by (with_reducible repeat (first | apply Kd.R_alloc | apply Kd.R_drewN | apply Kd.R_drew)); exact Kd.R_mono HO_5.out (fun _ hk => hk.1.2.1)⟩, ⟨bk_ BK376⟩, ⟨bl_⟩⟩
                            · rw [if_neg c44] at H
                              have c44b0 : (t429.toList == ((rd_T37 t384 x7_2).f1).toList) = false := beq_eq_false_iff_ne.mpr c44
                              have c44b1 : (t429.toList != ((rd_T37 t384 x7_2).f1).toList) = true := bne_iff_ne.mpr c44
                              obtain rfl := Option.some.inj H
                              obtain ⟨Ao61, co61, eo61⟩ := Kd.R_slice HO_5.out
                              subst eo61
                              have p414 : 0 ≤ (x7_2 : Int) := of_decide_eq_true as_
                              have q414 : x7_2 < (t384.length : Int) := of_decide_eq_true as_
                              obtain ⟨ad414, e414, hx414_0, hx414_1, hx414_2⟩ := at_T37 (Kd.R_reads' HO_5.out).2.2 x7_2 p414 q414
                              cases e414
                              replace p414 := eq_true p414
                              replace q414 := eq_true q414
                              try go_wp2_with (first | ((with_reducible refine gate_dst (N := 8) rfl ?_); (try (refine gate_guard (by rfl) ?_; dsimp only)); refine box_event ?hg (N := 8) ?hd (cs := #[.string (⟨#[]⟩ : ByteArray), .string (⟨#[]⟩ : ByteArray), .string (⟨#[]⟩ : ByteArray)]) (t := 37) ?hr ?_; (case hd => rfl); (case hg => rfl); (case hr => exact hr_); intro gb415 hg w62 hbox hb; have n0_ := Aside0.mk (Kd.R_below (Kd.R_elderB (rk_ HO_5) gb415 (Nat.le_of_eq hg.symm)) hb); have n1_ := Aside0.mk (blkb_ BK376 hb); have n2_ := Aside0.mk (below_step bl_ hb); have n3_ := Aside0.mk (hbox); have n4_ := Aside0.mk (gw_ hg bl_); have n5_ := Aside0.mk (gw_ hg bl_); have n6_ := Aside0.mk (gn_ hg (blkl_ BK376)); have n7_ := Aside0.mk (gm_ hg (blkl_ BK376)); clear HO_5; clear BK376; clear HB; have HO_5 := n0_; have BK376 := n1_; have HB := n2_; have BK415 := n3_; have GW415 := n4_; have GE415 := n5_; have NB376_415 := n6_; have NB415_376 := n7_; clear n0_ n1_ n2_ n3_ n4_ n5_ n6_ n7_; clear hb hbox hg; have hnb63 := NB415_376.out; have hnc63 := NB376_415.out; obtain ⟨hcz64_0, hcz64_1, hcz64_2, hfz64_0, hfz64_1, hfz64_2⟩ := cellsF3 BK415.out))
                              have n0_ : Aside0 (Kd.R k37 37 (((w62.setCell ⟨gb415, 0, none⟩ (.string ((rd_T37 t384 x7_2).f0))).setCell ⟨gb415, 1, none⟩ (.string ((rd_T37 t384 x7_2).f1))).setCell ⟨gb415, 2, none⟩ (.string ((rd_T37 t384 x7_2).f2))) w.heap.size (fun k_ => k_ ≠ gb376 ∧ k_ ≠ gb415) (.slice (some ad414) t384.length co61) t384) := ⟨au15_3⟩
                              have n1_ : Aside0 ((((w62.setCell ⟨gb415, 0, none⟩ (.string ((rd_T37 t384 x7_2).f0))).setCell ⟨gb415, 1, none⟩ (.string ((rd_T37 t384 x7_2).f1))).setCell ⟨gb415, 2, none⟩ (.string ((rd_T37 t384 x7_2).f2))).heap[gb376]? = some (.cells #[.string t373, .string t374, .string t375] 37 (0, 0))) := ⟨au15_2⟩
                              have n2_ : Aside0 ((((w62.setCell ⟨gb415, 0, none⟩ (.string ((rd_T37 t384 x7_2).f0))).setCell ⟨gb415, 1, none⟩ (.string ((rd_T37 t384 x7_2).f1))).setCell ⟨gb415, 2, none⟩ (.string ((rd_T37 t384 x7_2).f2))).heap[gb415]? = some (.cells #[.string ((rd_T37 t384 x7_2).f0), .string ((rd_T37 t384 x7_2).f1), .string ((rd_T37 t384 x7_2).f2)] 37 (0, 0))) := ⟨au15_0⟩
                              have n3_ : Aside0 (Below w.heap.size w (((w62.setCell ⟨gb415, 0, none⟩ (.string ((rd_T37 t384 x7_2).f0))).setCell ⟨gb415, 1, none⟩ (.string ((rd_T37 t384 x7_2).f1))).setCell ⟨gb415, 2, none⟩ (.string ((rd_T37 t384 x7_2).f2)))) := ⟨bl_⟩
                              (try clear HO_5)
                              (try clear BK376)
                              (try clear BK415)
                              (try clear HB)
                              generalize (((w62.setCell ⟨gb415, 0, none⟩ (.string ((rd_T37 t384 x7_2).f0))).setCell ⟨gb415, 1, none⟩ (.string ((rd_T37 t384 x7_2).f1))).setCell ⟨gb415, 2, none⟩ (.string ((rd_T37 t384 x7_2).f2))) = w65 at n0_ n1_ n2_ n3_ ⊢
                              have HO_5 := n0_
                              have BK376 := n1_
                              have BK415 := n2_
                              have HB := n3_
                              clear n0_ n1_ n2_ n3_
                              have n0_ := Aside0.mk (Kd.R_drew HO_5.out)
                              have n1_ := Aside0.mk (blk_drew BK376.out)
                              have n2_ := Aside0.mk (blk_drew BK415.out)
                              have n3_ := Aside0.mk (below_drew1 HB.out)
                              clear HO_5
                              clear BK376
                              clear BK415
                              clear HB
                              have HO_5 := n0_
                              have BK376 := n1_
                              have BK415 := n2_
                              have HB := n3_
                              clear n0_ n1_ n2_ n3_
                              refine start_ (n := 24) (S := fun w' => w'.cell? ⟨gb415, 0, none⟩ = some (.string ((rd_T37 t384 x7_2).f0)) ∧ w'.cell? ⟨gb415, 1, none⟩ = some (.string ((rd_T37 t384 x7_2).f1)) ∧ w'.cell? ⟨gb415, 2, none⟩ = some (.string ((rd_T37 t384 x7_2).f2))) (ds := []) (bs 24 0) (by kernel_rfl) rfl rfl ⟨(blk_cell BK415.out 0).trans rfl, (blk_cell BK415.out 1).trans rfl, (blk_cell BK415.out 2).trans rfl⟩ (fun hHeld => ?_); refine with_tabW laws_FnCross.tab14 laws_FnCross.bits14 (fun HT_ HW_ => ?_)
                              generalize w65.drew = w66 at HO_5 BK376 BK415 HB hHeld ⊢
                              refine pu_ 1 51 (bs 24 2) HT_ ?_ rfl rfl
                              refine pu_ 3 53 (bs 24 10) HT_ ?_ rfl rfl
                              refine pu_ 5 55 (bs 24 42) HT_ ?_ rfl rfl
                              refine pu_ 8 58 (bs 24 298) HT_ ?_ rfl rfl
                              refine tk_ 4 54 (bs 24 314) HT_ HW_ hHeld au15_4 ?_ rfl rfl
                              refine tk_ 6 56 (bs 24 378) HT_ HW_ hHeld au15_4 ?_ rfl rfl
                              refine tk_ 9 59 (bs 24 890) HT_ HW_ hHeld au15_4 ?_ rfl rfl
                              refine one_ (i := 0) (N := some 50) (bs 24 891) rfl rfl (one_of HT_.out (by kernel_rfl)) (by decide) (fun K hK => ?_)
                              refine Kd.R_lit_step k37 _ 37 ?hg (N := 50) ?hd (xs := ([] : List (S37))) (inner := []) (ok := fun _ => True) (okp := fun _ => True) ?hr ?hp (fun _ hk => hk) trivial (Below.refl _ _) (Nat.le_refl _) (by simp) ?_; (case hd => rfl); (case hg => rfl); (case hr => exact hr_); (case hp => exact (Reps.none _ _))
                              intro v417 w67 ho68 hb hg_ hnew_
                              clear hg_ hnew_
                              (first | rw [← Ny416.out] at ho68 | (simp only [Int.reduceToNat] at ho68; rw [← Ny416.out] at ho68))
                              have n0_ := Aside0.mk (Kd.R_elder' (rk_ HO_5) (Kd.R_base ho68) hb)
                              have n1_ := Aside0.mk (Kd.R_lower (Kd.R_newB (Kd.R_newB (Kd.R_new' ho68 (Kd.R_lt (rk_ HO_5))) (g := gb376) (o := .cells #[.string t373, .string t374, .string t375] 37 (0, 0)) (bk_ BK376)) (g := gb415) (o := .cells #[.string ((rd_T37 t384 x7_2).f0), .string ((rd_T37 t384 x7_2).f1), .string ((rd_T37 t384 x7_2).f2)] 37 (0, 0)) (bk_ BK415)) (below_size bl_))
                              have n2_ := Aside0.mk (blkb_ BK376 hb)
                              have n3_ := Aside0.mk (blkb_ BK415 hb)
                              have n4_ := Aside0.mk (below_step bl_ hb)
                              clear HO_5
                              clear BK376
                              clear BK415
                              clear HB
                              have HO_5 := n0_
                              have HO418 := n1_
                              have BK376 := n2_
                              have BK415 := n3_
                              have HB := n4_
                              clear n0_ n1_ n2_ n3_ n4_
                              clear hb ho68
                              refine hK.out _ _ ⟨(blk_cell BK415.out 0).trans rfl, (blk_cell BK415.out 1).trans rfl, (blk_cell BK415.out 2).trans rfl⟩ (fun hHeld => ?_)
                              clear hK K
                              refine norm_ (a' := ?_) ?_ ?_
                              rotate_left
                              · show Act.put _ (some 50) _ = _
                                simp only [Act.put, List.setIfInBounds_toArray, List.set_cons_zero, List.set_cons_succ, i64_w, i32_w]
                                rfl
                              refine one_ (i := 2) (N := some 52) (bs 24 895) rfl rfl (one_of HT_.out (by kernel_rfl)) (by decide) (fun K hK => ?_)
                              refine Kd.R_append_rows_step k37 (w0 := w) w.heap.size (by rfl) (.tmp 50) (.tmp 51) 25 37 (.agg #[(.string ⟨#[]⟩), (.string ⟨#[]⟩), (.string ⟨#[]⟩)]) 48 rfl Try.underlying25 info37 rfl (by decide) (by omega) v417 y416 t384 _ _ _ (fun k_ => some k_ ≠ (.slice (some ad414) t384.length co61 : Value).ownBlock ∧ k_ ≠ gb376 ∧ k_ ≠ gb415) (fun _ => False) rfl rfl ?aO ?aR (fun _ _ h => h) (fun _ h => h.elim) ?aF ?aB ?aS ?aL ?_
                              (case aR => exact au15_5)
                              (case aB => exact bl_)
                              (case aF => exact au15_7)
                              (case aO => exact au15_12)
                              (case aS => exact (below_size bl_))
                              (case aL => have := LMc39.out; omega)
                              intro v420 w69 ho hb hg hat
                              rw [← Ny419.out] at ho
                              have n0_ := Aside0.mk (Kd.R_after (ok := (fun k_ => k_ ≠ gb376 ∧ k_ ≠ gb415)) (rk_ HO_5) hg hat)
                              have n1_ := Aside0.mk (blk_grown (g := gb376) (o := .cells #[.string t373, .string t374, .string t375] 37 (0, 0)) (bk_ BK376) hg (Kd.R_away HO418.out (fun _ hk => hk.1.2)))
                              have n2_ := Aside0.mk (blk_grown (g := gb415) (o := .cells #[.string ((rd_T37 t384 x7_2).f0), .string ((rd_T37 t384 x7_2).f1), .string ((rd_T37 t384 x7_2).f2)] 37 (0, 0)) (bk_ BK415) hg (Kd.R_away HO418.out (fun _ hk => hk.2)))
                              have n3_ := Aside0.mk (hb)
                              have n4_ := Aside0.mk (ho)
                              clear HO_5
                              clear BK376
                              clear BK415
                              clear HB
                              clear HO418
                              have HO_5 := n0_
                              have BK376 := n1_
                              have BK415 := n2_
                              have HB := n3_
                              have HO421 := n4_
                              clear n0_ n1_ n2_ n3_ n4_
                              clear ho hb hg hat
                              obtain ⟨Ao70, co70, eo70⟩ := Kd.R_slice HO421.out
                              (first | subst eo70 | (injection eo70 with f1_ f2_ f3_; have f4_ := f1_.symm; have f5_ := f3_.symm; clear f1_ f2_ f3_; subst f4_; subst f5_))
                              refine hK.out _ _ ⟨(blk_cell BK415.out 0).trans rfl, (blk_cell BK415.out 1).trans rfl, (blk_cell BK415.out 2).trans rfl⟩ (fun hHeld => ?_)
                              clear hK K
                              refine norm_ (a' := ?_) ?_ ?_
                              rotate_left
                              · show Act.put _ (some 52) _ = _
                                simp only [Act.put, List.setIfInBounds_toArray, List.set_cons_zero, List.set_cons_succ, i64_w, i32_w]
                                rfl
                              refine one_ (i := 7) (N := some 57) (bs 24 1023) rfl rfl (one_of HT_.out (by kernel_rfl)) (by decide) (fun K hK => ?_)
                              refine gr_ Try.func20 #[.slice Ao70 y419.length co70, .string ((rd_T37 t384 x7_2).f0), .string ((rd_T37 t384 x7_2).f1)] (by rfl) ?_ rfl rfl rfl
                              with_reducible refine (impl_CrossOwn.calls k2 _ _ y419 ((rd_T37 t384 x7_2).f0) ((rd_T37 t384 x7_2).f1) t422 _ ?side1 ?side2 A40.out).mono ?_
                              (case side1 => exact au15_11)
                              (case side2 => exact (Kd.R_reads' HO421.out).2.1)
                              rintro e w71 ⟨rfl, hb⟩
                              refine ⟨_, rfl, ?_⟩
                              have n0_ := Aside0.mk (Kd.R_below (rk_ HO_5) hb)
                              have n1_ := Aside0.mk (Kd.R_below (rk_ HO421) hb)
                              have n2_ := Aside0.mk (blkb_ BK376 hb)
                              have n3_ := Aside0.mk (blkb_ BK415 hb)
                              have n4_ := Aside0.mk (below_step bl_ hb)
                              clear HO_5
                              clear HO421
                              clear BK376
                              clear BK415
                              clear HB
                              have HO_5 := n0_
                              have HO421 := n1_
                              have BK376 := n2_
                              have BK415 := n3_
                              have HB := n4_
                              clear n0_ n1_ n2_ n3_ n4_
                              (try clear hb)
                              (try clear hb2)
                              (try clear hk)
                              (try clear hi)
                              refine hK.out _ _ ⟨(blk_cell BK415.out 0).trans rfl, (blk_cell BK415.out 1).trans rfl, (blk_cell BK415.out 2).trans rfl⟩ (fun hHeld => ?_)
                              clear hK K
                              refine norm_ (a' := ?_) ?_ ?_
                              rotate_left
                              · show Act.put _ (some 57) _ = _
                                simp only [Act.put, List.setIfInBounds_toArray, List.set_cons_zero, List.set_cons_succ, i64_w, i32_w]
                                rfl
                              refine pu_ 10 60 (bs 24 2047) HT_ ?_ rfl rfl
                              refine pu_ 11 61 (bs 24 4095) HT_ ?_ rfl rfl
                              refine pu_ 13 63 (bs 24 12287) HT_ ?_ rfl rfl
                              refine pu_ 15 65 (bs 24 45055) HT_ ?_ rfl rfl
                              refine pu_ 17 67 (bs 24 176127) HT_ ?_ rfl rfl
                              refine pu_ 20 70 (bs 24 1224703) HT_ ?_ rfl rfl
                              refine tk_ 16 66 (bs 24 1290239) HT_ HW_ hHeld au15_4 ?_ rfl rfl
                              refine tk_ 18 68 (bs 24 1552383) HT_ HW_ hHeld au15_4 ?_ rfl rfl
                              refine tk_ 21 71 (bs 24 3649535) HT_ HW_ hHeld au15_4 ?_ rfl rfl
                              refine one_ (i := 12) (N := some 62) (bs 24 3653631) rfl rfl (one_of HT_.out (by kernel_rfl)) (by decide) (fun K hK => ?_)
                              refine Kd.R_lit_step k37 _ 37 ?hg (N := 62) ?hd (xs := ([] : List (S37))) (inner := []) (ok := fun _ => True) (okp := fun _ => True) ?hr ?hp (fun _ hk => hk) trivial (Below.refl _ _) (Nat.le_refl _) (by simp) ?_; (case hd => rfl); (case hg => rfl); (case hr => exact hr_); (case hp => exact (Reps.none _ _))
                              intro v424 w72 ho73 hb hg_ hnew_
                              clear hg_ hnew_
                              (first | rw [← Ny423.out] at ho73 | (simp only [Int.reduceToNat] at ho73; rw [← Ny423.out] at ho73))
                              have n0_ := Aside0.mk (Kd.R_elder' (rk_ HO_5) (Kd.R_base ho73) hb)
                              have n1_ := Aside0.mk (Kd.R_elder' (rk_ HO421) (Kd.R_base ho73) hb)
                              have n2_ := Aside0.mk (Kd.R_lower (Kd.R_newB (Kd.R_newB (Kd.R_new' (Kd.R_new' ho73 (Kd.R_lt (rk_ HO_5))) (Kd.R_lt (rk_ HO421))) (g := gb376) (o := .cells #[.string t373, .string t374, .string t375] 37 (0, 0)) (bk_ BK376)) (g := gb415) (o := .cells #[.string ((rd_T37 t384 x7_2).f0), .string ((rd_T37 t384 x7_2).f1), .string ((rd_T37 t384 x7_2).f2)] 37 (0, 0)) (bk_ BK415)) (below_size bl_))
                              have n3_ := Aside0.mk (blkb_ BK376 hb)
                              have n4_ := Aside0.mk (blkb_ BK415 hb)
                              have n5_ := Aside0.mk (below_step bl_ hb)
                              clear HO_5
                              clear HO421
                              clear BK376
                              clear BK415
                              clear HB
                              have HO_5 := n0_
                              have HO421 := n1_
                              have HO425 := n2_
                              have BK376 := n3_
                              have BK415 := n4_
                              have HB := n5_
                              clear n0_ n1_ n2_ n3_ n4_ n5_
                              clear hb ho73
                              refine hK.out _ _ ⟨(blk_cell BK415.out 0).trans rfl, (blk_cell BK415.out 1).trans rfl, (blk_cell BK415.out 2).trans rfl⟩ (fun hHeld => ?_)
                              clear hK K
                              refine norm_ (a' := ?_) ?_ ?_
                              rotate_left
                              · show Act.put _ (some 62) _ = _
                                simp only [Act.put, List.setIfInBounds_toArray, List.set_cons_zero, List.set_cons_succ, i64_w, i32_w]
                                rfl
                              refine one_ (i := 14) (N := some 64) (bs 24 3670015) rfl rfl (one_of HT_.out (by kernel_rfl)) (by decide) (fun K hK => ?_)
                              refine Kd.R_append_rows_step k37 (w0 := w) w.heap.size (by rfl) (.tmp 62) (.tmp 63) 25 37 (.agg #[(.string ⟨#[]⟩), (.string ⟨#[]⟩), (.string ⟨#[]⟩)]) 48 rfl Try.underlying25 info37 rfl (by decide) (by omega) v424 y423 t384 _ _ _ (fun k_ => some k_ ≠ (.slice (some ad414) t384.length co61 : Value).ownBlock ∧ some k_ ≠ (.slice Ao70 y419.length co70 : Value).ownBlock ∧ k_ ≠ gb376 ∧ k_ ≠ gb415) (fun _ => False) rfl rfl ?aO ?aR (fun _ _ h => h) (fun _ h => h.elim) ?aF ?aB ?aS ?aL ?_
                              (case aR => exact au15_5)
                              (case aB => exact bl_)
                              (case aF => exact au15_9)
                              (case aO => exact au15_13)
                              (case aS => exact (below_size bl_))
                              (case aL => have := LMc42.out; omega)
                              intro v427 w74 ho hb hg hat
                              rw [← Ny426.out] at ho
                              have n0_ := Aside0.mk (Kd.R_after (ok := (fun k_ => some k_ ≠ (.slice Ao70 y419.length co70 : Value).ownBlock ∧ k_ ≠ gb376 ∧ k_ ≠ gb415)) au15_17 hg hat)
                              have n1_ := Aside0.mk (blk_grown (g := gb376) (o := .cells #[.string t373, .string t374, .string t375] 37 (0, 0)) (bk_ BK376) hg (Kd.R_away HO425.out (fun _ hk => hk.1.2)))
                              have n2_ := Aside0.mk (blk_grown (g := gb415) (o := .cells #[.string ((rd_T37 t384 x7_2).f0), .string ((rd_T37 t384 x7_2).f1), .string ((rd_T37 t384 x7_2).f2)] 37 (0, 0)) (bk_ BK415) hg (Kd.R_away HO425.out (fun _ hk => hk.2)))
                              have n3_ := Aside0.mk (Kd.R_after (ok := (fun k_ => some k_ ≠ (.slice (some ad414) t384.length co61 : Value).ownBlock ∧ k_ ≠ gb376 ∧ k_ ≠ gb415)) (rk_ HO421) hg hat)
                              have n4_ := Aside0.mk (hb)
                              have n5_ := Aside0.mk (ho)
                              clear HO_5
                              clear BK376
                              clear BK415
                              clear HO421
                              clear HB
                              clear HO425
                              have HO_5 := n0_
                              have BK376 := n1_
                              have BK415 := n2_
                              have HO421 := n3_
                              have HB := n4_
                              have HO428 := n5_
                              clear n0_ n1_ n2_ n3_ n4_ n5_
                              clear ho hb hg hat
                              obtain ⟨Ao75, co75, eo75⟩ := Kd.R_slice HO428.out
                              (first | subst eo75 | (injection eo75 with f1_ f2_ f3_; have f4_ := f1_.symm; have f5_ := f3_.symm; clear f1_ f2_ f3_; subst f4_; subst f5_))
                              refine hK.out _ _ ⟨(blk_cell BK415.out 0).trans rfl, (blk_cell BK415.out 1).trans rfl, (blk_cell BK415.out 2).trans rfl⟩ (fun hHeld => ?_)
                              clear hK K
                              refine norm_ (a' := ?_) ?_ ?_
                              rotate_left
                              · show Act.put _ (some 64) _ = _
                                simp only [Act.put, List.setIfInBounds_toArray, List.set_cons_zero, List.set_cons_succ, i64_w, i32_w]
                                rfl
                              refine one_ (i := 19) (N := some 69) (bs 24 4194303) rfl rfl (one_of HT_.out (by kernel_rfl)) (by decide) (fun K hK => ?_)
                              refine gr_ Try.func22 #[.slice Ao75 y426.length co75, .string ((rd_T37 t384 x7_2).f0), .string ((rd_T37 t384 x7_2).f2)] (by rfl) ?_ rfl rfl rfl
                              with_reducible refine (impl_CrossTheirs.calls k2 _ _ y426 ((rd_T37 t384 x7_2).f0) ((rd_T37 t384 x7_2).f2) t429 _ ?side1 ?side2 A43.out).mono ?_
                              (case side1 => exact au15_16)
                              (case side2 => exact (Kd.R_reads' HO428.out).2.1)
                              rintro e w76 ⟨rfl, hb⟩
                              refine ⟨_, rfl, ?_⟩
                              have n0_ := Aside0.mk (Kd.R_below (rk_ HO_5) hb)
                              have n1_ := Aside0.mk (Kd.R_below (rk_ HO421) hb)
                              have n2_ := Aside0.mk (Kd.R_below (rk_ HO428) hb)
                              have n3_ := Aside0.mk (blkb_ BK376 hb)
                              have n4_ := Aside0.mk (blkb_ BK415 hb)
                              have n5_ := Aside0.mk (below_step bl_ hb)
                              clear HO_5
                              clear HO421
                              clear HO428
                              clear BK376
                              clear BK415
                              clear HB
                              have HO_5 := n0_
                              have HO421 := n1_
                              have HO428 := n2_
                              have BK376 := n3_
                              have BK415 := n4_
                              have HB := n5_
                              clear n0_ n1_ n2_ n3_ n4_ n5_
                              (try clear hb)
                              (try clear hb2)
                              (try clear hk)
                              (try clear hi)
                              refine hK.out _ _ ⟨(blk_cell BK415.out 0).trans rfl, (blk_cell BK415.out 1).trans rfl, (blk_cell BK415.out 2).trans rfl⟩ (fun hHeld => ?_)
                              clear hK K
                              refine norm_ (a' := ?_) ?_ ?_
                              rotate_left
                              · show Act.put _ (some 69) _ = _
                                simp only [Act.put, List.setIfInBounds_toArray, List.set_cons_zero, List.set_cons_succ, i64_w, i32_w]
                                rfl
                              refine pu_ 22 72 (bs 24 8388607) HT_ ?_ rfl rfl
                              refine pu_ 23 73 (bs 24 16777215) HT_ ?_ rfl rfl
                              refine done_ (done_of HT_.out (by kernel_rfl)) ?_
                              try go_wp2
                              go_ret
                              exact ⟨au15_8, bl_⟩
                          · rw [if_neg c42] at H
                            exact absurd H (by simp)
                        · rw [if_neg c41] at H
                          have c41b0 : (t422.toList == ((rd_T37 t384 x7_2).f2).toList) = false := beq_eq_false_iff_ne.mpr c41
                          have c41b1 : (t422.toList != ((rd_T37 t384 x7_2).f2).toList) = true := bne_iff_ne.mpr c41
                          obtain rfl := Option.some.inj H
                          obtain ⟨Ao77, co77, eo77⟩ := Kd.R_slice HO_5.out
                          subst eo77
                          have p414 : 0 ≤ (x7_2 : Int) := of_decide_eq_true as_
                          have q414 : x7_2 < (t384.length : Int) := of_decide_eq_true as_
                          obtain ⟨ad414, e414, hx414_0, hx414_1, hx414_2⟩ := at_T37 (Kd.R_reads' HO_5.out).2.2 x7_2 p414 q414
                          cases e414
                          replace p414 := eq_true p414
                          replace q414 := eq_true q414
                          try go_wp2_with (first | ((with_reducible refine gate_dst (N := 8) rfl ?_); (try (refine gate_guard (by rfl) ?_; dsimp only)); refine box_event ?hg (N := 8) ?hd (cs := #[.string (⟨#[]⟩ : ByteArray), .string (⟨#[]⟩ : ByteArray), .string (⟨#[]⟩ : ByteArray)]) (t := 37) ?hr ?_; (case hd => rfl); (case hg => rfl); (case hr => exact hr_); intro gb415 hg w78 hbox hb; have n0_ := Aside0.mk (Kd.R_below (Kd.R_elderB (rk_ HO_5) gb415 (Nat.le_of_eq hg.symm)) hb); have n1_ := Aside0.mk (blkb_ BK376 hb); have n2_ := Aside0.mk (below_step bl_ hb); have n3_ := Aside0.mk (hbox); have n4_ := Aside0.mk (gw_ hg bl_); have n5_ := Aside0.mk (gw_ hg bl_); have n6_ := Aside0.mk (gn_ hg (blkl_ BK376)); have n7_ := Aside0.mk (gm_ hg (blkl_ BK376)); clear HO_5; clear BK376; clear HB; have HO_5 := n0_; have BK376 := n1_; have HB := n2_; have BK415 := n3_; have GW415 := n4_; have GE415 := n5_; have NB376_415 := n6_; have NB415_376 := n7_; clear n0_ n1_ n2_ n3_ n4_ n5_ n6_ n7_; clear hb hbox hg; have hnb79 := NB415_376.out; have hnc79 := NB376_415.out; obtain ⟨hcz80_0, hcz80_1, hcz80_2, hfz80_0, hfz80_1, hfz80_2⟩ := cellsF3 BK415.out))
                          have n0_ : Aside0 (Kd.R k37 37 (((w78.setCell ⟨gb415, 0, none⟩ (.string ((rd_T37 t384 x7_2).f0))).setCell ⟨gb415, 1, none⟩ (.string ((rd_T37 t384 x7_2).f1))).setCell ⟨gb415, 2, none⟩ (.string ((rd_T37 t384 x7_2).f2))) w.heap.size (fun k_ => k_ ≠ gb376 ∧ k_ ≠ gb415) (.slice (some ad414) t384.length co77) t384) := ⟨au15_3⟩
                          have n1_ : Aside0 ((((w78.setCell ⟨gb415, 0, none⟩ (.string ((rd_T37 t384 x7_2).f0))).setCell ⟨gb415, 1, none⟩ (.string ((rd_T37 t384 x7_2).f1))).setCell ⟨gb415, 2, none⟩ (.string ((rd_T37 t384 x7_2).f2))).heap[gb376]? = some (.cells #[.string t373, .string t374, .string t375] 37 (0, 0))) := ⟨au15_2⟩
                          have n2_ : Aside0 ((((w78.setCell ⟨gb415, 0, none⟩ (.string ((rd_T37 t384 x7_2).f0))).setCell ⟨gb415, 1, none⟩ (.string ((rd_T37 t384 x7_2).f1))).setCell ⟨gb415, 2, none⟩ (.string ((rd_T37 t384 x7_2).f2))).heap[gb415]? = some (.cells #[.string ((rd_T37 t384 x7_2).f0), .string ((rd_T37 t384 x7_2).f1), .string ((rd_T37 t384 x7_2).f2)] 37 (0, 0))) := ⟨au15_0⟩
                          have n3_ : Aside0 (Below w.heap.size w (((w78.setCell ⟨gb415, 0, none⟩ (.string ((rd_T37 t384 x7_2).f0))).setCell ⟨gb415, 1, none⟩ (.string ((rd_T37 t384 x7_2).f1))).setCell ⟨gb415, 2, none⟩ (.string ((rd_T37 t384 x7_2).f2)))) := ⟨bl_⟩
                          (try clear HO_5)
                          (try clear BK376)
                          (try clear BK415)
                          (try clear HB)
                          generalize (((w78.setCell ⟨gb415, 0, none⟩ (.string ((rd_T37 t384 x7_2).f0))).setCell ⟨gb415, 1, none⟩ (.string ((rd_T37 t384 x7_2).f1))).setCell ⟨gb415, 2, none⟩ (.string ((rd_T37 t384 x7_2).f2))) = w81 at n0_ n1_ n2_ n3_ ⊢
                          have HO_5 := n0_
                          have BK376 := n1_
                          have BK415 := n2_
                          have HB := n3_
                          clear n0_ n1_ n2_ n3_
                          have n0_ := Aside0.mk (Kd.R_drew HO_5.out)
                          have n1_ := Aside0.mk (blk_drew BK376.out)
                          have n2_ := Aside0.mk (blk_drew BK415.out)
                          have n3_ := Aside0.mk (below_drew1 HB.out)
                          clear HO_5
                          clear BK376
                          clear BK415
                          clear HB
                          have HO_5 := n0_
                          have BK376 := n1_
                          have BK415 := n2_
                          have HB := n3_
                          clear n0_ n1_ n2_ n3_
                          refine start_ (n := 24) (S := fun w' => w'.cell? ⟨gb415, 0, none⟩ = some (.string ((rd_T37 t384 x7_2).f0)) ∧ w'.cell? ⟨gb415, 1, none⟩ = some (.string ((rd_T37 t384 x7_2).f1)) ∧ w'.cell? ⟨gb415, 2, none⟩ = some (.string ((rd_T37 t384 x7_2).f2))) (ds := []) (bs 24 0) (by kernel_rfl) rfl rfl ⟨(blk_cell BK415.out 0).trans rfl, (blk_cell BK415.out 1).trans rfl, (blk_cell BK415.out 2).trans rfl⟩ (fun hHeld => ?_); refine with_tabW laws_FnCross.tab14 laws_FnCross.bits14 (fun HT_ HW_ => ?_)
                          generalize w81.drew = w82 at HO_5 BK376 BK415 HB hHeld ⊢
                          refine pu_ 1 51 (bs 24 2) HT_ ?_ rfl rfl
                          refine pu_ 3 53 (bs 24 10) HT_ ?_ rfl rfl
                          refine pu_ 5 55 (bs 24 42) HT_ ?_ rfl rfl
                          refine pu_ 8 58 (bs 24 298) HT_ ?_ rfl rfl
                          refine tk_ 4 54 (bs 24 314) HT_ HW_ hHeld au15_4 ?_ rfl rfl
                          refine tk_ 6 56 (bs 24 378) HT_ HW_ hHeld au15_4 ?_ rfl rfl
                          refine tk_ 9 59 (bs 24 890) HT_ HW_ hHeld au15_4 ?_ rfl rfl
                          refine one_ (i := 0) (N := some 50) (bs 24 891) rfl rfl (one_of HT_.out (by kernel_rfl)) (by decide) (fun K hK => ?_)
                          refine Kd.R_lit_step k37 _ 37 ?hg (N := 50) ?hd (xs := ([] : List (S37))) (inner := []) (ok := fun _ => True) (okp := fun _ => True) ?hr ?hp (fun _ hk => hk) trivial (Below.refl _ _) (Nat.le_refl _) (by simp) ?_; (case hd => rfl); (case hg => rfl); (case hr => exact hr_); (case hp => exact (Reps.none _ _))
                          intro v417 w83 ho84 hb hg_ hnew_
                          clear hg_ hnew_
                          (first | rw [← Ny416.out] at ho84 | (simp only [Int.reduceToNat] at ho84; rw [← Ny416.out] at ho84))
                          have n0_ := Aside0.mk (Kd.R_elder' (rk_ HO_5) (Kd.R_base ho84) hb)
                          have n1_ := Aside0.mk (Kd.R_lower (Kd.R_newB (Kd.R_newB (Kd.R_new' ho84 (Kd.R_lt (rk_ HO_5))) (g := gb376) (o := .cells #[.string t373, .string t374, .string t375] 37 (0, 0)) (bk_ BK376)) (g := gb415) (o := .cells #[.string ((rd_T37 t384 x7_2).f0), .string ((rd_T37 t384 x7_2).f1), .string ((rd_T37 t384 x7_2).f2)] 37 (0, 0)) (bk_ BK415)) (below_size bl_))
                          have n2_ := Aside0.mk (blkb_ BK376 hb)
                          have n3_ := Aside0.mk (blkb_ BK415 hb)
                          have n4_ := Aside0.mk (below_step bl_ hb)
                          clear HO_5
                          clear BK376
                          clear BK415
                          clear HB
                          have HO_5 := n0_
                          have HO418 := n1_
                          have BK376 := n2_
                          have BK415 := n3_
                          have HB := n4_
                          clear n0_ n1_ n2_ n3_ n4_
                          clear hb ho84
                          refine hK.out _ _ ⟨(blk_cell BK415.out 0).trans rfl, (blk_cell BK415.out 1).trans rfl, (blk_cell BK415.out 2).trans rfl⟩ (fun hHeld => ?_)
                          clear hK K
                          refine norm_ (a' := ?_) ?_ ?_
                          rotate_left
                          · show Act.put _ (some 50) _ = _
                            simp only [Act.put, List.setIfInBounds_toArray, List.set_cons_zero, List.set_cons_succ, i64_w, i32_w]
                            rfl
                          refine one_ (i := 2) (N := some 52) (bs 24 895) rfl rfl (one_of HT_.out (by kernel_rfl)) (by decide) (fun K hK => ?_)
                          refine Kd.R_append_rows_step k37 (w0 := w) w.heap.size (by rfl) (.tmp 50) (.tmp 51) 25 37 (.agg #[(.string ⟨#[]⟩), (.string ⟨#[]⟩), (.string ⟨#[]⟩)]) 48 rfl Try.underlying25 info37 rfl (by decide) (by omega) v417 y416 t384 _ _ _ (fun k_ => some k_ ≠ (.slice (some ad414) t384.length co77 : Value).ownBlock ∧ k_ ≠ gb376 ∧ k_ ≠ gb415) (fun _ => False) rfl rfl ?aO ?aR (fun _ _ h => h) (fun _ h => h.elim) ?aF ?aB ?aS ?aL ?_
                          (case aR => exact au15_5)
                          (case aB => exact bl_)
                          (case aF => exact au15_7)
                          (case aO => exact au15_12)
                          (case aS => exact (below_size bl_))
                          (case aL => have := LMc39.out; omega)
                          intro v420 w85 ho hb hg hat
                          rw [← Ny419.out] at ho
                          have n0_ := Aside0.mk (Kd.R_after (ok := (fun k_ => k_ ≠ gb376 ∧ k_ ≠ gb415)) (rk_ HO_5) hg hat)
                          have n1_ := Aside0.mk (blk_grown (g := gb376) (o := .cells #[.string t373, .string t374, .string t375] 37 (0, 0)) (bk_ BK376) hg (Kd.R_away HO418.out (fun _ hk => hk.1.2)))
                          have n2_ := Aside0.mk (blk_grown (g := gb415) (o := .cells #[.string ((rd_T37 t384 x7_2).f0), .string ((rd_T37 t384 x7_2).f1), .string ((rd_T37 t384 x7_2).f2)] 37 (0, 0)) (bk_ BK415) hg (Kd.R_away HO418.out (fun _ hk => hk.2)))
                          have n3_ := Aside0.mk (hb)
                          have n4_ := Aside0.mk (ho)
                          clear HO_5
                          clear BK376
                          clear BK415
                          clear HB
                          clear HO418
                          have HO_5 := n0_
                          have BK376 := n1_
                          have BK415 := n2_
                          have HB := n3_
                          have HO421 := n4_
                          clear n0_ n1_ n2_ n3_ n4_
                          clear ho hb hg hat
                          obtain ⟨Ao86, co86, eo86⟩ := Kd.R_slice HO421.out
                          (first | subst eo86 | (injection eo86 with f1_ f2_ f3_; have f4_ := f1_.symm; have f5_ := f3_.symm; clear f1_ f2_ f3_; subst f4_; subst f5_))
                          refine hK.out _ _ ⟨(blk_cell BK415.out 0).trans rfl, (blk_cell BK415.out 1).trans rfl, (blk_cell BK415.out 2).trans rfl⟩ (fun hHeld => ?_)
                          clear hK K
                          refine norm_ (a' := ?_) ?_ ?_
                          rotate_left
                          · show Act.put _ (some 52) _ = _
                            simp only [Act.put, List.setIfInBounds_toArray, List.set_cons_zero, List.set_cons_succ, i64_w, i32_w]
                            rfl
                          refine one_ (i := 7) (N := some 57) (bs 24 1023) rfl rfl (one_of HT_.out (by kernel_rfl)) (by decide) (fun K hK => ?_)
                          refine gr_ Try.func20 #[.slice Ao86 y419.length co86, .string ((rd_T37 t384 x7_2).f0), .string ((rd_T37 t384 x7_2).f1)] (by rfl) ?_ rfl rfl rfl
                          with_reducible refine (impl_CrossOwn.calls k2 _ _ y419 ((rd_T37 t384 x7_2).f0) ((rd_T37 t384 x7_2).f1) t422 _ ?side1 ?side2 A40.out).mono ?_
                          (case side1 => exact au15_11)
                          (case side2 => exact (Kd.R_reads' HO421.out).2.1)
                          rintro e w87 ⟨rfl, hb⟩
                          refine ⟨_, rfl, ?_⟩
                          have n0_ := Aside0.mk (Kd.R_below (rk_ HO_5) hb)
                          have n1_ := Aside0.mk (Kd.R_below (rk_ HO421) hb)
                          have n2_ := Aside0.mk (blkb_ BK376 hb)
                          have n3_ := Aside0.mk (blkb_ BK415 hb)
                          have n4_ := Aside0.mk (below_step bl_ hb)
                          clear HO_5
                          clear HO421
                          clear BK376
                          clear BK415
                          clear HB
                          have HO_5 := n0_
                          have HO421 := n1_
                          have BK376 := n2_
                          have BK415 := n3_
                          have HB := n4_
                          clear n0_ n1_ n2_ n3_ n4_
                          (try clear hb)
                          (try clear hb2)
                          (try clear hk)
                          (try clear hi)
                          refine hK.out _ _ ⟨(blk_cell BK415.out 0).trans rfl, (blk_cell BK415.out 1).trans rfl, (blk_cell BK415.out 2).trans rfl⟩ (fun hHeld => ?_)
                          clear hK K
                          refine norm_ (a' := ?_) ?_ ?_
                          rotate_left
                          · show Act.put _ (some 57) _ = _
                            simp only [Act.put, List.setIfInBounds_toArray, List.set_cons_zero, List.set_cons_succ, i64_w, i32_w]
                            rfl
                          refine pu_ 10 60 (bs 24 2047) HT_ ?_ rfl rfl
                          refine pu_ 11 61 (bs 24 4095) HT_ ?_ rfl rfl
                          refine pv_ 12 62 (bs 24 8191) HT_ ?_ rfl rfl
                          refine pv_ 13 63 (bs 24 16383) HT_ ?_ rfl rfl
                          refine pv_ 14 64 (bs 24 32767) HT_ ?_ rfl rfl
                          refine pv_ 15 65 (bs 24 65535) HT_ ?_ rfl rfl
                          refine pv_ 16 66 (bs 24 131071) HT_ ?_ rfl rfl
                          refine pv_ 17 67 (bs 24 262143) HT_ ?_ rfl rfl
                          refine pv_ 18 68 (bs 24 524287) HT_ ?_ rfl rfl
                          refine pv_ 19 69 (bs 24 1048575) HT_ ?_ rfl rfl
                          refine pv_ 20 70 (bs 24 2097151) HT_ ?_ rfl rfl
                          refine pv_ 21 71 (bs 24 4194303) HT_ ?_ rfl rfl
                          refine pv_ 22 72 (bs 24 8388607) HT_ ?_ rfl rfl
                          refine pu_ 23 73 (bs 24 16777215) HT_ ?_ rfl rfl
                          refine done_ (done_of HT_.out (by kernel_rfl)) ?_
                          try go_wp2
                          go_ret
                          exact ⟨au15_8, bl_⟩
                      · rw [if_neg c39] at H
                        exact absurd H (by simp)
                    · rw [if_neg c38] at H
                      exact absurd H (by simp)
                  · rw [if_neg c37] at H
                    have c37b0 : decide (x7_2 < (t384.length : Int)) = false := decide_eq_false c37
                    clear c37
                    obtain ⟨y398, hy398⟩ : ∃ y_ : List (S37), y_ = (([] : List (S37))) := ⟨_, rfl⟩
                    replace H : (if y398.length + t384.length < 2932031007402 then ((impl_CrossDrop.f k2 (y398 ++ t384) t373 t374).bind fun t404 => ((some (([] : List (S37)) : List (S37))).bind fun y407 => (if y407.length + t404.length < 2932031007402 then ((impl_CrossOwn.f k2 (y407 ++ t404) t373 t374).bind fun t413 => (some (t413.toList == t374.toList))) else (none)))) else (none)) = some r := by first | (rw [hy398]; with_reducible exact H) | (have H2_ := (Option.bind_some _ _).symm.trans H; rw [hy398]; with_reducible exact H2_) | (have H2_ := (Option.bind_some _ _).symm.trans H; with_reducible exact H2_) | with_reducible exact H | (rw [hy398]; exact H) | exact H
                    have Ny398 := Aside0.mk hy398
                    clear hy398
                    by_cases c88 : y398.length + t384.length < 2932031007402
                    · rw [if_pos c88] at H
                      have LMc88 := Aside0.mk c88
                      clear c88
                      obtain ⟨y401, hy401⟩ : ∃ y_ : List (S37), y_ = (y398 ++ t384) := ⟨_, rfl⟩
                      replace H : ((impl_CrossDrop.f k2 y401 t373 t374).bind fun t404 => ((some (([] : List (S37)) : List (S37))).bind fun y407 => (if y407.length + t404.length < 2932031007402 then ((impl_CrossOwn.f k2 (y407 ++ t404) t373 t374).bind fun t413 => (some (t413.toList == t374.toList))) else (none)))) = some r := by first | (rw [hy401]; with_reducible exact H) | (have H2_ := (Option.bind_some _ _).symm.trans H; rw [hy401]; with_reducible exact H2_) | (have H2_ := (Option.bind_some _ _).symm.trans H; with_reducible exact H2_) | with_reducible exact H | (rw [hy401]; exact H) | exact H
                      have Ny401 := Aside0.mk hy401
                      clear hy401
                      replace H := Option.bind_eq_some_iff.mp H
                      obtain ⟨t404, A890, H⟩ := H
                      replace H : ((some (([] : List (S37)) : List (S37))).bind fun y407 => (if y407.length + t404.length < 2932031007402 then ((impl_CrossOwn.f k2 (y407 ++ t404) t373 t374).bind fun t413 => (some (t413.toList == t374.toList))) else (none))) = some r := H
                      have A89 := Aside0.mk A890
                      clear A890
                      obtain ⟨y407, hy407⟩ : ∃ y_ : List (S37), y_ = (([] : List (S37))) := ⟨_, rfl⟩
                      replace H : (if y407.length + t404.length < 2932031007402 then ((impl_CrossOwn.f k2 (y407 ++ t404) t373 t374).bind fun t413 => (some (t413.toList == t374.toList))) else (none)) = some r := by first | (rw [hy407]; with_reducible exact H) | (have H2_ := (Option.bind_some _ _).symm.trans H; rw [hy407]; with_reducible exact H2_) | (have H2_ := (Option.bind_some _ _).symm.trans H; with_reducible exact H2_) | with_reducible exact H | (rw [hy407]; exact H) | exact H
                      have Ny407 := Aside0.mk hy407
                      clear hy407
                      by_cases c90 : y407.length + t404.length < 2932031007402
                      · rw [if_pos c90] at H
                        have LMc90 := Aside0.mk c90
                        clear c90
                        obtain ⟨y410, hy410⟩ : ∃ y_ : List (S37), y_ = (y407 ++ t404) := ⟨_, rfl⟩
                        replace H : ((impl_CrossOwn.f k2 y410 t373 t374).bind fun t413 => (some (t413.toList == t374.toList))) = some r := by first | (rw [hy410]; with_reducible exact H) | (have H2_ := (Option.bind_some _ _).symm.trans H; rw [hy410]; with_reducible exact H2_) | (have H2_ := (Option.bind_some _ _).symm.trans H; with_reducible exact H2_) | with_reducible exact H | (rw [hy410]; exact H) | exact H
                        have Ny410 := Aside0.mk hy410
                        clear hy410
                        replace H := Option.bind_eq_some_iff.mp H
                        obtain ⟨t413, A910, H⟩ := H
                        replace H : (some (t413.toList == t374.toList)) = some r := H
                        have A91 := Aside0.mk A910
                        clear A910
                        obtain rfl := Option.some.inj H
                        obtain ⟨Ao92, co92, eo92⟩ := Kd.R_slice HO_5.out
                        subst eo92
                        try go_wp2
                        have n0_ := Aside0.mk (Kd.R_drew HO_5.out)
                        have n1_ := Aside0.mk (blk_drew BK376.out)
                        have n2_ := Aside0.mk (below_drew1 HB.out)
                        clear HO_5
                        clear BK376
                        clear HB
                        have HO_5 := n0_
                        have BK376 := n1_
                        have HB := n2_
                        clear n0_ n1_ n2_
                        refine start_ (n := 9) (S := fun w' => w'.cell? ⟨gb376, 0, none⟩ = some (.string t373) ∧ w'.cell? ⟨gb376, 1, none⟩ = some (.string t374) ∧ w'.cell? ⟨gb376, 2, none⟩ = some (.string t375)) (ds := []) (bs 9 0) (by kernel_rfl) rfl rfl ⟨(blk_cell BK376.out 0).trans rfl, (blk_cell BK376.out 1).trans rfl, (blk_cell BK376.out 2).trans rfl⟩ (fun hHeld => ?_); refine with_tabW laws_FnCross.tab16 laws_FnCross.bits16 (fun HT_ HW_ => ?_)
                        generalize wr.drew = w93 at HO_5 BK376 HB hHeld ⊢
                        refine pu_ 1 75 (bs 9 2) HT_ ?_ rfl rfl
                        refine pu_ 3 77 (bs 9 10) HT_ ?_ rfl rfl
                        refine pu_ 5 79 (bs 9 42) HT_ ?_ rfl rfl
                        refine tk_ 4 78 (bs 9 58) HT_ HW_ hHeld au15_4 ?_ rfl rfl
                        refine tk_ 6 80 (bs 9 122) HT_ HW_ hHeld au15_4 ?_ rfl rfl
                        refine one_ (i := 0) (N := some 74) (bs 9 123) rfl rfl (one_of HT_.out (by kernel_rfl)) (by decide) (fun K hK => ?_)
                        refine Kd.R_lit_step k37 _ 37 ?hg (N := 74) ?hd (xs := ([] : List (S37))) (inner := []) (ok := fun _ => True) (okp := fun _ => True) ?hr ?hp (fun _ hk => hk) trivial (Below.refl _ _) (Nat.le_refl _) (by simp) ?_; (case hd => rfl); (case hg => rfl); (case hr => exact hr_); (case hp => exact (Reps.none _ _))
                        intro v399 w94 ho95 hb hg_ hnew_
                        clear hg_ hnew_
                        (first | rw [← Ny398.out] at ho95 | (simp only [Int.reduceToNat] at ho95; rw [← Ny398.out] at ho95))
                        have n0_ := Aside0.mk (Kd.R_elder' (rk_ HO_5) (Kd.R_base ho95) hb)
                        have n1_ := Aside0.mk (Kd.R_lower (Kd.R_newB (Kd.R_new' ho95 (Kd.R_lt (rk_ HO_5))) (g := gb376) (o := .cells #[.string t373, .string t374, .string t375] 37 (0, 0)) (bk_ BK376)) (below_size bl_))
                        have n2_ := Aside0.mk (blkb_ BK376 hb)
                        have n3_ := Aside0.mk (below_step bl_ hb)
                        clear HO_5
                        clear BK376
                        clear HB
                        have HO_5 := n0_
                        have HO400 := n1_
                        have BK376 := n2_
                        have HB := n3_
                        clear n0_ n1_ n2_ n3_
                        clear hb ho95
                        refine hK.out _ _ ⟨(blk_cell BK376.out 0).trans rfl, (blk_cell BK376.out 1).trans rfl, (blk_cell BK376.out 2).trans rfl⟩ (fun hHeld => ?_)
                        clear hK K
                        refine norm_ (a' := ?_) ?_ ?_
                        rotate_left
                        · show Act.put _ (some 74) _ = _
                          simp only [Act.put, List.setIfInBounds_toArray, List.set_cons_zero, List.set_cons_succ, i64_w, i32_w]
                          rfl
                        refine one_ (i := 2) (N := some 76) (bs 9 127) rfl rfl (one_of HT_.out (by kernel_rfl)) (by decide) (fun K hK => ?_)
                        refine Kd.R_append_rows_step k37 (w0 := w) w.heap.size (by rfl) (.tmp 74) (.tmp 75) 25 37 (.agg #[(.string ⟨#[]⟩), (.string ⟨#[]⟩), (.string ⟨#[]⟩)]) 48 rfl Try.underlying25 info37 rfl (by decide) (by omega) v399 y398 t384 _ _ _ (fun k_ => some k_ ≠ (.slice Ao92 t384.length co92 : Value).ownBlock ∧ k_ ≠ gb376) (fun _ => False) rfl rfl ?aO ?aR (fun _ _ h => h) (fun _ h => h.elim) ?aF ?aB ?aS ?aL ?_
                        (case aR => exact au15_5)
                        (case aB => exact bl_)
                        (case aF => exact (fun k_ hk => ⟨Kd.fresh' (Kd.R_lt (rk_ HO_5)) k_ hk, Kd.freshB (g := gb376) (o := .cells #[.string t373, .string t374, .string t375] 37 (0, 0)) (bk_ BK376) k_ hk⟩))
                        (case aO => exact (by (with_reducible repeat (first | apply Kd.R_alloc | apply Kd.R_drewN | apply Kd.R_drew)); exact Kd.R_mono HO400.out (fun _ hk => ⟨hk.1.2, hk.2⟩)))
                        (case aS => exact (below_size bl_))
                        (case aL => have := LMc88.out; omega)
                        intro v402 w96 ho hb hg hat
                        rw [← Ny401.out] at ho
                        have n0_ := Aside0.mk (Kd.R_after (ok := (fun k_ => k_ ≠ gb376)) (rk_ HO_5) hg hat)
                        have n1_ := Aside0.mk (blk_grown (g := gb376) (o := .cells #[.string t373, .string t374, .string t375] 37 (0, 0)) (bk_ BK376) hg (Kd.R_away HO400.out (fun _ hk => hk.2)))
                        have n2_ := Aside0.mk (hb)
                        have n3_ := Aside0.mk (ho)
                        clear HO_5
                        clear BK376
                        clear HB
                        clear HO400
                        have HO_5 := n0_
                        have BK376 := n1_
                        have HB := n2_
                        have HO403 := n3_
                        clear n0_ n1_ n2_ n3_
                        clear ho hb hg hat
                        obtain ⟨Ao97, co97, eo97⟩ := Kd.R_slice HO403.out
                        (first | subst eo97 | (injection eo97 with f1_ f2_ f3_; have f4_ := f1_.symm; have f5_ := f3_.symm; clear f1_ f2_ f3_; subst f4_; subst f5_))
                        refine hK.out _ _ ⟨(blk_cell BK376.out 0).trans rfl, (blk_cell BK376.out 1).trans rfl, (blk_cell BK376.out 2).trans rfl⟩ (fun hHeld => ?_)
                        clear hK K
                        refine norm_ (a' := ?_) ?_ ?_
                        rotate_left
                        · show Act.put _ (some 76) _ = _
                          simp only [Act.put, List.setIfInBounds_toArray, List.set_cons_zero, List.set_cons_succ, i64_w, i32_w]
                          rfl
                        refine one_ (i := 7) (N := some 81) (bs 9 255) rfl rfl (one_of HT_.out (by kernel_rfl)) (by decide) (fun K hK => ?_)
                        refine gr_ Try.func24 #[.slice Ao97 y401.length co97, .string t373, .string t374] (by rfl) ?_ rfl rfl rfl
                        with_reducible refine (impl_CrossDrop.calls k2 _ _ y401 t373 t374 t404 _ ?side1 ?side2 A89.out).mono ?_
                        (case side1 => repeat (first | exact (Kd.R_reads' HO403.out).2.2 | (with_reducible refine Kd.C_alloc ?_ _) | (with_reducible refine Kd.C_drewN ?_ _) | (with_reducible refine Kd.C_drew ?_)))
                        (case side2 => exact (Kd.R_reads' HO403.out).2.1)
                        rintro e w98 ⟨v405, rfl, ho0, hb⟩
                        refine ⟨_, rfl, ?_⟩
                        have n0_ := Aside0.mk (Kd.R_elder' (rk_ HO_5) (Kd.R_base ho0) hb)
                        have n1_ := Aside0.mk (Kd.R_elder' (rk_ HO403) (Kd.R_base ho0) hb)
                        have n2_ := Aside0.mk (Kd.R_lower (Kd.R_newB (Kd.R_new' (Kd.R_new' ho0 (Kd.R_lt (rk_ HO_5))) (Kd.R_lt (rk_ HO403))) (g := gb376) (o := .cells #[.string t373, .string t374, .string t375] 37 (0, 0)) (bk_ BK376)) (below_size bl_))
                        have n3_ := Aside0.mk (blkb_ BK376 hb)
                        have n4_ := Aside0.mk (below_step bl_ hb)
                        clear HO_5
                        clear HO403
                        clear BK376
                        clear HB
                        have HO_5 := n0_
                        have HO403 := n1_
                        have HO406 := n2_
                        have BK376 := n3_
                        have HB := n4_
                        clear n0_ n1_ n2_ n3_ n4_
                        (try clear hb)
                        (try clear hb2)
                        (try clear hk)
                        (try clear hi)
                        (try clear ho0)
                        refine hK.out _ _ ⟨(blk_cell BK376.out 0).trans rfl, (blk_cell BK376.out 1).trans rfl, (blk_cell BK376.out 2).trans rfl⟩ (fun hHeld => ?_)
                        clear hK K
                        refine norm_ (a' := ?_) ?_ ?_
                        rotate_left
                        · show Act.put _ (some 81) _ = _
                          simp only [Act.put, List.setIfInBounds_toArray, List.set_cons_zero, List.set_cons_succ, i64_w, i32_w]
                          rfl
                        refine pu_ 8 9 (bs 9 511) HT_ ?_ rfl rfl
                        refine done_ (done_of HT_.out (by kernel_rfl)) ?_
                        try go_wp2
                        have n0_ := Aside0.mk (Kd.R_drew HO_5.out)
                        have n1_ := Aside0.mk (Kd.R_drew HO403.out)
                        have n2_ := Aside0.mk (Kd.R_drew HO406.out)
                        have n3_ := Aside0.mk (blk_drew BK376.out)
                        have n4_ := Aside0.mk (below_drew1 HB.out)
                        clear HO_5
                        clear HO403
                        clear HO406
                        clear BK376
                        clear HB
                        have HO_5 := n0_
                        have HO403 := n1_
                        have HO406 := n2_
                        have BK376 := n3_
                        have HB := n4_
                        clear n0_ n1_ n2_ n3_ n4_
                        refine start_ (n := 12) (S := fun w' => w'.cell? ⟨gb376, 0, none⟩ = some (.string t373) ∧ w'.cell? ⟨gb376, 1, none⟩ = some (.string t374) ∧ w'.cell? ⟨gb376, 2, none⟩ = some (.string t375)) (ds := []) (bs 12 0) (by kernel_rfl) rfl rfl ⟨(blk_cell BK376.out 0).trans rfl, (blk_cell BK376.out 1).trans rfl, (blk_cell BK376.out 2).trans rfl⟩ (fun hHeld => ?_); refine with_tabW laws_FnCross.tab17 laws_FnCross.bits17 (fun HT_ HW_ => ?_)
                        generalize w98.drew = w99 at HO_5 HO403 HO406 BK376 HB hHeld ⊢
                        refine pu_ 1 83 (bs 12 2) HT_ ?_ rfl rfl
                        refine pu_ 3 85 (bs 12 10) HT_ ?_ rfl rfl
                        refine pu_ 5 87 (bs 12 42) HT_ ?_ rfl rfl
                        refine pu_ 8 90 (bs 12 298) HT_ ?_ rfl rfl
                        refine tk_ 4 86 (bs 12 314) HT_ HW_ hHeld au15_4 ?_ rfl rfl
                        refine tk_ 6 88 (bs 12 378) HT_ HW_ hHeld au15_4 ?_ rfl rfl
                        refine tk_ 9 91 (bs 12 890) HT_ HW_ hHeld au15_4 ?_ rfl rfl
                        refine one_ (i := 0) (N := some 82) (bs 12 891) rfl rfl (one_of HT_.out (by kernel_rfl)) (by decide) (fun K hK => ?_)
                        refine Kd.R_lit_step k37 _ 37 ?hg (N := 82) ?hd (xs := ([] : List (S37))) (inner := []) (ok := fun _ => True) (okp := fun _ => True) ?hr ?hp (fun _ hk => hk) trivial (Below.refl _ _) (Nat.le_refl _) (by simp) ?_; (case hd => rfl); (case hg => rfl); (case hr => exact hr_); (case hp => exact (Reps.none _ _))
                        intro v408 w100 ho101 hb hg_ hnew_
                        clear hg_ hnew_
                        (first | rw [← Ny407.out] at ho101 | (simp only [Int.reduceToNat] at ho101; rw [← Ny407.out] at ho101))
                        have n0_ := Aside0.mk (Kd.R_elder' (rk_ HO_5) (Kd.R_base ho101) hb)
                        have n1_ := Aside0.mk (Kd.R_elder' (rk_ HO403) (Kd.R_base ho101) hb)
                        have n2_ := Aside0.mk (Kd.R_elder' (rk_ HO406) (Kd.R_base ho101) hb)
                        have n3_ := Aside0.mk (Kd.R_lower (Kd.R_newB (Kd.R_new' (Kd.R_new' (Kd.R_new' ho101 (Kd.R_lt (rk_ HO_5))) (Kd.R_lt (rk_ HO403))) (Kd.R_lt (rk_ HO406))) (g := gb376) (o := .cells #[.string t373, .string t374, .string t375] 37 (0, 0)) (bk_ BK376)) (below_size bl_))
                        have n4_ := Aside0.mk (blkb_ BK376 hb)
                        have n5_ := Aside0.mk (below_step bl_ hb)
                        clear HO_5
                        clear HO403
                        clear HO406
                        clear BK376
                        clear HB
                        have HO_5 := n0_
                        have HO403 := n1_
                        have HO406 := n2_
                        have HO409 := n3_
                        have BK376 := n4_
                        have HB := n5_
                        clear n0_ n1_ n2_ n3_ n4_ n5_
                        clear hb ho101
                        obtain ⟨Ao103, co103, eo103⟩ := Kd.R_slice HO406.out
                        (first | subst eo103 | (injection eo103 with f1_ f2_ f3_; have f4_ := f1_.symm; have f5_ := f3_.symm; clear f1_ f2_ f3_; subst f4_; subst f5_))
                        refine hK.out _ _ ⟨(blk_cell BK376.out 0).trans rfl, (blk_cell BK376.out 1).trans rfl, (blk_cell BK376.out 2).trans rfl⟩ (fun hHeld => ?_)
                        clear hK K
                        refine norm_ (a' := ?_) ?_ ?_
                        rotate_left
                        · show Act.put _ (some 82) _ = _
                          simp only [Act.put, List.setIfInBounds_toArray, List.set_cons_zero, List.set_cons_succ, i64_w, i32_w]
                          rfl
                        refine one_ (i := 2) (N := some 84) (bs 12 895) rfl rfl (one_of HT_.out (by kernel_rfl)) (by decide) (fun K hK => ?_)
                        refine Kd.R_append_rows_step k37 (w0 := w) w.heap.size (by rfl) (.tmp 82) (.tmp 83) 25 37 (.agg #[(.string ⟨#[]⟩), (.string ⟨#[]⟩), (.string ⟨#[]⟩)]) 48 rfl Try.underlying25 info37 rfl (by decide) (by omega) v408 y407 t404 _ _ _ (fun k_ => some k_ ≠ (.slice Ao92 t384.length co92 : Value).ownBlock ∧ some k_ ≠ (.slice Ao97 y401.length co97 : Value).ownBlock ∧ some k_ ≠ (.slice Ao103 t404.length co103 : Value).ownBlock ∧ k_ ≠ gb376) (fun _ => False) rfl rfl ?aO ?aR (fun _ _ h => h) (fun _ h => h.elim) ?aF ?aB ?aS ?aL ?_
                        (case aR => repeat (first | exact (Kd.R_reads' HO406.out).2.2 | (with_reducible refine Kd.C_alloc ?_ _) | (with_reducible refine Kd.C_drewN ?_ _) | (with_reducible refine Kd.C_drew ?_)))
                        (case aB => exact bl_)
                        (case aF => exact (fun k_ hk => ⟨Kd.fresh' (Kd.R_lt (rk_ HO_5)) k_ hk, Kd.fresh' (Kd.R_lt (rk_ HO403)) k_ hk, Kd.fresh' (Kd.R_lt (rk_ HO406)) k_ hk, Kd.freshB (g := gb376) (o := .cells #[.string t373, .string t374, .string t375] 37 (0, 0)) (bk_ BK376) k_ hk⟩))
                        (case aO => exact (by (with_reducible repeat (first | apply Kd.R_alloc | apply Kd.R_drewN | apply Kd.R_drew)); exact Kd.R_mono HO409.out (fun _ hk => ⟨hk.1.1.1.2, ⟨hk.1.1.2, ⟨hk.1.2, hk.2⟩⟩⟩)))
                        (case aS => exact (below_size bl_))
                        (case aL => have := LMc90.out; omega)
                        intro v411 w102 ho hb hg hat
                        rw [← Ny410.out] at ho
                        have n0_ := Aside0.mk (Kd.R_after (ok := (fun k_ => some k_ ≠ (.slice Ao97 y401.length co97 : Value).ownBlock ∧ some k_ ≠ (.slice Ao103 t404.length co103 : Value).ownBlock ∧ k_ ≠ gb376)) (by (with_reducible repeat (first | apply Kd.R_alloc | apply Kd.R_drewN | apply Kd.R_drew)); exact Kd.R_mono HO_5.out (fun _ hk => ⟨⟨hk.1.1.2, ⟨hk.1.2, hk.1.1.1⟩⟩, hk.2⟩)) hg hat)
                        have n1_ := Aside0.mk (blk_grown (g := gb376) (o := .cells #[.string t373, .string t374, .string t375] 37 (0, 0)) (bk_ BK376) hg (Kd.R_away HO409.out (fun _ hk => hk.2)))
                        have n2_ := Aside0.mk (Kd.R_after (ok := (fun k_ => some k_ ≠ (.slice Ao92 t384.length co92 : Value).ownBlock ∧ some k_ ≠ (.slice Ao103 t404.length co103 : Value).ownBlock ∧ k_ ≠ gb376)) (by (with_reducible repeat (first | apply Kd.R_alloc | apply Kd.R_drewN | apply Kd.R_drew)); exact Kd.R_mono HO403.out (fun _ hk => ⟨⟨hk.1.1.1, ⟨hk.1.2, hk.1.1.2⟩⟩, hk.2⟩)) hg hat)
                        have n3_ := Aside0.mk (Kd.R_after (ok := (fun k_ => some k_ ≠ (.slice Ao92 t384.length co92 : Value).ownBlock ∧ some k_ ≠ (.slice Ao97 y401.length co97 : Value).ownBlock ∧ k_ ≠ gb376)) (by (with_reducible repeat (first | apply Kd.R_alloc | apply Kd.R_drewN | apply Kd.R_drew)); exact Kd.R_mono HO406.out (fun _ hk => ⟨⟨hk.1.1.1.2, ⟨hk.1.1.2, hk.1.2⟩⟩, hk.2⟩)) hg hat)
                        have n4_ := Aside0.mk (hb)
                        have n5_ := Aside0.mk (ho)
                        clear HO_5
                        clear BK376
                        clear HO403
                        clear HO406
                        clear HB
                        clear HO409
                        have HO_5 := n0_
                        have BK376 := n1_
                        have HO403 := n2_
                        have HO406 := n3_
                        have HB := n4_
                        have HO412 := n5_
                        clear n0_ n1_ n2_ n3_ n4_ n5_
                        clear ho hb hg hat
                        obtain ⟨Ao104, co104, eo104⟩ := Kd.R_slice HO412.out
                        (first | subst eo104 | (injection eo104 with f1_ f2_ f3_; have f4_ := f1_.symm; have f5_ := f3_.symm; clear f1_ f2_ f3_; subst f4_; subst f5_))
                        refine hK.out _ _ ⟨(blk_cell BK376.out 0).trans rfl, (blk_cell BK376.out 1).trans rfl, (blk_cell BK376.out 2).trans rfl⟩ (fun hHeld => ?_)
                        clear hK K
                        refine norm_ (a' := ?_) ?_ ?_
                        rotate_left
                        · show Act.put _ (some 84) _ = _
                          simp only [Act.put, List.setIfInBounds_toArray, List.set_cons_zero, List.set_cons_succ, i64_w, i32_w]
                          rfl
                        refine one_ (i := 7) (N := some 89) (bs 12 1023) rfl rfl (one_of HT_.out (by kernel_rfl)) (by decide) (fun K hK => ?_)
                        refine gr_ Try.func20 #[.slice Ao104 y410.length co104, .string t373, .string t374] (by rfl) ?_ rfl rfl rfl
                        with_reducible refine (impl_CrossOwn.calls k2 _ _ y410 t373 t374 t413 _ ?side1 ?side2 A91.out).mono ?_
                        (case side1 => repeat (first | exact (Kd.R_reads' HO412.out).2.2 | (with_reducible refine Kd.C_alloc ?_ _) | (with_reducible refine Kd.C_drewN ?_ _) | (with_reducible refine Kd.C_drew ?_)))
                        (case side2 => exact (Kd.R_reads' HO412.out).2.1)
                        rintro e w105 ⟨rfl, hb⟩
                        refine ⟨_, rfl, ?_⟩
                        have n0_ := Aside0.mk (Kd.R_below (rk_ HO_5) hb)
                        have n1_ := Aside0.mk (Kd.R_below (rk_ HO403) hb)
                        have n2_ := Aside0.mk (Kd.R_below (rk_ HO406) hb)
                        have n3_ := Aside0.mk (Kd.R_below (rk_ HO412) hb)
                        have n4_ := Aside0.mk (blkb_ BK376 hb)
                        have n5_ := Aside0.mk (below_step bl_ hb)
                        clear HO_5
                        clear HO403
                        clear HO406
                        clear HO412
                        clear BK376
                        clear HB
                        have HO_5 := n0_
                        have HO403 := n1_
                        have HO406 := n2_
                        have HO412 := n3_
                        have BK376 := n4_
                        have HB := n5_
                        clear n0_ n1_ n2_ n3_ n4_ n5_
                        (try clear hb)
                        (try clear hb2)
                        (try clear hk)
                        (try clear hi)
                        refine hK.out _ _ ⟨(blk_cell BK376.out 0).trans rfl, (blk_cell BK376.out 1).trans rfl, (blk_cell BK376.out 2).trans rfl⟩ (fun hHeld => ?_)
                        clear hK K
                        refine norm_ (a' := ?_) ?_ ?_
                        rotate_left
                        · show Act.put _ (some 89) _ = _
                          simp only [Act.put, List.setIfInBounds_toArray, List.set_cons_zero, List.set_cons_succ, i64_w, i32_w]
                          rfl
                        refine pu_ 10 92 (bs 12 2047) HT_ ?_ rfl rfl
                        refine pu_ 11 2 (bs 12 4095) HT_ ?_ rfl rfl
                        refine done_ (done_of HT_.out (by kernel_rfl)) ?_
                        try go_wp2
                        go_ret
                        exact ⟨au15_8, bl_⟩
                      · rw [if_neg c90] at H
                        exact absurd H (by simp)
                    · rw [if_neg c88] at H
                      exact absurd H (by simp)
      · rw [if_neg c6] at H
        exact absurd H (by simp)
    · replace c5 := Bool.eq_false_iff.mpr c5
      subst c5
      have H1 : (some true) = some r := by rw [if_neg (show ¬ (false = true) by decide)] at H; exact H
      clear H
      have H := H1
      clear H1
      obtain rfl := Option.some.inj H
      go_enter Try.func8, Try.ntmps8
      go_wp2_with (first | (go_at_call 31; (with_reducible refine (spec_DrawCrossPut.calls k _ _ l0 t370 t373 t374 t375 _ ?side1 ?side2 A3.out).mono ?_); (case side1 => exact au15_18); (case side2 => exact HC0.out); rintro e w106 ⟨v371, rfl, ho0, hb⟩; (try clear A3); have n0_ := Aside0.mk (Kd.R_lower ho0 (below_size bl_)); have n1_ := Aside0.mk (below_step bl_ hb); clear HB; have HO372 := n0_; have HB := n1_; clear n0_ n1_; (try clear hb); (try clear hb2); (try clear hk); (try clear hi); (try clear ho0)) | ((with_reducible refine gate_dst (N := 4) rfl ?_); (try (refine gate_guard (by rfl) ?_; dsimp only)); refine box_event ?hg (N := 4) ?hd (cs := #[.string (⟨#[]⟩ : ByteArray), .string (⟨#[]⟩ : ByteArray), .string (⟨#[]⟩ : ByteArray)]) (t := 37) ?hr ?_; (case hd => rfl); (case hg => rfl); (case hr => exact hr_); intro gb376 hg w107 hbox hb; have n0_ := Aside0.mk (Kd.R_below (Kd.R_elderB (rk_ HO372) gb376 (Nat.le_of_eq hg.symm)) hb); have n1_ := Aside0.mk (below_step bl_ hb); have n2_ := Aside0.mk (hbox); have n3_ := Aside0.mk (gw_ hg bl_); have n4_ := Aside0.mk (gw_ hg bl_); clear HO372; clear HB; have HO372 := n0_; have HB := n1_; have BK376 := n2_; have GW376 := n3_; have GE376 := n4_; clear n0_ n1_ n2_ n3_ n4_; clear hb hbox hg; obtain ⟨hcz108_0, hcz108_1, hcz108_2, hfz108_0, hfz108_1, hfz108_2⟩ := cellsF3 BK376.out; obtain ⟨Ao109, co109, eo109⟩ := Kd.R_slice HO372.out; subst eo109) | (go_at_call 15; (with_reducible refine (spec_CrossRight.calls k _ _ t370 false _ ?side1 ?side2 A4.out).mono ?_); (case side1 => refine (Kd.R_reads' (e := 37) (base := w.heap.size) (ok := fun k_ => (True ∧ k_ ≠ gb376)) (n := t370.length) (c := co109) ?_).2.2; exact au15_1); (case side2 => exact (Kd.R_reads' HO372.out).2.1); rintro e w110 ⟨rfl, hb⟩; (try clear A4); have n0_ := Aside0.mk (Kd.R_below au15_1 hb); have n1_ := Aside0.mk (blk_below (g := gb376) (o := .cells #[.string t373, .string t374, .string t375] 37 (0, 0)) au15_6 hb); have n2_ := Aside0.mk (below_step bl_ hb); clear HO372; clear BK376; clear HB; have HO372 := n0_; have BK376 := n1_; have HB := n2_; clear n0_ n1_ n2_; (try clear hb); (try clear hb2); (try clear hk); (try clear hi)))
      go_ret
      exact ⟨au15_8, bl_⟩

/-- THE ONE PURE STATEMENT of laws_FnCross: yours. -/
def laws_FnCross.Pure : Prop := ∀ (l0 : List Int), l0.length ≤ maxLen → l0.length * 1 ≤ 140737488351232 → (∀ x ∈ l0, (Lit.int .u8 x).wf = true) → ∃ k, laws_FnCross.f k l0 = some true
theorem laws_FnCross.walk (P : laws_FnCross.Pure) (a0 : Option Addr) (len0 cap0 : Nat) (z0 : List Int) (w : World) (w0 : (a0 = none ∧ len0 = 0 ∧ cap0 = 0 ∧ z0 = []) ∨ ∃ x, a0 = some x ∧ len0 ≤ cap0 ∧ cap0 ≤ maxLen ∧ z0.length = cap0 ∧ (∀ i, i < z0.length → w.cell? (x.add i) = some (.int .u8 (z0.getD i 0))) ∧ ∀ n ∈ z0, (Lit.int .u8 n).wf = true) (y0 : len0 * 1 ≤ 140737488351232) :
    Calls Try.prog 8 #[.slice a0 len0 cap0] w fun e w' => e = .returned (.bool true) ∧ Below w.heap.size w w' := by
  obtain ⟨l0, rfl, hr0, hm0, hw0, hc0⟩ := ReadsInt.ofRowC w0
  obtain ⟨k, h⟩ := P l0 hm0 y0 hw0
  refine (laws_FnCross.calls k _ _ l0 true w (Kd.C_of_reads (d := (0 : Int)) (h1 := fun _ => rfl) hr0) hc0 h).mono ?_
  rintro e w' ⟨rfl, hd⟩
  exact ⟨rfl, hd⟩

end Go.Proofs.Ytjffakoifpldeaa.PFnCross
