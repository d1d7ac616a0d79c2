-- printed by a program of this session (wip/xp/xprint.py) out of the translation; Lean checks it
import Derived.Test.YtjffakoifpldeaaPFnCrossx0
import Derived.Test.YtjffakoifpldeaaPFnCrossx2
import Derived.Test.YtjffakoifpldeaaPFnCrossx3
namespace Go.Proofs.Ytjffakoifpldeaa.PFnCross
open Go.RowKit Go.Proofs.YtjffakoifpldeaaW.PrintWords Go.Proofs.YtjffakoifpldeaaW.PrintLast Go.Proofs.YtjffakoifpldeaaW.PrintMore
attribute [local go_sem] max2_int min2_int max_two min_two max_three min_three max_four min_four   -- for this text's walks alone
set_option linter.unusedVariables false
set_option linter.unusedSimpArgs false

theorem au8_0 {p : Prop} (h : p := by exact (fun k_ hk => ⟨Kd.fresh' (Kd.R_lt (rk_ HO_5)) k_ hk, Kd.freshB (g := gb179) (o := .cells #[.string a1_0, .string a1_1, .string a1_2] 37 (0, 0)) (bk_ BK179) k_ hk⟩)) : p := h
theorem au8_1 {p : Prop} (h : p := by rintro w' ⟨s0, s1, s2, s3, s4, s5, s6, s7, s8⟩; go_simp; with_reducible rfl) : p := h
theorem au8_2 {p : Prop} (h : p := by (with_reducible repeat (first | apply Kd.R_alloc | apply Kd.R_drewN | apply Kd.R_drew)); exact Kd.R_mono HO_5.out (fun _ hk => ⟨hk.2, hk.1⟩)) : p := h
theorem au8_3 {p : Prop} (h : p := by (with_reducible repeat (first | apply Kd.R_alloc | apply Kd.R_drewN | apply Kd.R_drew)); exact Kd.R_mono HO_5.out (fun _ hk => ⟨hk.2, hk.1⟩)) : p := h
theorem au8_4 {p : Prop} (h : p := by repeat (first | exact (Kd.C_below HR0.out HB.out) | (with_reducible refine Kd.C_alloc ?_ _) | (with_reducible refine Kd.C_drewN ?_ _) | (with_reducible refine Kd.C_drew ?_))) : p := h
theorem au8_5 {p : Prop} (h : p := by first | rfl | (simp [errW_none, errW_some] <;> rfl) | (simp [*, errW_none, errW_some] <;> rfl)) : p := h
theorem au8_6 {p : Prop} (h : p := by rintro w' ⟨s0, s1, s2, s3, s4, s5⟩; go_simp; with_reducible rfl) : p := h
theorem au8_7 {p : Prop} (h : p := by exact k37_mkM _ _ _ (⟨(rd_T37 l0 x8_1).f0, (rd_T37 l0 x8_1).f1, (rd_T37 l0 x8_1).f2⟩ : S37)) : p := h
theorem au8_8 {p : Prop} (h : p := by have := HK1.out; have := HJ17.out; omega) : p := h
theorem au8_9 {p : Prop} (h : p := by repeat (first | exact (Kd.R_reads' HO221.out).2.2 | (with_reducible refine Kd.C_alloc ?_ _) | (with_reducible refine Kd.C_drewN ?_ _) | (with_reducible refine Kd.C_drew ?_))) : p := h
theorem au8_10 {p : Prop} (h : p := by repeat (first | exact (Kd.R_reads' HO_6.out).2.2 | (with_reducible refine Kd.C_alloc ?_ _) | (with_reducible refine Kd.C_drewN ?_ _) | (with_reducible refine Kd.C_drew ?_))) : p := h
theorem au8_11 {p : Prop} (h : p := by exact k37_mkM _ _ _ (⟨a1_0, a1_1, a1_2⟩ : S37)) : p := h
theorem au8_12 {p : Prop} (h : p := by exact (by (with_reducible repeat (first | apply Kd.R_alloc | apply Kd.R_drewN | apply Kd.R_drew)); exact Kd.R_mono HO185.out (fun _ hk => hk.2))) : p := h
theorem au8_13 {p : Prop} (h : p := by (with_reducible repeat (first | apply Kd.R_alloc | apply Kd.R_drewN | apply Kd.R_drew)); exact Kd.R_mono HO_5.out (fun _ hk => trivial)) : p := h
theorem au8_14 {p : Prop} (h : p := by exact (fun k_ hk => Kd.freshB (g := gb179) (o := .cells #[.string a1_0, .string a1_1, .string a1_2] 37 (0, 0)) (bk_ BK179) k_ hk)) : p := h

/-! ### spec_CrossPut: function 28 -/
mutual
def spec_CrossPut.l0 : Nat → List (S37) → List (S37) → List (S37) → Bool → Int → ByteArray → ByteArray → ByteArray → Option ((List (S37)))
  | 0, _, _, _, _, _, _, _, _ => none
  | k + 1, x0, x5, x6, x7, x8, x180000, x180001, x180002 => if x8 < (x0.length : Int) then (if x7 = true then (spec_CrossPut.j1 k x0 x5 x6 x7 x8 false x180000 x180001 x180002) else (if 0 ≤ x8 then ((spec_l08Before.f ((rd_T37 x0 x8).f0) ((rd_T37 x0 x8).f1) ((rd_T37 x0 x8).f2) x180000 x180001 x180002).bind fun t194 => (spec_CrossPut.j1 k x0 x5 x6 x7 x8 (!t194) x180000 x180001 x180002)) else (none))) else (if x7 = true then ((spec_CrossRight.f k x6).bind fun t218 => (if t218 = true then (some x6) else (some x5))) else (if x6.length < 2932031007402 then ((some (x6 ++ [(⟨x180000, x180001, x180002⟩ : S37)] : List (S37))).bind fun y219 => ((spec_CrossRight.f k y219).bind fun t222 => (if t222 = true then (some y219) else (some x5)))) else (none)))
def spec_CrossPut.j1 : Nat → List (S37) → List (S37) → List (S37) → Bool → Int → Bool → ByteArray → ByteArray → ByteArray → Option ((List (S37)))
  | 0, _, _, _, _, _, _, _, _, _ => none
  | k + 1, x0, x5, x6, x7, x8, x37, x180000, x180001, x180002 => if x37 = true then (if x6.length < 2932031007402 then ((some (x6 ++ [(⟨x180000, x180001, x180002⟩ : S37)] : List (S37))).bind fun y195 => (if 0 ≤ x8 then (if x8 < (x0.length : Int) then (if ((rd_T37 x0 x8).f0).toList = x180000.toList then (if ((rd_T37 x0 x8).f1).toList = x180001.toList then (spec_CrossPut.l0 k x0 x5 y195 true (wrap64 (x8 + 1)) x180000 x180001 x180002) else (if y195.length < 2932031007402 then (spec_CrossPut.l0 k x0 x5 (y195 ++ [(⟨(rd_T37 x0 x8).f0, (rd_T37 x0 x8).f1, (rd_T37 x0 x8).f2⟩ : S37)]) true (wrap64 (x8 + 1)) x180000 x180001 x180002) else (none))) else (if y195.length < 2932031007402 then (spec_CrossPut.l0 k x0 x5 (y195 ++ [(⟨(rd_T37 x0 x8).f0, (rd_T37 x0 x8).f1, (rd_T37 x0 x8).f2⟩ : S37)]) true (wrap64 (x8 + 1)) x180000 x180001 x180002) else (none))) else (none)) else (none))) else (none)) else (if 0 ≤ x8 then (if x8 < (x0.length : Int) then (if ((rd_T37 x0 x8).f0).toList = x180000.toList then (if ((rd_T37 x0 x8).f1).toList = x180001.toList then (spec_CrossPut.l0 k x0 x5 x6 x7 (wrap64 (x8 + 1)) x180000 x180001 x180002) else (if x6.length < 2932031007402 then (spec_CrossPut.l0 k x0 x5 (x6 ++ [(⟨(rd_T37 x0 x8).f0, (rd_T37 x0 x8).f1, (rd_T37 x0 x8).f2⟩ : S37)]) x7 (wrap64 (x8 + 1)) x180000 x180001 x180002) else (none))) else (if x6.length < 2932031007402 then (spec_CrossPut.l0 k x0 x5 (x6 ++ [(⟨(rd_T37 x0 x8).f0, (rd_T37 x0 x8).f1, (rd_T37 x0 x8).f2⟩ : S37)]) x7 (wrap64 (x8 + 1)) x180000 x180001 x180002) else (none))) else (none)) else (none))
end
def spec_CrossPut.f (k : Nat) (l0 : List (S37)) (a1_0 : ByteArray) (a1_1 : ByteArray) (a1_2 : ByteArray) : Option ((List (S37))) := if (l0.length : Int) > 400 then (some (([] : List (S37)))) else ((some (([] : List (S37)) : List (S37))).bind fun y183 => (if y183.length + l0.length < 2932031007402 then ((some (y183 ++ l0 : List (S37))).bind fun y186 => ((spec_CrossRight.f k l0).bind fun t189 => (if t189 = true then (spec_CrossPut.l0 k l0 y186 (([] : List (S37))) false 0 a1_0 a1_1 a1_2) else (some y186)))) else (none)))
theorem spec_CrossPut.mono_l : ∀ k, (∀ y0 y1 y2 y3 y4 y5 y6 y7, LeO (spec_CrossPut.l0 k y0 y1 y2 y3 y4 y5 y6 y7) (spec_CrossPut.l0 (k + 1) y0 y1 y2 y3 y4 y5 y6 y7)) ∧ (∀ y0 y1 y2 y3 y4 y5 y6 y7 y8, LeO (spec_CrossPut.j1 k y0 y1 y2 y3 y4 y5 y6 y7 y8) (spec_CrossPut.j1 (k + 1) y0 y1 y2 y3 y4 y5 y6 y7 y8))
  | 0 => ⟨fun _ _ _ _ _ _ _ _ r h => by simp [spec_CrossPut.l0] at h, fun _ _ _ _ _ _ _ _ _ r h => by simp [spec_CrossPut.j1] at h⟩
  | k + 1 => by
    obtain ⟨ih0, ih1⟩ := spec_CrossPut.mono_l k
    refine ⟨?_, ?_⟩
    · intro y0 y1 y2 y3 y4 y5 y6 y7
      unfold spec_CrossPut.l0
      repeat' first
      | (with_reducible exact ih0 _ _ _ _ _ _ _ _)
      | (with_reducible exact ih1 _ _ _ _ _ _ _ _ _)
      | (with_reducible exact spec_CrossRight.mono _ _)
      | (with_reducible exact LeO.refl _)
      | (with_reducible exact LeO.none _)
      | (with_reducible refine LeO.ite ?_ ?_)
      | (with_reducible refine LeO.bind ?_ (fun _ => ?_))
      | exact ih0 _ _ _ _ _ _ _ _
      | exact ih1 _ _ _ _ _ _ _ _ _
      | exact spec_CrossRight.mono _ _
      | exact LeO.none _
      | refine LeO.ite ?_ ?_
      | refine LeO.bind ?_ (fun _ => ?_)
    · intro y0 y1 y2 y3 y4 y5 y6 y7 y8
      unfold spec_CrossPut.j1
      repeat' first
      | (with_reducible exact ih0 _ _ _ _ _ _ _ _)
      | (with_reducible exact ih1 _ _ _ _ _ _ _ _ _)
      | (with_reducible exact spec_CrossRight.mono _ _)
      | (with_reducible exact LeO.refl _)
      | (with_reducible exact LeO.none _)
      | (with_reducible refine LeO.ite ?_ ?_)
      | (with_reducible refine LeO.bind ?_ (fun _ => ?_))
      | exact ih0 _ _ _ _ _ _ _ _
      | exact ih1 _ _ _ _ _ _ _ _ _
      | exact spec_CrossRight.mono _ _
      | exact LeO.none _
      | refine LeO.ite ?_ ?_
      | refine LeO.bind ?_ (fun _ => ?_)
theorem spec_CrossPut.mono : ∀ a0 a1 a2 a3 k, LeO (spec_CrossPut.f k a0 a1 a2 a3) (spec_CrossPut.f (k + 1) a0 a1 a2 a3) := by
  intro a0 a1 a2 a3 k
  obtain ⟨ih0, ih1⟩ := spec_CrossPut.mono_l k
  unfold spec_CrossPut.f
  repeat' first
      | (with_reducible exact ih0 _ _ _ _ _ _ _ _)
      | (with_reducible exact ih1 _ _ _ _ _ _ _ _ _)
      | (with_reducible exact spec_CrossRight.mono _ _)
      | (with_reducible exact LeO.refl _)
      | (with_reducible exact LeO.none _)
      | (with_reducible refine LeO.ite ?_ ?_)
      | (with_reducible refine LeO.bind ?_ (fun _ => ?_))
      | exact ih0 _ _ _ _ _ _ _ _
      | exact ih1 _ _ _ _ _ _ _ _ _
      | exact spec_CrossRight.mono _ _
      | exact LeO.none _
      | refine LeO.ite ?_ ?_
      | refine LeO.bind ?_ (fun _ => ?_)
def spec_CrossPut.T11 : Bool × List (List Nat × List Nat) := (true, [([], []), ([0], [0]), ([1], [1]), ([2], [2]), ([2], [2]), ([3, 4, 2], [2, 3, 4]), ([5, 2], [2, 5]), ([2], [2]), ([6, 7, 2, 2], [2, 6, 7]), ([8, 2], [2, 8]), ([2, 9], [2, 9])])
def spec_CrossPut.B11 : List Nat := [0, 1, 3, 7, 7, 31, 63, 7, 255, 511, 1023]
theorem spec_CrossPut.tab11 : rtab .any (opsOf Try.f28 11) = spec_CrossPut.T11 := by kernel_rfl
theorem spec_CrossPut.bits11 : waitsOk spec_CrossPut.T11.2 spec_CrossPut.B11 = true := by kernel_rfl
def spec_CrossPut.T14 : Bool × List (List Nat × List Nat) := (true, [([], []), ([], []), ([0, 1], [0, 1]), ([2], [2]), ([3], [3]), ([], []), ([5], [5]), ([4, 6], [4, 6]), ([7], [7]), ([8], [8]), ([8], [8]), ([9, 10, 8], [8, 9, 10]), ([11, 8], [8, 11]), ([12, 8], [8, 12]), ([8], [8]), ([14, 8], [8, 14]), ([13, 15, 8], [8, 13, 15]), ([8, 16], [8, 16])])
def spec_CrossPut.B14 : List Nat := [0, 0, 3, 7, 15, 0, 32, 127, 255, 511, 511, 2047, 4095, 8191, 511, 16895, 65535, 131071]
theorem spec_CrossPut.tab14 : rtab .any (opsOf Try.f28 14) = spec_CrossPut.T14 := by kernel_rfl
theorem spec_CrossPut.bits14 : waitsOk spec_CrossPut.T14.2 spec_CrossPut.B14 = true := by kernel_rfl
set_option maxHeartbeats 8000000 in
set_option maxRecDepth 100000 in
theorem spec_CrossPut.calls (k : Nat) (A0 : Option Addr) (c0 : Nat) (l0 : List (S37)) (a1_0 : ByteArray) (a1_1 : ByteArray) (a1_2 : ByteArray) (r : List (S37)) (w : World) (hr0 : Kd.C k37 w A0 l0.length l0) (hc0 : l0.length ≤ c0) (h : spec_CrossPut.f k l0 a1_0 a1_1 a1_2 = some r) :
    Calls Try.prog 28 #[.slice A0 l0.length c0, .agg #[.string a1_0, .string a1_1, .string a1_2]] w fun e w' => ∃ v0_ : Value, e = .returned (v0_) ∧ Kd.R k37 37 w' w.heap.size (fun _ => True) v0_ r ∧ Below w.heap.size w w' := by
  have hu37 := Try.underlying37
  have HR0 := Aside0.mk hr0
  have HC0 := Aside0.mk hc0
  clear hr0 hc0
  have HB := Aside0.mk (Below.refl w.heap.size w)
  have H : (if (l0.length : Int) > 400 then (some (([] : List (S37)))) else ((some (([] : List (S37)) : List (S37))).bind fun y183 => (if y183.length + l0.length < 2932031007402 then ((some (y183 ++ l0 : List (S37))).bind fun y186 => ((spec_CrossRight.f k l0).bind fun t189 => (if t189 = true then (spec_CrossPut.l0 k l0 y186 (([] : List (S37))) false 0 a1_0 a1_1 a1_2) else (some y186)))) else (none)))) = some r := h
  clear h
  by_cases c3 : (l0.length : Int) > 400
  · rw [if_pos c3] at H
    have c3b0 : decide (400 < (l0.length : Int)) = true := decide_eq_true c3
    have c3b1 : decide (400 < l0.length) = true := decide_eq_true (by omega)
    clear c3
    obtain ⟨y180, hy180⟩ : ∃ y_ : List (S37), y_ = (([] : List (S37))) := ⟨_, rfl⟩
    replace H : (some y180) = some r := by first | (rw [hy180]; with_reducible exact H) | (have H2_ := (Option.bind_some _ _).symm.trans H; rw [hy180]; with_reducible exact H2_) | (have H2_ := (Option.bind_some _ _).symm.trans H; with_reducible exact H2_) | with_reducible exact H | (rw [hy180]; exact H) | exact H
    have Ny180 := Aside0.mk hy180
    clear hy180
    obtain rfl := Option.some.inj H
    go_enter Try.func28, Try.ntmps28
    go_wp2_with (first | ((with_reducible refine gate_dst (N := 3) rfl ?_); refine box_event ?hg (N := 3) ?hd (cs := #[.string a1_0, .string a1_1, .string a1_2]) (t := 37) ?hr ?_; (case hd => rfl); (case hg => rfl); (case hr => exact hr_); intro gb179 hg w4 hbox hb; have n0_ := Aside0.mk (below_step bl_ hb); have n1_ := Aside0.mk (hbox); have n2_ := Aside0.mk (gw_ hg bl_); have n3_ := Aside0.mk (gw_ hg bl_); clear HB; have HB := n0_; have BK179 := n1_; have GW179 := n2_; have GE179 := n3_; clear n0_ n1_ n2_ n3_; clear hb hbox hg) | ((with_reducible refine gate_dst (N := 12) rfl ?_); refine Kd.R_lit k37 _ 37 ?hg (N := 12) ?hd (xs := ([] : List (S37))) (inner := []) (ok := fun _ => True) (okp := fun _ => True) ?hr ?hp (fun _ hk => hk) trivial (Below.refl _ _) (Nat.le_refl _) (by simp) ?_; (case hd => rfl); (case hg => rfl); (case hr => exact hr_); (case hp => exact (Reps.none _ _)); intro v181 w5 ho6 hb hg_ hnew_; clear hg_ hnew_; (first | rw [← Ny180.out] at ho6 | (simp only [Int.reduceToNat] at ho6; rw [← Ny180.out] at ho6)); have n0_ := Aside0.mk (Kd.R_lower (Kd.R_newB ho6 (g := gb179) (o := .cells #[.string a1_0, .string a1_1, .string a1_2] 37 (0, 0)) (bk_ BK179)) (below_size bl_)); have n1_ := Aside0.mk (blkb_ BK179 hb); have n2_ := Aside0.mk (below_step bl_ hb); clear BK179; clear HB; have HO182 := n0_; have BK179 := n1_; have HB := n2_; clear n0_ n1_ n2_; clear hb ho6))
    go_ret
    exact ⟨_, au8_5, by (with_reducible repeat (first | apply Kd.R_alloc | apply Kd.R_drewN | apply Kd.R_drew)); exact Kd.R_mono HO182.out (fun _ hk => trivial), bl_⟩
  · rw [if_neg c3] at H
    have c3b0 : decide (400 < (l0.length : Int)) = false := decide_eq_false c3
    have c3b1 : decide (400 < l0.length) = false := decide_eq_false (by omega)
    clear c3
    obtain ⟨y183, hy183⟩ : ∃ y_ : List (S37), y_ = (([] : List (S37))) := ⟨_, rfl⟩
    replace H : (if y183.length + l0.length < 2932031007402 then ((some (y183 ++ l0 : List (S37))).bind fun y186 => ((spec_CrossRight.f k l0).bind fun t189 => (if t189 = true then (spec_CrossPut.l0 k l0 y186 (([] : List (S37))) false 0 a1_0 a1_1 a1_2) else (some y186)))) else (none)) = some r := by first | (rw [hy183]; with_reducible exact H) | (have H2_ := (Option.bind_some _ _).symm.trans H; rw [hy183]; with_reducible exact H2_) | (have H2_ := (Option.bind_some _ _).symm.trans H; with_reducible exact H2_) | with_reducible exact H | (rw [hy183]; exact H) | exact H
    have Ny183 := Aside0.mk hy183
    clear hy183
    by_cases c7 : y183.length + l0.length < 2932031007402
    · rw [if_pos c7] at H
      have LMc7 := Aside0.mk c7
      clear c7
      obtain ⟨y186, hy186⟩ : ∃ y_ : List (S37), y_ = (y183 ++ l0) := ⟨_, rfl⟩
      replace H : ((spec_CrossRight.f k l0).bind fun t189 => (if t189 = true then (spec_CrossPut.l0 k l0 y186 (([] : List (S37))) false 0 a1_0 a1_1 a1_2) else (some y186))) = some r := by first | (rw [hy186]; with_reducible exact H) | (have H2_ := (Option.bind_some _ _).symm.trans H; rw [hy186]; with_reducible exact H2_) | (have H2_ := (Option.bind_some _ _).symm.trans H; with_reducible exact H2_) | with_reducible exact H | (rw [hy186]; exact H) | exact H
      have Ny186 := Aside0.mk hy186
      clear hy186
      replace H := Option.bind_eq_some_iff.mp H
      obtain ⟨t189, A80, H⟩ := H
      replace H : (if t189 = true then (spec_CrossPut.l0 k l0 y186 (([] : List (S37))) false 0 a1_0 a1_1 a1_2) else (some y186)) = some r := H
      have A8 := Aside0.mk A80
      clear A80
      by_cases c9 : t189 = true
      · subst c9
        have H1 : (spec_CrossPut.l0 k l0 y186 (([] : List (S37))) false 0 a1_0 a1_1 a1_2) = some r := by rw [if_pos rfl] at H; exact H
        clear H
        have H := H1
        clear H1
        obtain ⟨y190, hy190⟩ : ∃ y_ : List (S37), y_ = (([] : List (S37))) := ⟨_, rfl⟩
        replace H : (spec_CrossPut.l0 k l0 y186 y190 false 0 a1_0 a1_1 a1_2) = some r := by first | (rw [hy190]; with_reducible exact H) | (have H2_ := (Option.bind_some _ _).symm.trans H; rw [hy190]; with_reducible exact H2_) | (have H2_ := (Option.bind_some _ _).symm.trans H; with_reducible exact H2_) | with_reducible exact H | (rw [hy190]; exact H) | exact H
        have Ny190 := Aside0.mk hy190
        clear hy190
        have H' := Aside0.mk H
        clear H
        go_enter Try.func28, Try.ntmps28
        go_wp2_with (first | ((with_reducible refine gate_dst (N := 3) rfl ?_); refine box_event ?hg (N := 3) ?hd (cs := #[.string a1_0, .string a1_1, .string a1_2]) (t := 37) ?hr ?_; (case hd => rfl); (case hg => rfl); (case hr => exact hr_); intro gb179 hg w10 hbox hb; have n0_ := Aside0.mk (below_step bl_ hb); have n1_ := Aside0.mk (hbox); have n2_ := Aside0.mk (gw_ hg bl_); have n3_ := Aside0.mk (gw_ hg bl_); clear HB; have HB := n0_; have BK179 := n1_; have GW179 := n2_; have GE179 := n3_; clear n0_ n1_ n2_ n3_; clear hb hbox hg) | ((with_reducible refine gate_dst (N := 13) rfl ?_); refine Kd.R_lit k37 _ 37 ?hg (N := 13) ?hd (xs := ([] : List (S37))) (inner := []) (ok := fun _ => True) (okp := fun _ => True) ?hr ?hp (fun _ hk => hk) trivial (Below.refl _ _) (Nat.le_refl _) (by simp) ?_; (case hd => rfl); (case hg => rfl); (case hr => exact hr_); (case hp => exact (Reps.none _ _)); intro v184 w11 ho12 hb hg_ hnew_; clear hg_ hnew_; (first | rw [← Ny183.out] at ho12 | (simp only [Int.reduceToNat] at ho12; rw [← Ny183.out] at ho12)); have n0_ := Aside0.mk (Kd.R_lower (Kd.R_newB ho12 (g := gb179) (o := .cells #[.string a1_0, .string a1_1, .string a1_2] 37 (0, 0)) (bk_ BK179)) (below_size bl_)); have n1_ := Aside0.mk (blkb_ BK179 hb); have n2_ := Aside0.mk (below_step bl_ hb); clear BK179; clear HB; have HO185 := n0_; have BK179 := n1_; have HB := n2_; clear n0_ n1_ n2_; clear hb ho12) | ((with_reducible refine gate_builtin (b := .append) (xs := #[.tmp 13, .tmp 14]) rfl ?_); at_builtin; refine Kd.R_append_rows k37 (w0 := w) w.heap.size rfl (.tmp 13) (.tmp 14) 25 37 (.agg #[(.string ⟨#[]⟩), (.string ⟨#[]⟩), (.string ⟨#[]⟩)]) 48 rfl Try.underlying25 info37 rfl (by decide) (by omega) v184 y183 l0 _ _ _ (fun k_ => k_ ≠ gb179) (fun _ => False) rfl rfl ?aO ?aR (fun _ _ h => h) (fun _ h => h.elim) ?aF ?aB ?aS ?aL ?_; (case aR => exact au8_4); (case aB => exact bl_); (case aF => exact au8_14); (case aO => exact au8_12); (case aS => exact (below_size bl_)); (case aL => have := LMc7.out; omega); intro v187 w13 ho hb hg hat; rw [← Ny186.out] at ho; have n0_ := Aside0.mk (blk_grown (g := gb179) (o := .cells #[.string a1_0, .string a1_1, .string a1_2] 37 (0, 0)) (bk_ BK179) hg (Kd.R_away HO185.out (fun _ hk => hk.2))); have n1_ := Aside0.mk (hb); have n2_ := Aside0.mk (ho); clear BK179; clear HB; clear HO185; have BK179 := n0_; have HB := n1_; have HO188 := n2_; clear n0_ n1_ n2_; clear ho hb hg hat) | (go_at_call 15; (with_reducible refine (spec_CrossRight.calls k _ _ l0 true _ ?side1 ?side2 A8.out).mono ?_); (case side1 => exact au8_4); (case side2 => exact HC0.out); rintro e w14 ⟨rfl, hb⟩; (try clear A8); have n0_ := Aside0.mk (Kd.R_below (rk_ HO188) hb); have n1_ := Aside0.mk (blkb_ BK179 hb); have n2_ := Aside0.mk (below_step bl_ hb); clear HO188; clear BK179; clear HB; have HO188 := n0_; have BK179 := n1_; have HB := n2_; clear n0_ n1_ n2_; (try clear hb); (try clear hb2); (try clear hk); (try clear hi)) | ((with_reducible refine gate_dst (N := 20) rfl ?_); refine Kd.R_lit k37 _ 37 ?hg (N := 20) ?hd (xs := ([] : List (S37))) (inner := []) (ok := fun _ => True) (okp := fun _ => True) ?hr ?hp (fun _ hk => hk) trivial (Below.refl _ _) (Nat.le_refl _) (by simp) ?_; (case hd => rfl); (case hg => rfl); (case hr => exact hr_); (case hp => exact (Reps.none _ _)); intro v191 w15 ho16 hb hg_ hnew_; clear hg_ hnew_; (first | rw [← Ny190.out] at ho16 | (simp only [Int.reduceToNat] at ho16; rw [← Ny190.out] at ho16)); have n0_ := Aside0.mk (Kd.R_elder' (rk_ HO188) (Kd.R_base ho16) hb); have n1_ := Aside0.mk (Kd.R_lower (Kd.R_newB (Kd.R_new' ho16 (Kd.R_lt (rk_ HO188))) (g := gb179) (o := .cells #[.string a1_0, .string a1_1, .string a1_2] 37 (0, 0)) (bk_ BK179)) (below_size bl_)); have n2_ := Aside0.mk (blkb_ BK179 hb); have n3_ := Aside0.mk (below_step bl_ hb); clear HO188; clear BK179; clear HB; have HO188 := n0_; have HO192 := n1_; have BK179 := n2_; have HB := n3_; clear n0_ n1_ n2_ n3_; clear hb ho16))
        go_loopg [6, 7, 8] k (fun kq v6 v7 v8 w' => ∃ (x6_1 : List (S37)) (x7_1 : Bool) (x8_1 : Int), v7 = .bool x7_1 ∧ v8 = .int .i64 x8_1 ∧ Aside0 (spec_CrossPut.l0 kq l0 y186 x6_1 x7_1 x8_1 a1_0 a1_1 a1_2 = some r) ∧ Aside0 (kq ≤ k) ∧ Aside0 (Kd.R k37 37 w' w.heap.size (fun k_ => some k_ ≠ (v6 : Value).ownBlock ∧ k_ ≠ gb179) v187 y186) ∧ Aside0 (Kd.R k37 37 w' w.heap.size (fun k_ => some k_ ≠ (v187 : Value).ownBlock ∧ k_ ≠ gb179) v6 x6_1) ∧ Aside0 (w'.heap[gb179]? = some (.cells #[.string a1_0, .string a1_1, .string a1_2] 37 (0, 0))) ∧ Aside0 (Below w.heap.size w w'))
        case atStart => exact ⟨(y190), (false), (0), er_, er_, H', ⟨Nat.le_refl _⟩, ⟨by (with_reducible repeat (first | apply Kd.R_alloc | apply Kd.R_drewN | apply Kd.R_drew)); exact Kd.R_mono HO188.out (fun _ hk => ⟨hk.2, hk.1⟩)⟩, ⟨by (with_reducible repeat (first | apply Kd.R_alloc | apply Kd.R_drewN | apply Kd.R_drew)); exact Kd.R_mono HO192.out (fun _ hk => ⟨hk.1.2, hk.2⟩)⟩, ⟨bk_ BK179⟩, ⟨bl_⟩⟩
        case round =>
          clear H'
          try clear c2
          try clear p2
          try clear c3
          try clear c3b0
          try clear c3b1
          try clear c7
          try clear c9
          obtain ⟨x6_1, x7_1, x8_1, rfl, rfl, HA, HK1, HO_5, HO_6, BK179, HB⟩ := hrel
          cases gk with
          | zero => exact absurd HA.out (by simp [spec_CrossPut.l0])
          | succ k1 =>
            have H := HA.out
            clear HA
            simp only [spec_CrossPut.l0] at H
            by_cases c17 : x8_1 < (l0.length : Int)
            · rw [if_pos c17] at H
              have c17b0 : decide (x8_1 < (l0.length : Int)) = true := decide_eq_true c17
              clear c17
              have HC18 := Aside0.mk H
              clear H
              go_upto_region 11 with (fail)
              go_cut [37] (fun v37 wc => ∃ (kq : Nat) (x37_17 : Bool), v37 = .bool x37_17 ∧ Aside0 (spec_CrossPut.j1 kq l0 y186 x6_1 x7_1 x8_1 x37_17 a1_0 a1_1 a1_2 = some r) ∧ Aside0 (kq ≤ k1) ∧ Aside0 (Kd.R k37 37 wc w.heap.size (fun k_ => some k_ ≠ (u6 : Value).ownBlock ∧ k_ ≠ gb179) v187 y186) ∧ Aside0 (Kd.R k37 37 wc w.heap.size (fun k_ => some k_ ≠ (v187 : Value).ownBlock ∧ k_ ≠ gb179) u6 x6_1) ∧ Aside0 (wc.heap[gb179]? = some (.cells #[.string a1_0, .string a1_1, .string a1_2] 37 (0, 0))) ∧ Aside0 (Below w.heap.size w wc))
              case first =>
                have H := HC18.out
                clear HC18
                by_cases c19 : x7_1 = true
                · subst c19
                  have H1 : (spec_CrossPut.j1 k1 l0 y186 x6_1 true x8_1 false a1_0 a1_1 a1_2) = some r := by rw [if_pos rfl] at H; exact H
                  clear H
                  have H := H1
                  clear H1
                  have H' := Aside0.mk H
                  clear H
                  try go_wp2
                  have n0_ := Aside0.mk (Kd.R_drew HO_5.out)
                  have n1_ := Aside0.mk (Kd.R_drew HO_6.out)
                  have n2_ := Aside0.mk (blk_drew BK179.out)
                  have n3_ := Aside0.mk (below_drew1 HB.out)
                  clear HO_5
                  clear HO_6
                  clear BK179
                  clear HB
                  have HO_5 := n0_
                  have HO_6 := n1_
                  have BK179 := n2_
                  have HB := n3_
                  clear n0_ n1_ n2_ n3_
                  refine start_ (n := 11) (S := fun w' => True) (ds := []) (bs 11 0) (by kernel_rfl) rfl rfl trivial (fun hHeld => ?_); refine with_tabW spec_CrossPut.tab11 spec_CrossPut.bits11 (fun HT_ HW_ => ?_)
                  generalize wr.drew = w20 at HO_5 HO_6 BK179 HB hHeld ⊢
                  refine pu_ 0 27 (bs 11 1) HT_ ?_ rfl rfl
                  refine pu_ 1 28 (bs 11 3) HT_ ?_ rfl rfl
                  refine pu_ 2 29 (bs 11 7) HT_ ?_ rfl rfl
                  refine pv_ 3 30 (bs 11 15) HT_ ?_ rfl rfl
                  refine pv_ 4 31 (bs 11 31) HT_ ?_ rfl rfl
                  refine pv_ 5 32 (bs 11 63) HT_ ?_ rfl rfl
                  refine pv_ 6 33 (bs 11 127) HT_ ?_ rfl rfl
                  refine pv_ 7 34 (bs 11 255) HT_ ?_ rfl rfl
                  refine pv_ 8 35 (bs 11 511) HT_ ?_ rfl rfl
                  refine pv_ 9 36 (bs 11 1023) HT_ ?_ rfl rfl
                  refine pu_ 10 37 (bs 11 2047) HT_ ?_ rfl rfl
                  refine done_ (done_of HT_.out (by kernel_rfl)) ?_
                  try go_wp2
                  go_meet
                  case rel => exact ⟨_, (false), er_, H', ⟨by have := HK1.out; first | omega | exact Nat.le_refl _⟩, ⟨rk_ HO_5⟩, ⟨rk_ HO_6⟩, ⟨bk_ BK179⟩, ⟨bl_⟩⟩
                · replace c19 := Bool.eq_false_iff.mpr c19
                  subst c19
                  have H1 : (if 0 ≤ x8_1 then ((spec_l08Before.f ((rd_T37 l0 x8_1).f0) ((rd_T37 l0 x8_1).f1) ((rd_T37 l0 x8_1).f2) a1_0 a1_1 a1_2).bind fun t194 => (spec_CrossPut.j1 k1 l0 y186 x6_1 false x8_1 (!t194) a1_0 a1_1 a1_2)) else (none)) = some r := by rw [if_neg (show ¬ (false = true) by decide)] at H; exact H
                  clear H
                  have H := H1
                  clear H1
                  by_cases c21 : 0 ≤ x8_1
                  · rw [if_pos c21] at H
                    have c21b0 : decide (0 ≤ x8_1) = true := decide_eq_true c21
                    clear c21
                    (first | rw [c21b0] | (simp only [i64_w, i32_w]; rw [c21b0]) | skip)
                    replace H := Option.bind_eq_some_iff.mp H
                    obtain ⟨t194, A220, H⟩ := H
                    replace H : (spec_CrossPut.j1 k1 l0 y186 x6_1 false x8_1 (!t194) a1_0 a1_1 a1_2) = some r := H
                    have A22 := Aside0.mk A220
                    clear A220
                    have H' := Aside0.mk H
                    clear H
                    try go_wp2
                    have n0_ := Aside0.mk (Kd.R_drew HO_5.out)
                    have n1_ := Aside0.mk (Kd.R_drew HO_6.out)
                    have n2_ := Aside0.mk (blk_drew BK179.out)
                    have n3_ := Aside0.mk (below_drew1 HB.out)
                    clear HO_5
                    clear HO_6
                    clear BK179
                    clear HB
                    have HO_5 := n0_
                    have HO_6 := n1_
                    have BK179 := n2_
                    have HB := n3_
                    clear n0_ n1_ n2_ n3_
                    have p193 : 0 ≤ (x8_1 : Int) := of_decide_eq_true as_
                    have q193 : x8_1 < (l0.length : Int) := of_decide_eq_true as_
                    obtain ⟨ad193, e193, hx193_0, hx193_1, hx193_2⟩ := at_T37 HR0.out x8_1 p193 q193
                    have hw193_2 := hx193_2
                    have hw193_1 := hx193_1
                    have hw193_0 := hx193_0
                    cases e193
                    replace hx193_0 := (HB.out.cell (World.block_lt_of_cell? _ _ hx193_0)).trans hx193_0
                    replace hx193_1 := (HB.out.cell (World.block_lt_of_cell? _ _ hx193_1)).trans hx193_1
                    replace hx193_2 := (HB.out.cell (World.block_lt_of_cell? _ _ hx193_2)).trans hx193_2
                    replace p193 := eq_true p193
                    replace q193 := eq_true q193
                    refine start_ (n := 11) (S := fun w' => w'.cell? ⟨gb179, 0, none⟩ = some (.string a1_0) ∧ w'.cell? ⟨gb179, 1, none⟩ = some (.string a1_1) ∧ w'.cell? ⟨gb179, 2, none⟩ = some (.string a1_2) ∧ w'.cell? (ad193.add ((x8_1).toNat * 3)) = some (.string ((rd_T37 l0 x8_1).f0)) ∧ w'.cell? ⟨(ad193.add ((x8_1).toNat * 3)).block, (ad193.add ((x8_1).toNat * 3)).off + 1, none⟩ = some (.string ((rd_T37 l0 x8_1).f1)) ∧ w'.cell? ⟨(ad193.add ((x8_1).toNat * 3)).block, (ad193.add ((x8_1).toNat * 3)).off + 2, none⟩ = some (.string ((rd_T37 l0 x8_1).f2))) (ds := []) (bs 11 0) (by kernel_rfl) rfl rfl ⟨(blk_cell BK179.out 0).trans rfl, (blk_cell BK179.out 1).trans rfl, (blk_cell BK179.out 2).trans rfl, ((HB.out.cell (World.block_lt_of_cell? _ _ hw193_0)).trans hw193_0), ((HB.out.cell (World.block_lt_of_cell? _ _ hw193_1)).trans hw193_1), ((HB.out.cell (World.block_lt_of_cell? _ _ hw193_2)).trans hw193_2)⟩ (fun hHeld => ?_); refine with_tabW spec_CrossPut.tab11 spec_CrossPut.bits11 (fun HT_ HW_ => ?_)
                    generalize wr.drew = w23 at HO_5 HO_6 BK179 HB hx193_0 hx193_1 hx193_2 hHeld ⊢
                    refine pu_ 0 27 (bs 11 1) HT_ ?_ rfl rfl
                    refine pu_ 1 28 (bs 11 3) HT_ ?_ rfl rfl
                    refine pu_ 2 29 (bs 11 7) HT_ ?_ rfl rfl
                    refine pu_ 3 30 (bs 11 15) HT_ ?_ rfl rfl
                    refine pu_ 4 31 (bs 11 31) HT_ ?_ rfl rfl
                    refine pu_ 5 32 (bs 11 63) HT_ ?_ rfl rfl
                    refine tk_ 6 33 (bs 11 127) HT_ HW_ hHeld au8_6 ?_ rfl rfl
                    refine tk_ 7 34 (bs 11 255) HT_ HW_ hHeld au8_6 ?_ rfl rfl
                    refine one_ (i := 8) (N := some 35) (bs 11 511) rfl rfl (one_of HT_.out (by kernel_rfl)) (by decide) (fun K hK => ?_)
                    refine gr_ Try.func55 #[.agg #[.string ((rd_T37 l0 x8_1).f0), .string ((rd_T37 l0 x8_1).f1), .string ((rd_T37 l0 x8_1).f2)], .agg #[.string a1_0, .string a1_1, .string a1_2]] (by rfl) ?_ rfl rfl rfl
                    with_reducible refine (spec_l08Before.calls ((rd_T37 l0 x8_1).f0) ((rd_T37 l0 x8_1).f1) ((rd_T37 l0 x8_1).f2) a1_0 a1_1 a1_2 t194 _ A22.out).mono ?_
                    rintro e w24 ⟨rfl, hb⟩
                    refine ⟨_, rfl, ?_⟩
                    have n0_ := Aside0.mk (Kd.R_below (rk_ HO_5) hb)
                    have n1_ := Aside0.mk (Kd.R_below (rk_ HO_6) hb)
                    have n2_ := Aside0.mk (blkb_ BK179 hb)
                    have n3_ := Aside0.mk (below_step bl_ hb)
                    clear HO_5
                    clear HO_6
                    clear BK179
                    clear HB
                    have HO_5 := n0_
                    have HO_6 := n1_
                    have BK179 := n2_
                    have HB := n3_
                    clear n0_ n1_ n2_ n3_
                    (try clear hb)
                    (try clear hb2)
                    (try clear hk)
                    (try clear hi)
                    refine hK.out _ _ ⟨(blk_cell BK179.out 0).trans rfl, (blk_cell BK179.out 1).trans rfl, (blk_cell BK179.out 2).trans rfl, ((HB.out.cell (World.block_lt_of_cell? _ _ hw193_0)).trans hw193_0), ((HB.out.cell (World.block_lt_of_cell? _ _ hw193_1)).trans hw193_1), ((HB.out.cell (World.block_lt_of_cell? _ _ hw193_2)).trans hw193_2)⟩ (fun hHeld => ?_)
                    clear hK K
                    refine norm_ (a' := ?_) ?_ ?_
                    rotate_left
                    · show Act.put _ (some 35) _ = _
                      simp only [Act.put, List.setIfInBounds_toArray, List.set_cons_zero, List.set_cons_succ, i64_w, i32_w]
                      rfl
                    refine pu_ 9 36 (bs 11 1023) HT_ ?_ rfl rfl
                    refine pu_ 10 37 (bs 11 2047) HT_ ?_ rfl rfl
                    refine done_ (done_of HT_.out (by kernel_rfl)) ?_
                    try go_wp2
                    go_meet
                    case rel => exact ⟨_, (!t194), er_, H', ⟨by have := HK1.out; first | omega | exact Nat.le_refl _⟩, ⟨rk_ HO_5⟩, ⟨rk_ HO_6⟩, ⟨bk_ BK179⟩, ⟨bl_⟩⟩
                  · rw [if_neg c21] at H
                    exact absurd H (by simp)
              case rest =>
                clear HC18
                try clear c1
                try clear p1
                try clear q1
                try clear hx1
                try clear c2
                try clear p2
                try clear c3
                try clear c3b0
                try clear c3b1
                try clear c5
                try clear c7
                try clear c9
                try clear c17
                try clear c17b0
                try clear c19
                try clear p19
                try clear q19
                try clear hx19
                try clear c21
                try clear c21b0
                try clear hx193_0
                try clear hx193_1
                try clear hx193_2
                try clear p193
                try clear p2
                try clear q193
                obtain ⟨kq, x37_17, rfl, HA, HJ17, HO_5, HO_6, BK179, HB⟩ := hcut
                cases kq with
                | zero => exact absurd HA.out (by simp [spec_CrossPut.j1])
                | succ kj17 =>
                  have H := HA.out
                  clear HA
                  simp only [spec_CrossPut.j1] at H
                  by_cases c25 : x37_17 = true
                  · subst c25
                    have H1 : (if x6_1.length < 2932031007402 then ((some (x6_1 ++ [(⟨a1_0, a1_1, a1_2⟩ : S37)] : List (S37))).bind fun y195 => (if 0 ≤ x8_1 then (if x8_1 < (l0.length : Int) then (if ((rd_T37 l0 x8_1).f0).toList = a1_0.toList then (if ((rd_T37 l0 x8_1).f1).toList = a1_1.toList then (spec_CrossPut.l0 kj17 l0 y186 y195 true (wrap64 (x8_1 + 1)) a1_0 a1_1 a1_2) else (if y195.length < 2932031007402 then (spec_CrossPut.l0 kj17 l0 y186 (y195 ++ [(⟨(rd_T37 l0 x8_1).f0, (rd_T37 l0 x8_1).f1, (rd_T37 l0 x8_1).f2⟩ : S37)]) true (wrap64 (x8_1 + 1)) a1_0 a1_1 a1_2) else (none))) else (if y195.length < 2932031007402 then (spec_CrossPut.l0 kj17 l0 y186 (y195 ++ [(⟨(rd_T37 l0 x8_1).f0, (rd_T37 l0 x8_1).f1, (rd_T37 l0 x8_1).f2⟩ : S37)]) true (wrap64 (x8_1 + 1)) a1_0 a1_1 a1_2) else (none))) else (none)) else (none))) else (none)) = some r := by rw [if_pos rfl] at H; exact H
                    clear H
                    have H := H1
                    clear H1
                    by_cases c26 : x6_1.length < 2932031007402
                    · rw [if_pos c26] at H
                      have LMc26 := Aside0.mk c26
                      clear c26
                      obtain ⟨y195, hy195⟩ : ∃ y_ : List (S37), y_ = (x6_1 ++ [(⟨a1_0, a1_1, a1_2⟩ : S37)]) := ⟨_, rfl⟩
                      replace H : (if 0 ≤ x8_1 then (if x8_1 < (l0.length : Int) then (if ((rd_T37 l0 x8_1).f0).toList = a1_0.toList then (if ((rd_T37 l0 x8_1).f1).toList = a1_1.toList then (spec_CrossPut.l0 kj17 l0 y186 y195 true (wrap64 (x8_1 + 1)) a1_0 a1_1 a1_2) else (if y195.length < 2932031007402 then (spec_CrossPut.l0 kj17 l0 y186 (y195 ++ [(⟨(rd_T37 l0 x8_1).f0, (rd_T37 l0 x8_1).f1, (rd_T37 l0 x8_1).f2⟩ : S37)]) true (wrap64 (x8_1 + 1)) a1_0 a1_1 a1_2) else (none))) else (if y195.length < 2932031007402 then (spec_CrossPut.l0 kj17 l0 y186 (y195 ++ [(⟨(rd_T37 l0 x8_1).f0, (rd_T37 l0 x8_1).f1, (rd_T37 l0 x8_1).f2⟩ : S37)]) true (wrap64 (x8_1 + 1)) a1_0 a1_1 a1_2) else (none))) else (none)) else (none)) = some r := by first | (rw [hy195]; with_reducible exact H) | (have H2_ := (Option.bind_some _ _).symm.trans H; rw [hy195]; with_reducible exact H2_) | (have H2_ := (Option.bind_some _ _).symm.trans H; with_reducible exact H2_) | with_reducible exact H | (rw [hy195]; exact H) | exact H
                      have Ny195 := Aside0.mk hy195
                      clear hy195
                      by_cases c27 : 0 ≤ x8_1
                      · rw [if_pos c27] at H
                        have c27b0 : decide (0 ≤ x8_1) = true := decide_eq_true c27
                        clear c27
                        by_cases c28 : x8_1 < (l0.length : Int)
                        · rw [if_pos c28] at H
                          have c28b0 : decide (x8_1 < (l0.length : Int)) = true := decide_eq_true c28
                          clear c28
                          by_cases c29 : ((rd_T37 l0 x8_1).f0).toList = a1_0.toList
                          · rw [if_pos c29] at H
                            have c29b0 : (((rd_T37 l0 x8_1).f0).toList == a1_0.toList) = true := beq_iff_eq.mpr c29
                            have c29b1 : (((rd_T37 l0 x8_1).f0).toList != a1_0.toList) = false := bne_eq_false_iff_eq.mpr c29
                            clear c29
                            by_cases c30 : ((rd_T37 l0 x8_1).f1).toList = a1_1.toList
                            · rw [if_pos c30] at H
                              have c30b0 : (((rd_T37 l0 x8_1).f1).toList == a1_1.toList) = true := beq_iff_eq.mpr c30
                              have c30b1 : (((rd_T37 l0 x8_1).f1).toList != a1_1.toList) = false := bne_eq_false_iff_eq.mpr c30
                              clear c30
                              have H' := Aside0.mk H
                              clear H
                              obtain ⟨hcz31_0, hcz31_1, hcz31_2, hfz31_0, hfz31_1, hfz31_2⟩ := cellsF3 BK179.out
                              try go_wp2_with (first | ((with_reducible refine gate_builtin (b := .append) (xs := #[.tmp 38, .tmp 40]) rfl ?_); at_builtin; refine Kd.R_append k37 (w0 := w) w.heap.size rfl (.tmp 38) (.tmp 40) 25 37 (.agg #[(.string ⟨#[]⟩), (.string ⟨#[]⟩), (.string ⟨#[]⟩)]) 48 rfl Try.underlying25 info37 rfl (by decide) (by omega) u6 x6_1 (⟨a1_0, a1_1, a1_2⟩ : S37) [.string a1_0, .string a1_1, .string a1_2] (fun k_ => some k_ ≠ (v187 : Value).ownBlock ∧ k_ ≠ gb179) (fun _ => False) rfl rfl ?aP (fun _ hk => hk.elim) ?aF ?aO ?aB ?aS ?aL ?_; (case aP => exact au8_11); (case aB => exact bl_); (case aF => exact au8_0); (case aO => exact (rk_ HO_6)); (case aS => exact (below_size bl_)); (case aL => have := LMc26.out; omega); intro v196 w32 ho hb hg hat; rw [← Ny195.out] at ho; have n0_ := Aside0.mk (Kd.R_after (ok := (fun k_ => k_ ≠ gb179)) au8_2 hg hat); have n1_ := Aside0.mk (blk_grown (g := gb179) (o := .cells #[.string a1_0, .string a1_1, .string a1_2] 37 (0, 0)) (bk_ BK179) hg (Kd.R_away HO_6.out (fun _ hk => hk.2))); have n2_ := Aside0.mk (hb); have n3_ := Aside0.mk (ho); clear HO_5; clear BK179; clear HB; clear HO_6; have HO_5 := n0_; have BK179 := n1_; have HB := n2_; have HO197 := n3_; clear n0_ n1_ n2_ n3_; clear ho hb hg hat))
                              have n0_ := Aside0.mk (Kd.R_drew HO_5.out)
                              have n1_ := Aside0.mk (Kd.R_drew HO197.out)
                              have n2_ := Aside0.mk (blk_drew BK179.out)
                              have n3_ := Aside0.mk (below_drew1 HB.out)
                              clear HO_5
                              clear HO197
                              clear BK179
                              clear HB
                              have HO_5 := n0_
                              have HO197 := n1_
                              have BK179 := n2_
                              have HB := n3_
                              clear n0_ n1_ n2_ n3_
                              have p198 : 0 ≤ (x8_1 : Int) := of_decide_eq_true as_
                              have q198 : x8_1 < (l0.length : Int) := of_decide_eq_true as_
                              obtain ⟨ad198, e198, hx198_0, hx198_1, hx198_2⟩ := at_T37 HR0.out x8_1 p198 q198
                              have hw198_2 := hx198_2
                              have hw198_1 := hx198_1
                              have hw198_0 := hx198_0
                              cases e198
                              replace hx198_0 := (HB.out.cell (World.block_lt_of_cell? _ _ hx198_0)).trans hx198_0
                              replace hx198_1 := (HB.out.cell (World.block_lt_of_cell? _ _ hx198_1)).trans hx198_1
                              replace hx198_2 := (HB.out.cell (World.block_lt_of_cell? _ _ hx198_2)).trans hx198_2
                              replace p198 := eq_true p198
                              replace q198 := eq_true q198
                              have p199 : 0 ≤ (x8_1 : Int) := of_decide_eq_true as_
                              have q199 : x8_1 < (l0.length : Int) := of_decide_eq_true as_
                              obtain ⟨ad199, e199, hx199_0, hx199_1, hx199_2⟩ := at_T37 HR0.out x8_1 p199 q199
                              have hw199_2 := hx199_2
                              have hw199_1 := hx199_1
                              have hw199_0 := hx199_0
                              obtain rfl : ad198 = ad199 := (by injection e199)
                              replace hx199_0 := (HB.out.cell (World.block_lt_of_cell? _ _ hx199_0)).trans hx199_0
                              replace hx199_1 := (HB.out.cell (World.block_lt_of_cell? _ _ hx199_1)).trans hx199_1
                              replace hx199_2 := (HB.out.cell (World.block_lt_of_cell? _ _ hx199_2)).trans hx199_2
                              replace p199 := eq_true p199
                              replace q199 := eq_true q199
                              refine start_ (n := 18) (S := fun w' => w'.cell? ⟨gb179, 0, none⟩ = some (.string a1_0) ∧ w'.cell? ⟨gb179, 1, none⟩ = some (.string a1_1) ∧ w'.cell? ⟨gb179, 2, none⟩ = some (.string a1_2) ∧ w'.cell? (ad198.add ((x8_1).toNat * 3)) = some (.string ((rd_T37 l0 x8_1).f0)) ∧ w'.cell? ⟨(ad198.add ((x8_1).toNat * 3)).block, (ad198.add ((x8_1).toNat * 3)).off + 1, none⟩ = some (.string ((rd_T37 l0 x8_1).f1)) ∧ w'.cell? ⟨(ad198.add ((x8_1).toNat * 3)).block, (ad198.add ((x8_1).toNat * 3)).off + 2, none⟩ = some (.string ((rd_T37 l0 x8_1).f2)) ∧ w'.cell? (ad198.add ((x8_1).toNat * 3)) = some (.string ((rd_T37 l0 x8_1).f0)) ∧ w'.cell? ⟨(ad198.add ((x8_1).toNat * 3)).block, (ad198.add ((x8_1).toNat * 3)).off + 1, none⟩ = some (.string ((rd_T37 l0 x8_1).f1)) ∧ w'.cell? ⟨(ad198.add ((x8_1).toNat * 3)).block, (ad198.add ((x8_1).toNat * 3)).off + 2, none⟩ = some (.string ((rd_T37 l0 x8_1).f2))) (ds := []) (bs 18 0) (by kernel_rfl) rfl rfl ⟨(blk_cell BK179.out 0).trans rfl, (blk_cell BK179.out 1).trans rfl, (blk_cell BK179.out 2).trans rfl, ((HB.out.cell (World.block_lt_of_cell? _ _ hw198_0)).trans hw198_0), ((HB.out.cell (World.block_lt_of_cell? _ _ hw198_1)).trans hw198_1), ((HB.out.cell (World.block_lt_of_cell? _ _ hw198_2)).trans hw198_2), ((HB.out.cell (World.block_lt_of_cell? _ _ hw199_0)).trans hw199_0), ((HB.out.cell (World.block_lt_of_cell? _ _ hw199_1)).trans hw199_1), ((HB.out.cell (World.block_lt_of_cell? _ _ hw199_2)).trans hw199_2)⟩ (fun hHeld => ?_); refine with_tabW spec_CrossPut.tab14 spec_CrossPut.bits14 (fun HT_ HW_ => ?_)
                              generalize w32.drew = w33 at HO_5 HO197 BK179 HB hx198_0 hx198_1 hx198_2 hx199_0 hx199_1 hx199_2 hHeld ⊢
                              refine pu_ 0 42 (bs 18 1) HT_ ?_ rfl rfl
                              refine pu_ 1 43 (bs 18 3) HT_ ?_ rfl rfl
                              refine pu_ 2 44 (bs 18 7) HT_ ?_ rfl rfl
                              refine pu_ 3 45 (bs 18 15) HT_ ?_ rfl rfl
                              refine pu_ 5 47 (bs 18 47) HT_ ?_ rfl rfl
                              refine tk_ 4 46 (bs 18 63) HT_ HW_ hHeld au8_1 ?_ rfl rfl
                              refine tk_ 6 48 (bs 18 127) HT_ HW_ hHeld au8_1 ?_ rfl rfl
                              refine pu_ 7 49 (bs 18 255) HT_ ?_ rfl rfl
                              refine pu_ 8 50 (bs 18 511) HT_ ?_ rfl rfl
                              refine pu_ 9 51 (bs 18 1023) HT_ ?_ rfl rfl
                              refine pu_ 10 52 (bs 18 2047) HT_ ?_ rfl rfl
                              refine pu_ 11 53 (bs 18 4095) HT_ ?_ rfl rfl
                              refine pu_ 12 54 (bs 18 8191) HT_ ?_ rfl rfl
                              refine pu_ 14 56 (bs 18 24575) HT_ ?_ rfl rfl
                              refine tk_ 13 55 (bs 18 32767) HT_ HW_ hHeld au8_1 ?_ rfl rfl
                              refine tk_ 15 57 (bs 18 65535) HT_ HW_ hHeld au8_1 ?_ rfl rfl
                              refine pu_ 16 58 (bs 18 131071) HT_ ?_ rfl rfl
                              refine pu_ 17 59 (bs 18 262143) HT_ ?_ rfl rfl
                              refine done_ (done_of HT_.out (by kernel_rfl)) ?_
                              try go_wp2
                              go_roundg kj17
                              case measure => have := HK1.out; have := HJ17.out; omega
                              case rel => exact ⟨(y195), (true), (wrap64 (x8_1 + 1)), er_, er_, H', ⟨au8_8⟩, ⟨au8_3⟩, ⟨rk_ HO197⟩, ⟨bk_ BK179⟩, ⟨bl_⟩⟩
                            · rw [if_neg c30] at H
                              have c30b0 : (((rd_T37 l0 x8_1).f1).toList == a1_1.toList) = false := beq_eq_false_iff_ne.mpr c30
                              have c30b1 : (((rd_T37 l0 x8_1).f1).toList != a1_1.toList) = true := bne_iff_ne.mpr c30
                              by_cases c34 : y195.length < 2932031007402
                              · rw [if_pos c34] at H
                                have LMc34 := Aside0.mk c34
                                clear c34
                                obtain ⟨y201, hy201⟩ : ∃ y_ : List (S37), y_ = (y195 ++ [(⟨(rd_T37 l0 x8_1).f0, (rd_T37 l0 x8_1).f1, (rd_T37 l0 x8_1).f2⟩ : S37)]) := ⟨_, rfl⟩
                                replace H : (spec_CrossPut.l0 kj17 l0 y186 y201 true (wrap64 (x8_1 + 1)) a1_0 a1_1 a1_2) = some r := by first | (rw [hy201]; with_reducible exact H) | (have H2_ := (Option.bind_some _ _).symm.trans H; rw [hy201]; with_reducible exact H2_) | (have H2_ := (Option.bind_some _ _).symm.trans H; with_reducible exact H2_) | with_reducible exact H | (rw [hy201]; exact H) | exact H
                                have Ny201 := Aside0.mk hy201
                                clear hy201
                                have H' := Aside0.mk H
                                clear H
                                obtain ⟨hcz35_0, hcz35_1, hcz35_2, hfz35_0, hfz35_1, hfz35_2⟩ := cellsF3 BK179.out
                                try go_wp2_with (first | ((with_reducible refine gate_builtin (b := .append) (xs := #[.tmp 38, .tmp 40]) rfl ?_); at_builtin; refine Kd.R_append k37 (w0 := w) w.heap.size rfl (.tmp 38) (.tmp 40) 25 37 (.agg #[(.string ⟨#[]⟩), (.string ⟨#[]⟩), (.string ⟨#[]⟩)]) 48 rfl Try.underlying25 info37 rfl (by decide) (by omega) u6 x6_1 (⟨a1_0, a1_1, a1_2⟩ : S37) [.string a1_0, .string a1_1, .string a1_2] (fun k_ => some k_ ≠ (v187 : Value).ownBlock ∧ k_ ≠ gb179) (fun _ => False) rfl rfl ?aP (fun _ hk => hk.elim) ?aF ?aO ?aB ?aS ?aL ?_; (case aP => exact au8_11); (case aB => exact bl_); (case aF => exact au8_0); (case aO => exact (rk_ HO_6)); (case aS => exact (below_size bl_)); (case aL => have := LMc26.out; omega); intro v196 w36 ho hb hg hat; rw [← Ny195.out] at ho; have n0_ := Aside0.mk (Kd.R_after (ok := (fun k_ => k_ ≠ gb179)) au8_2 hg hat); have n1_ := Aside0.mk (blk_grown (g := gb179) (o := .cells #[.string a1_0, .string a1_1, .string a1_2] 37 (0, 0)) (bk_ BK179) hg (Kd.R_away HO_6.out (fun _ hk => hk.2))); have n2_ := Aside0.mk (hb); have n3_ := Aside0.mk (ho); clear HO_5; clear BK179; clear HB; clear HO_6; have HO_5 := n0_; have BK179 := n1_; have HB := n2_; have HO197 := n3_; clear n0_ n1_ n2_ n3_; clear ho hb hg hat))
                                have n0_ := Aside0.mk (Kd.R_drew HO_5.out)
                                have n1_ := Aside0.mk (Kd.R_drew HO197.out)
                                have n2_ := Aside0.mk (blk_drew BK179.out)
                                have n3_ := Aside0.mk (below_drew1 HB.out)
                                clear HO_5
                                clear HO197
                                clear BK179
                                clear HB
                                have HO_5 := n0_
                                have HO197 := n1_
                                have BK179 := n2_
                                have HB := n3_
                                clear n0_ n1_ n2_ n3_
                                have p198 : 0 ≤ (x8_1 : Int) := of_decide_eq_true as_
                                have q198 : x8_1 < (l0.length : Int) := of_decide_eq_true as_
                                obtain ⟨ad198, e198, hx198_0, hx198_1, hx198_2⟩ := at_T37 HR0.out x8_1 p198 q198
                                have hw198_2 := hx198_2
                                have hw198_1 := hx198_1
                                have hw198_0 := hx198_0
                                cases e198
                                replace hx198_0 := (HB.out.cell (World.block_lt_of_cell? _ _ hx198_0)).trans hx198_0
                                replace hx198_1 := (HB.out.cell (World.block_lt_of_cell? _ _ hx198_1)).trans hx198_1
                                replace hx198_2 := (HB.out.cell (World.block_lt_of_cell? _ _ hx198_2)).trans hx198_2
                                replace p198 := eq_true p198
                                replace q198 := eq_true q198
                                have p199 : 0 ≤ (x8_1 : Int) := of_decide_eq_true as_
                                have q199 : x8_1 < (l0.length : Int) := of_decide_eq_true as_
                                obtain ⟨ad199, e199, hx199_0, hx199_1, hx199_2⟩ := at_T37 HR0.out x8_1 p199 q199
                                have hw199_2 := hx199_2
                                have hw199_1 := hx199_1
                                have hw199_0 := hx199_0
                                obtain rfl : ad198 = ad199 := (by injection e199)
                                replace hx199_0 := (HB.out.cell (World.block_lt_of_cell? _ _ hx199_0)).trans hx199_0
                                replace hx199_1 := (HB.out.cell (World.block_lt_of_cell? _ _ hx199_1)).trans hx199_1
                                replace hx199_2 := (HB.out.cell (World.block_lt_of_cell? _ _ hx199_2)).trans hx199_2
                                replace p199 := eq_true p199
                                replace q199 := eq_true q199
                                refine start_ (n := 18) (S := fun w' => w'.cell? ⟨gb179, 0, none⟩ = some (.string a1_0) ∧ w'.cell? ⟨gb179, 1, none⟩ = some (.string a1_1) ∧ w'.cell? ⟨gb179, 2, none⟩ = some (.string a1_2) ∧ w'.cell? (ad198.add ((x8_1).toNat * 3)) = some (.string ((rd_T37 l0 x8_1).f0)) ∧ w'.cell? ⟨(ad198.add ((x8_1).toNat * 3)).block, (ad198.add ((x8_1).toNat * 3)).off + 1, none⟩ = some (.string ((rd_T37 l0 x8_1).f1)) ∧ w'.cell? ⟨(ad198.add ((x8_1).toNat * 3)).block, (ad198.add ((x8_1).toNat * 3)).off + 2, none⟩ = some (.string ((rd_T37 l0 x8_1).f2)) ∧ w'.cell? (ad198.add ((x8_1).toNat * 3)) = some (.string ((rd_T37 l0 x8_1).f0)) ∧ w'.cell? ⟨(ad198.add ((x8_1).toNat * 3)).block, (ad198.add ((x8_1).toNat * 3)).off + 1, none⟩ = some (.string ((rd_T37 l0 x8_1).f1)) ∧ w'.cell? ⟨(ad198.add ((x8_1).toNat * 3)).block, (ad198.add ((x8_1).toNat * 3)).off + 2, none⟩ = some (.string ((rd_T37 l0 x8_1).f2))) (ds := []) (bs 18 0) (by kernel_rfl) rfl rfl ⟨(blk_cell BK179.out 0).trans rfl, (blk_cell BK179.out 1).trans rfl, (blk_cell BK179.out 2).trans rfl, ((HB.out.cell (World.block_lt_of_cell? _ _ hw198_0)).trans hw198_0), ((HB.out.cell (World.block_lt_of_cell? _ _ hw198_1)).trans hw198_1), ((HB.out.cell (World.block_lt_of_cell? _ _ hw198_2)).trans hw198_2), ((HB.out.cell (World.block_lt_of_cell? _ _ hw199_0)).trans hw199_0), ((HB.out.cell (World.block_lt_of_cell? _ _ hw199_1)).trans hw199_1), ((HB.out.cell (World.block_lt_of_cell? _ _ hw199_2)).trans hw199_2)⟩ (fun hHeld => ?_); refine with_tabW spec_CrossPut.tab14 spec_CrossPut.bits14 (fun HT_ HW_ => ?_)
                                generalize w36.drew = w37 at HO_5 HO197 BK179 HB hx198_0 hx198_1 hx198_2 hx199_0 hx199_1 hx199_2 hHeld ⊢
                                refine pu_ 0 42 (bs 18 1) HT_ ?_ rfl rfl
                                refine pu_ 1 43 (bs 18 3) HT_ ?_ rfl rfl
                                refine pu_ 2 44 (bs 18 7) HT_ ?_ rfl rfl
                                refine pu_ 3 45 (bs 18 15) HT_ ?_ rfl rfl
                                refine pu_ 5 47 (bs 18 47) HT_ ?_ rfl rfl
                                refine tk_ 4 46 (bs 18 63) HT_ HW_ hHeld au8_1 ?_ rfl rfl
                                refine tk_ 6 48 (bs 18 127) HT_ HW_ hHeld au8_1 ?_ rfl rfl
                                refine pu_ 7 49 (bs 18 255) HT_ ?_ rfl rfl
                                refine pu_ 8 50 (bs 18 511) HT_ ?_ rfl rfl
                                refine pu_ 9 51 (bs 18 1023) HT_ ?_ rfl rfl
                                refine pu_ 10 52 (bs 18 2047) HT_ ?_ rfl rfl
                                refine pu_ 11 53 (bs 18 4095) HT_ ?_ rfl rfl
                                refine pu_ 12 54 (bs 18 8191) HT_ ?_ rfl rfl
                                refine pu_ 14 56 (bs 18 24575) HT_ ?_ rfl rfl
                                refine tk_ 13 55 (bs 18 32767) HT_ HW_ hHeld au8_1 ?_ rfl rfl
                                refine tk_ 15 57 (bs 18 65535) HT_ HW_ hHeld au8_1 ?_ rfl rfl
                                refine pu_ 16 58 (bs 18 131071) HT_ ?_ rfl rfl
                                refine pu_ 17 59 (bs 18 262143) HT_ ?_ rfl rfl
                                refine done_ (done_of HT_.out (by kernel_rfl)) ?_
                                have p200 : 0 ≤ (x8_1 : Int) := of_decide_eq_true as_
                                have q200 : x8_1 < (l0.length : Int) := of_decide_eq_true as_
                                obtain ⟨ad200, e200, hx200_0, hx200_1, hx200_2⟩ := at_T37 HR0.out x8_1 p200 q200
                                obtain rfl : ad198 = ad200 := (by injection e200)
                                replace hx200_0 := (HB.out.cell (World.block_lt_of_cell? _ _ hx200_0)).trans hx200_0
                                replace hx200_1 := (HB.out.cell (World.block_lt_of_cell? _ _ hx200_1)).trans hx200_1
                                replace hx200_2 := (HB.out.cell (World.block_lt_of_cell? _ _ hx200_2)).trans hx200_2
                                replace p200 := eq_true p200
                                replace q200 := eq_true q200
                                try go_wp2_with (first | ((with_reducible refine gate_builtin (b := .append) (xs := #[.tmp 60, .tmp 65]) rfl ?_); at_builtin; refine Kd.R_append k37 (w0 := w) w.heap.size rfl (.tmp 60) (.tmp 65) 25 37 (.agg #[(.string ⟨#[]⟩), (.string ⟨#[]⟩), (.string ⟨#[]⟩)]) 48 rfl Try.underlying25 info37 rfl (by decide) (by omega) v196 y195 (⟨(rd_T37 l0 x8_1).f0, (rd_T37 l0 x8_1).f1, (rd_T37 l0 x8_1).f2⟩ : S37) [.string ((rd_T37 l0 x8_1).f0), .string ((rd_T37 l0 x8_1).f1), .string ((rd_T37 l0 x8_1).f2)] (fun k_ => some k_ ≠ (v187 : Value).ownBlock ∧ k_ ≠ gb179) (fun _ => False) rfl rfl ?aP (fun _ hk => hk.elim) ?aF ?aO ?aB ?aS ?aL ?_; (case aP => exact au8_7); (case aB => exact bl_); (case aF => exact au8_0); (case aO => exact (rk_ HO197)); (case aS => exact (below_size bl_)); (case aL => have := LMc34.out; omega); intro v202 w38 ho hb hg hat; rw [← Ny201.out] at ho; have n0_ := Aside0.mk (Kd.R_after (ok := (fun k_ => k_ ≠ gb179)) (rk_ HO_5) hg hat); have n1_ := Aside0.mk (blk_grown (g := gb179) (o := .cells #[.string a1_0, .string a1_1, .string a1_2] 37 (0, 0)) (bk_ BK179) hg (Kd.R_away HO197.out (fun _ hk => hk.2))); have n2_ := Aside0.mk (hb); have n3_ := Aside0.mk (ho); clear HO_5; clear BK179; clear HB; clear HO197; have HO_5 := n0_; have BK179 := n1_; have HB := n2_; have HO203 := n3_; clear n0_ n1_ n2_ n3_; clear ho hb hg hat))
                                go_roundg kj17
                                case measure => have := HK1.out; have := HJ17.out; omega
                                case rel => exact ⟨(y201), (true), (wrap64 (x8_1 + 1)), er_, er_, H', ⟨au8_8⟩, ⟨au8_3⟩, ⟨rk_ HO203⟩, ⟨bk_ BK179⟩, ⟨bl_⟩⟩
                              · rw [if_neg c34] at H
                                exact absurd H (by simp)
                          · rw [if_neg c29] at H
                            have c29b0 : (((rd_T37 l0 x8_1).f0).toList == a1_0.toList) = false := beq_eq_false_iff_ne.mpr c29
                            have c29b1 : (((rd_T37 l0 x8_1).f0).toList != a1_0.toList) = true := bne_iff_ne.mpr c29
                            by_cases c39 : y195.length < 2932031007402
                            · rw [if_pos c39] at H
                              have LMc39 := Aside0.mk c39
                              clear c39
                              obtain ⟨y205, hy205⟩ : ∃ y_ : List (S37), y_ = (y195 ++ [(⟨(rd_T37 l0 x8_1).f0, (rd_T37 l0 x8_1).f1, (rd_T37 l0 x8_1).f2⟩ : S37)]) := ⟨_, rfl⟩
                              replace H : (spec_CrossPut.l0 kj17 l0 y186 y205 true (wrap64 (x8_1 + 1)) a1_0 a1_1 a1_2) = some r := by first | (rw [hy205]; with_reducible exact H) | (have H2_ := (Option.bind_some _ _).symm.trans H; rw [hy205]; with_reducible exact H2_) | (have H2_ := (Option.bind_some _ _).symm.trans H; with_reducible exact H2_) | with_reducible exact H | (rw [hy205]; exact H) | exact H
                              have Ny205 := Aside0.mk hy205
                              clear hy205
                              have H' := Aside0.mk H
                              clear H
                              obtain ⟨hcz40_0, hcz40_1, hcz40_2, hfz40_0, hfz40_1, hfz40_2⟩ := cellsF3 BK179.out
                              try go_wp2_with (first | ((with_reducible refine gate_builtin (b := .append) (xs := #[.tmp 38, .tmp 40]) rfl ?_); at_builtin; refine Kd.R_append k37 (w0 := w) w.heap.size rfl (.tmp 38) (.tmp 40) 25 37 (.agg #[(.string ⟨#[]⟩), (.string ⟨#[]⟩), (.string ⟨#[]⟩)]) 48 rfl Try.underlying25 info37 rfl (by decide) (by omega) u6 x6_1 (⟨a1_0, a1_1, a1_2⟩ : S37) [.string a1_0, .string a1_1, .string a1_2] (fun k_ => some k_ ≠ (v187 : Value).ownBlock ∧ k_ ≠ gb179) (fun _ => False) rfl rfl ?aP (fun _ hk => hk.elim) ?aF ?aO ?aB ?aS ?aL ?_; (case aP => exact au8_11); (case aB => exact bl_); (case aF => exact au8_0); (case aO => exact (rk_ HO_6)); (case aS => exact (below_size bl_)); (case aL => have := LMc26.out; omega); intro v196 w41 ho hb hg hat; rw [← Ny195.out] at ho; have n0_ := Aside0.mk (Kd.R_after (ok := (fun k_ => k_ ≠ gb179)) au8_2 hg hat); have n1_ := Aside0.mk (blk_grown (g := gb179) (o := .cells #[.string a1_0, .string a1_1, .string a1_2] 37 (0, 0)) (bk_ BK179) hg (Kd.R_away HO_6.out (fun _ hk => hk.2))); have n2_ := Aside0.mk (hb); have n3_ := Aside0.mk (ho); clear HO_5; clear BK179; clear HB; clear HO_6; have HO_5 := n0_; have BK179 := n1_; have HB := n2_; have HO197 := n3_; clear n0_ n1_ n2_ n3_; clear ho hb hg hat))
                              have n0_ := Aside0.mk (Kd.R_drew HO_5.out)
                              have n1_ := Aside0.mk (Kd.R_drew HO197.out)
                              have n2_ := Aside0.mk (blk_drew BK179.out)
                              have n3_ := Aside0.mk (below_drew1 HB.out)
                              clear HO_5
                              clear HO197
                              clear BK179
                              clear HB
                              have HO_5 := n0_
                              have HO197 := n1_
                              have BK179 := n2_
                              have HB := n3_
                              clear n0_ n1_ n2_ n3_
                              have p198 : 0 ≤ (x8_1 : Int) := of_decide_eq_true as_
                              have q198 : x8_1 < (l0.length : Int) := of_decide_eq_true as_
                              obtain ⟨ad198, e198, hx198_0, hx198_1, hx198_2⟩ := at_T37 HR0.out x8_1 p198 q198
                              have hw198_2 := hx198_2
                              have hw198_1 := hx198_1
                              have hw198_0 := hx198_0
                              cases e198
                              replace hx198_0 := (HB.out.cell (World.block_lt_of_cell? _ _ hx198_0)).trans hx198_0
                              replace hx198_1 := (HB.out.cell (World.block_lt_of_cell? _ _ hx198_1)).trans hx198_1
                              replace hx198_2 := (HB.out.cell (World.block_lt_of_cell? _ _ hx198_2)).trans hx198_2
                              replace p198 := eq_true p198
                              replace q198 := eq_true q198
                              refine start_ (n := 18) (S := fun w' => w'.cell? ⟨gb179, 0, none⟩ = some (.string a1_0) ∧ w'.cell? ⟨gb179, 1, none⟩ = some (.string a1_1) ∧ w'.cell? ⟨gb179, 2, none⟩ = some (.string a1_2) ∧ w'.cell? (ad198.add ((x8_1).toNat * 3)) = some (.string ((rd_T37 l0 x8_1).f0)) ∧ w'.cell? ⟨(ad198.add ((x8_1).toNat * 3)).block, (ad198.add ((x8_1).toNat * 3)).off + 1, none⟩ = some (.string ((rd_T37 l0 x8_1).f1)) ∧ w'.cell? ⟨(ad198.add ((x8_1).toNat * 3)).block, (ad198.add ((x8_1).toNat * 3)).off + 2, none⟩ = some (.string ((rd_T37 l0 x8_1).f2))) (ds := []) (bs 18 0) (by kernel_rfl) rfl rfl ⟨(blk_cell BK179.out 0).trans rfl, (blk_cell BK179.out 1).trans rfl, (blk_cell BK179.out 2).trans rfl, ((HB.out.cell (World.block_lt_of_cell? _ _ hw198_0)).trans hw198_0), ((HB.out.cell (World.block_lt_of_cell? _ _ hw198_1)).trans hw198_1), ((HB.out.cell (World.block_lt_of_cell? _ _ hw198_2)).trans hw198_2)⟩ (fun hHeld => ?_); refine with_tabW spec_CrossPut.tab14 spec_CrossPut.bits14 (fun HT_ HW_ => ?_)
                              generalize w41.drew = w42 at HO_5 HO197 BK179 HB hx198_0 hx198_1 hx198_2 hHeld ⊢
                              refine pu_ 0 42 (bs 18 1) HT_ ?_ rfl rfl
                              refine pu_ 1 43 (bs 18 3) HT_ ?_ rfl rfl
                              refine pu_ 2 44 (bs 18 7) HT_ ?_ rfl rfl
                              refine pu_ 3 45 (bs 18 15) HT_ ?_ rfl rfl
                              refine pu_ 5 47 (bs 18 47) HT_ ?_ rfl rfl
                              refine tk_ 4 46 (bs 18 63) HT_ HW_ hHeld au8_6 ?_ rfl rfl
                              refine tk_ 6 48 (bs 18 127) HT_ HW_ hHeld au8_6 ?_ rfl rfl
                              refine pu_ 7 49 (bs 18 255) HT_ ?_ rfl rfl
                              refine pu_ 8 50 (bs 18 511) HT_ ?_ rfl rfl
                              refine pv_ 9 51 (bs 18 1023) HT_ ?_ rfl rfl
                              refine pv_ 10 52 (bs 18 2047) HT_ ?_ rfl rfl
                              refine pv_ 11 53 (bs 18 4095) HT_ ?_ rfl rfl
                              refine pv_ 12 54 (bs 18 8191) HT_ ?_ rfl rfl
                              refine pv_ 13 55 (bs 18 16383) HT_ ?_ rfl rfl
                              refine pv_ 14 56 (bs 18 32767) HT_ ?_ rfl rfl
                              refine pv_ 15 57 (bs 18 65535) HT_ ?_ rfl rfl
                              refine pv_ 16 58 (bs 18 131071) HT_ ?_ rfl rfl
                              refine pu_ 17 59 (bs 18 262143) HT_ ?_ rfl rfl
                              refine done_ (done_of HT_.out (by kernel_rfl)) ?_
                              have p204 : 0 ≤ (x8_1 : Int) := of_decide_eq_true as_
                              have q204 : x8_1 < (l0.length : Int) := of_decide_eq_true as_
                              obtain ⟨ad204, e204, hx204_0, hx204_1, hx204_2⟩ := at_T37 HR0.out x8_1 p204 q204
                              obtain rfl : ad198 = ad204 := (by injection e204)
                              replace hx204_0 := (HB.out.cell (World.block_lt_of_cell? _ _ hx204_0)).trans hx204_0
                              replace hx204_1 := (HB.out.cell (World.block_lt_of_cell? _ _ hx204_1)).trans hx204_1
                              replace hx204_2 := (HB.out.cell (World.block_lt_of_cell? _ _ hx204_2)).trans hx204_2
                              replace p204 := eq_true p204
                              replace q204 := eq_true q204
                              try go_wp2_with (first | ((with_reducible refine gate_builtin (b := .append) (xs := #[.tmp 60, .tmp 65]) rfl ?_); at_builtin; refine Kd.R_append k37 (w0 := w) w.heap.size rfl (.tmp 60) (.tmp 65) 25 37 (.agg #[(.string ⟨#[]⟩), (.string ⟨#[]⟩), (.string ⟨#[]⟩)]) 48 rfl Try.underlying25 info37 rfl (by decide) (by omega) v196 y195 (⟨(rd_T37 l0 x8_1).f0, (rd_T37 l0 x8_1).f1, (rd_T37 l0 x8_1).f2⟩ : S37) [.string ((rd_T37 l0 x8_1).f0), .string ((rd_T37 l0 x8_1).f1), .string ((rd_T37 l0 x8_1).f2)] (fun k_ => some k_ ≠ (v187 : Value).ownBlock ∧ k_ ≠ gb179) (fun _ => False) rfl rfl ?aP (fun _ hk => hk.elim) ?aF ?aO ?aB ?aS ?aL ?_; (case aP => exact au8_7); (case aB => exact bl_); (case aF => exact au8_0); (case aO => exact (rk_ HO197)); (case aS => exact (below_size bl_)); (case aL => have := LMc39.out; omega); intro v206 w43 ho hb hg hat; rw [← Ny205.out] at ho; have n0_ := Aside0.mk (Kd.R_after (ok := (fun k_ => k_ ≠ gb179)) (rk_ HO_5) hg hat); have n1_ := Aside0.mk (blk_grown (g := gb179) (o := .cells #[.string a1_0, .string a1_1, .string a1_2] 37 (0, 0)) (bk_ BK179) hg (Kd.R_away HO197.out (fun _ hk => hk.2))); have n2_ := Aside0.mk (hb); have n3_ := Aside0.mk (ho); clear HO_5; clear BK179; clear HB; clear HO197; have HO_5 := n0_; have BK179 := n1_; have HB := n2_; have HO207 := n3_; clear n0_ n1_ n2_ n3_; clear ho hb hg hat))
                              go_roundg kj17
                              case measure => have := HK1.out; have := HJ17.out; omega
                              case rel => exact ⟨(y205), (true), (wrap64 (x8_1 + 1)), er_, er_, H', ⟨au8_8⟩, ⟨au8_3⟩, ⟨rk_ HO207⟩, ⟨bk_ BK179⟩, ⟨bl_⟩⟩
                            · rw [if_neg c39] at H
                              exact absurd H (by simp)
                        · rw [if_neg c28] at H
                          exact absurd H (by simp)
                      · rw [if_neg c27] at H
                        exact absurd H (by simp)
                    · rw [if_neg c26] at H
                      exact absurd H (by simp)
                  · replace c25 := Bool.eq_false_iff.mpr c25
                    subst c25
                    have H1 : (if 0 ≤ x8_1 then (if x8_1 < (l0.length : Int) then (if ((rd_T37 l0 x8_1).f0).toList = a1_0.toList then (if ((rd_T37 l0 x8_1).f1).toList = a1_1.toList then (spec_CrossPut.l0 kj17 l0 y186 x6_1 x7_1 (wrap64 (x8_1 + 1)) a1_0 a1_1 a1_2) else (if x6_1.length < 2932031007402 then (spec_CrossPut.l0 kj17 l0 y186 (x6_1 ++ [(⟨(rd_T37 l0 x8_1).f0, (rd_T37 l0 x8_1).f1, (rd_T37 l0 x8_1).f2⟩ : S37)]) x7_1 (wrap64 (x8_1 + 1)) a1_0 a1_1 a1_2) else (none))) else (if x6_1.length < 2932031007402 then (spec_CrossPut.l0 kj17 l0 y186 (x6_1 ++ [(⟨(rd_T37 l0 x8_1).f0, (rd_T37 l0 x8_1).f1, (rd_T37 l0 x8_1).f2⟩ : S37)]) x7_1 (wrap64 (x8_1 + 1)) a1_0 a1_1 a1_2) else (none))) else (none)) else (none)) = some r := by rw [if_neg (show ¬ (false = true) by decide)] at H; exact H
                    clear H
                    have H := H1
                    clear H1
                    by_cases c44 : 0 ≤ x8_1
                    · rw [if_pos c44] at H
                      have c44b0 : decide (0 ≤ x8_1) = true := decide_eq_true c44
                      clear c44
                      by_cases c45 : x8_1 < (l0.length : Int)
                      · rw [if_pos c45] at H
                        have c45b0 : decide (x8_1 < (l0.length : Int)) = true := decide_eq_true c45
                        clear c45
                        by_cases c46 : ((rd_T37 l0 x8_1).f0).toList = a1_0.toList
                        · rw [if_pos c46] at H
                          have c46b0 : (((rd_T37 l0 x8_1).f0).toList == a1_0.toList) = true := beq_iff_eq.mpr c46
                          have c46b1 : (((rd_T37 l0 x8_1).f0).toList != a1_0.toList) = false := bne_eq_false_iff_eq.mpr c46
                          clear c46
                          by_cases c47 : ((rd_T37 l0 x8_1).f1).toList = a1_1.toList
                          · rw [if_pos c47] at H
                            have c47b0 : (((rd_T37 l0 x8_1).f1).toList == a1_1.toList) = true := beq_iff_eq.mpr c47
                            have c47b1 : (((rd_T37 l0 x8_1).f1).toList != a1_1.toList) = false := bne_eq_false_iff_eq.mpr c47
                            clear c47
                            have H' := Aside0.mk H
                            clear H
                            try go_wp2
                            have n0_ := Aside0.mk (Kd.R_drew HO_5.out)
                            have n1_ := Aside0.mk (Kd.R_drew HO_6.out)
                            have n2_ := Aside0.mk (blk_drew BK179.out)
                            have n3_ := Aside0.mk (below_drew1 HB.out)
                            clear HO_5
                            clear HO_6
                            clear BK179
                            clear HB
                            have HO_5 := n0_
                            have HO_6 := n1_
                            have BK179 := n2_
                            have HB := n3_
                            clear n0_ n1_ n2_ n3_
                            have p208 : 0 ≤ (x8_1 : Int) := of_decide_eq_true as_
                            have q208 : x8_1 < (l0.length : Int) := of_decide_eq_true as_
                            obtain ⟨ad208, e208, hx208_0, hx208_1, hx208_2⟩ := at_T37 HR0.out x8_1 p208 q208
                            have hw208_2 := hx208_2
                            have hw208_1 := hx208_1
                            have hw208_0 := hx208_0
                            cases e208
                            replace hx208_0 := (HB.out.cell (World.block_lt_of_cell? _ _ hx208_0)).trans hx208_0
                            replace hx208_1 := (HB.out.cell (World.block_lt_of_cell? _ _ hx208_1)).trans hx208_1
                            replace hx208_2 := (HB.out.cell (World.block_lt_of_cell? _ _ hx208_2)).trans hx208_2
                            replace p208 := eq_true p208
                            replace q208 := eq_true q208
                            have p209 : 0 ≤ (x8_1 : Int) := of_decide_eq_true as_
                            have q209 : x8_1 < (l0.length : Int) := of_decide_eq_true as_
                            obtain ⟨ad209, e209, hx209_0, hx209_1, hx209_2⟩ := at_T37 HR0.out x8_1 p209 q209
                            have hw209_2 := hx209_2
                            have hw209_1 := hx209_1
                            have hw209_0 := hx209_0
                            obtain rfl : ad208 = ad209 := (by injection e209)
                            replace hx209_0 := (HB.out.cell (World.block_lt_of_cell? _ _ hx209_0)).trans hx209_0
                            replace hx209_1 := (HB.out.cell (World.block_lt_of_cell? _ _ hx209_1)).trans hx209_1
                            replace hx209_2 := (HB.out.cell (World.block_lt_of_cell? _ _ hx209_2)).trans hx209_2
                            replace p209 := eq_true p209
                            replace q209 := eq_true q209
                            refine start_ (n := 18) (S := fun w' => w'.cell? ⟨gb179, 0, none⟩ = some (.string a1_0) ∧ w'.cell? ⟨gb179, 1, none⟩ = some (.string a1_1) ∧ w'.cell? ⟨gb179, 2, none⟩ = some (.string a1_2) ∧ w'.cell? (ad208.add ((x8_1).toNat * 3)) = some (.string ((rd_T37 l0 x8_1).f0)) ∧ w'.cell? ⟨(ad208.add ((x8_1).toNat * 3)).block, (ad208.add ((x8_1).toNat * 3)).off + 1, none⟩ = some (.string ((rd_T37 l0 x8_1).f1)) ∧ w'.cell? ⟨(ad208.add ((x8_1).toNat * 3)).block, (ad208.add ((x8_1).toNat * 3)).off + 2, none⟩ = some (.string ((rd_T37 l0 x8_1).f2)) ∧ w'.cell? (ad208.add ((x8_1).toNat * 3)) = some (.string ((rd_T37 l0 x8_1).f0)) ∧ w'.cell? ⟨(ad208.add ((x8_1).toNat * 3)).block, (ad208.add ((x8_1).toNat * 3)).off + 1, none⟩ = some (.string ((rd_T37 l0 x8_1).f1)) ∧ w'.cell? ⟨(ad208.add ((x8_1).toNat * 3)).block, (ad208.add ((x8_1).toNat * 3)).off + 2, none⟩ = some (.string ((rd_T37 l0 x8_1).f2))) (ds := []) (bs 18 0) (by kernel_rfl) rfl rfl ⟨(blk_cell BK179.out 0).trans rfl, (blk_cell BK179.out 1).trans rfl, (blk_cell BK179.out 2).trans rfl, ((HB.out.cell (World.block_lt_of_cell? _ _ hw208_0)).trans hw208_0), ((HB.out.cell (World.block_lt_of_cell? _ _ hw208_1)).trans hw208_1), ((HB.out.cell (World.block_lt_of_cell? _ _ hw208_2)).trans hw208_2), ((HB.out.cell (World.block_lt_of_cell? _ _ hw209_0)).trans hw209_0), ((HB.out.cell (World.block_lt_of_cell? _ _ hw209_1)).trans hw209_1), ((HB.out.cell (World.block_lt_of_cell? _ _ hw209_2)).trans hw209_2)⟩ (fun hHeld => ?_); refine with_tabW spec_CrossPut.tab14 spec_CrossPut.bits14 (fun HT_ HW_ => ?_)
                            generalize wc.drew = w48 at HO_5 HO_6 BK179 HB hx208_0 hx208_1 hx208_2 hx209_0 hx209_1 hx209_2 hHeld ⊢
                            refine pu_ 0 42 (bs 18 1) HT_ ?_ rfl rfl
                            refine pu_ 1 43 (bs 18 3) HT_ ?_ rfl rfl
                            refine pu_ 2 44 (bs 18 7) HT_ ?_ rfl rfl
                            refine pu_ 3 45 (bs 18 15) HT_ ?_ rfl rfl
                            refine pu_ 5 47 (bs 18 47) HT_ ?_ rfl rfl
                            refine tk_ 4 46 (bs 18 63) HT_ HW_ hHeld au8_1 ?_ rfl rfl
                            refine tk_ 6 48 (bs 18 127) HT_ HW_ hHeld au8_1 ?_ rfl rfl
                            refine pu_ 7 49 (bs 18 255) HT_ ?_ rfl rfl
                            refine pu_ 8 50 (bs 18 511) HT_ ?_ rfl rfl
                            refine pu_ 9 51 (bs 18 1023) HT_ ?_ rfl rfl
                            refine pu_ 10 52 (bs 18 2047) HT_ ?_ rfl rfl
                            refine pu_ 11 53 (bs 18 4095) HT_ ?_ rfl rfl
                            refine pu_ 12 54 (bs 18 8191) HT_ ?_ rfl rfl
                            refine pu_ 14 56 (bs 18 24575) HT_ ?_ rfl rfl
                            refine tk_ 13 55 (bs 18 32767) HT_ HW_ hHeld au8_1 ?_ rfl rfl
                            refine tk_ 15 57 (bs 18 65535) HT_ HW_ hHeld au8_1 ?_ rfl rfl
                            refine pu_ 16 58 (bs 18 131071) HT_ ?_ rfl rfl
                            refine pu_ 17 59 (bs 18 262143) HT_ ?_ rfl rfl
                            refine done_ (done_of HT_.out (by kernel_rfl)) ?_
                            try go_wp2
                            go_roundg kj17
                            case measure => have := HK1.out; have := HJ17.out; omega
                            case rel => exact ⟨(x6_1), (x7_1), (wrap64 (x8_1 + 1)), er_, er_, H', ⟨au8_8⟩, ⟨rk_ HO_5⟩, ⟨rk_ HO_6⟩, ⟨bk_ BK179⟩, ⟨bl_⟩⟩
                          · rw [if_neg c47] at H
                            have c47b0 : (((rd_T37 l0 x8_1).f1).toList == a1_1.toList) = false := beq_eq_false_iff_ne.mpr c47
                            have c47b1 : (((rd_T37 l0 x8_1).f1).toList != a1_1.toList) = true := bne_iff_ne.mpr c47
                            by_cases c49 : x6_1.length < 2932031007402
                            · rw [if_pos c49] at H
                              have LMc49 := Aside0.mk c49
                              clear c49
                              obtain ⟨y211, hy211⟩ : ∃ y_ : List (S37), y_ = (x6_1 ++ [(⟨(rd_T37 l0 x8_1).f0, (rd_T37 l0 x8_1).f1, (rd_T37 l0 x8_1).f2⟩ : S37)]) := ⟨_, rfl⟩
                              replace H : (spec_CrossPut.l0 kj17 l0 y186 y211 x7_1 (wrap64 (x8_1 + 1)) a1_0 a1_1 a1_2) = some r := by first | (rw [hy211]; with_reducible exact H) | (have H2_ := (Option.bind_some _ _).symm.trans H; rw [hy211]; with_reducible exact H2_) | (have H2_ := (Option.bind_some _ _).symm.trans H; with_reducible exact H2_) | with_reducible exact H | (rw [hy211]; exact H) | exact H
                              have Ny211 := Aside0.mk hy211
                              clear hy211
                              have H' := Aside0.mk H
                              clear H
                              try go_wp2
                              have n0_ := Aside0.mk (Kd.R_drew HO_5.out)
                              have n1_ := Aside0.mk (Kd.R_drew HO_6.out)
                              have n2_ := Aside0.mk (blk_drew BK179.out)
                              have n3_ := Aside0.mk (below_drew1 HB.out)
                              clear HO_5
                              clear HO_6
                              clear BK179
                              clear HB
                              have HO_5 := n0_
                              have HO_6 := n1_
                              have BK179 := n2_
                              have HB := n3_
                              clear n0_ n1_ n2_ n3_
                              have p208 : 0 ≤ (x8_1 : Int) := of_decide_eq_true as_
                              have q208 : x8_1 < (l0.length : Int) := of_decide_eq_true as_
                              obtain ⟨ad208, e208, hx208_0, hx208_1, hx208_2⟩ := at_T37 HR0.out x8_1 p208 q208
                              have hw208_2 := hx208_2
                              have hw208_1 := hx208_1
                              have hw208_0 := hx208_0
                              cases e208
                              replace hx208_0 := (HB.out.cell (World.block_lt_of_cell? _ _ hx208_0)).trans hx208_0
                              replace hx208_1 := (HB.out.cell (World.block_lt_of_cell? _ _ hx208_1)).trans hx208_1
                              replace hx208_2 := (HB.out.cell (World.block_lt_of_cell? _ _ hx208_2)).trans hx208_2
                              replace p208 := eq_true p208
                              replace q208 := eq_true q208
                              have p209 : 0 ≤ (x8_1 : Int) := of_decide_eq_true as_
                              have q209 : x8_1 < (l0.length : Int) := of_decide_eq_true as_
                              obtain ⟨ad209, e209, hx209_0, hx209_1, hx209_2⟩ := at_T37 HR0.out x8_1 p209 q209
                              have hw209_2 := hx209_2
                              have hw209_1 := hx209_1
                              have hw209_0 := hx209_0
                              obtain rfl : ad208 = ad209 := (by injection e209)
                              replace hx209_0 := (HB.out.cell (World.block_lt_of_cell? _ _ hx209_0)).trans hx209_0
                              replace hx209_1 := (HB.out.cell (World.block_lt_of_cell? _ _ hx209_1)).trans hx209_1
                              replace hx209_2 := (HB.out.cell (World.block_lt_of_cell? _ _ hx209_2)).trans hx209_2
                              replace p209 := eq_true p209
                              replace q209 := eq_true q209
                              refine start_ (n := 18) (S := fun w' => w'.cell? ⟨gb179, 0, none⟩ = some (.string a1_0) ∧ w'.cell? ⟨gb179, 1, none⟩ = some (.string a1_1) ∧ w'.cell? ⟨gb179, 2, none⟩ = some (.string a1_2) ∧ w'.cell? (ad208.add ((x8_1).toNat * 3)) = some (.string ((rd_T37 l0 x8_1).f0)) ∧ w'.cell? ⟨(ad208.add ((x8_1).toNat * 3)).block, (ad208.add ((x8_1).toNat * 3)).off + 1, none⟩ = some (.string ((rd_T37 l0 x8_1).f1)) ∧ w'.cell? ⟨(ad208.add ((x8_1).toNat * 3)).block, (ad208.add ((x8_1).toNat * 3)).off + 2, none⟩ = some (.string ((rd_T37 l0 x8_1).f2)) ∧ w'.cell? (ad208.add ((x8_1).toNat * 3)) = some (.string ((rd_T37 l0 x8_1).f0)) ∧ w'.cell? ⟨(ad208.add ((x8_1).toNat * 3)).block, (ad208.add ((x8_1).toNat * 3)).off + 1, none⟩ = some (.string ((rd_T37 l0 x8_1).f1)) ∧ w'.cell? ⟨(ad208.add ((x8_1).toNat * 3)).block, (ad208.add ((x8_1).toNat * 3)).off + 2, none⟩ = some (.string ((rd_T37 l0 x8_1).f2))) (ds := []) (bs 18 0) (by kernel_rfl) rfl rfl ⟨(blk_cell BK179.out 0).trans rfl, (blk_cell BK179.out 1).trans rfl, (blk_cell BK179.out 2).trans rfl, ((HB.out.cell (World.block_lt_of_cell? _ _ hw208_0)).trans hw208_0), ((HB.out.cell (World.block_lt_of_cell? _ _ hw208_1)).trans hw208_1), ((HB.out.cell (World.block_lt_of_cell? _ _ hw208_2)).trans hw208_2), ((HB.out.cell (World.block_lt_of_cell? _ _ hw209_0)).trans hw209_0), ((HB.out.cell (World.block_lt_of_cell? _ _ hw209_1)).trans hw209_1), ((HB.out.cell (World.block_lt_of_cell? _ _ hw209_2)).trans hw209_2)⟩ (fun hHeld => ?_); refine with_tabW spec_CrossPut.tab14 spec_CrossPut.bits14 (fun HT_ HW_ => ?_)
                              generalize wc.drew = w50 at HO_5 HO_6 BK179 HB hx208_0 hx208_1 hx208_2 hx209_0 hx209_1 hx209_2 hHeld ⊢
                              refine pu_ 0 42 (bs 18 1) HT_ ?_ rfl rfl
                              refine pu_ 1 43 (bs 18 3) HT_ ?_ rfl rfl
                              refine pu_ 2 44 (bs 18 7) HT_ ?_ rfl rfl
                              refine pu_ 3 45 (bs 18 15) HT_ ?_ rfl rfl
                              refine pu_ 5 47 (bs 18 47) HT_ ?_ rfl rfl
                              refine tk_ 4 46 (bs 18 63) HT_ HW_ hHeld au8_1 ?_ rfl rfl
                              refine tk_ 6 48 (bs 18 127) HT_ HW_ hHeld au8_1 ?_ rfl rfl
                              refine pu_ 7 49 (bs 18 255) HT_ ?_ rfl rfl
                              refine pu_ 8 50 (bs 18 511) HT_ ?_ rfl rfl
                              refine pu_ 9 51 (bs 18 1023) HT_ ?_ rfl rfl
                              refine pu_ 10 52 (bs 18 2047) HT_ ?_ rfl rfl
                              refine pu_ 11 53 (bs 18 4095) HT_ ?_ rfl rfl
                              refine pu_ 12 54 (bs 18 8191) HT_ ?_ rfl rfl
                              refine pu_ 14 56 (bs 18 24575) HT_ ?_ rfl rfl
                              refine tk_ 13 55 (bs 18 32767) HT_ HW_ hHeld au8_1 ?_ rfl rfl
                              refine tk_ 15 57 (bs 18 65535) HT_ HW_ hHeld au8_1 ?_ rfl rfl
                              refine pu_ 16 58 (bs 18 131071) HT_ ?_ rfl rfl
                              refine pu_ 17 59 (bs 18 262143) HT_ ?_ rfl rfl
                              refine done_ (done_of HT_.out (by kernel_rfl)) ?_
                              have p210 : 0 ≤ (x8_1 : Int) := of_decide_eq_true as_
                              have q210 : x8_1 < (l0.length : Int) := of_decide_eq_true as_
                              obtain ⟨ad210, e210, hx210_0, hx210_1, hx210_2⟩ := at_T37 HR0.out x8_1 p210 q210
                              obtain rfl : ad208 = ad210 := (by injection e210)
                              replace hx210_0 := (HB.out.cell (World.block_lt_of_cell? _ _ hx210_0)).trans hx210_0
                              replace hx210_1 := (HB.out.cell (World.block_lt_of_cell? _ _ hx210_1)).trans hx210_1
                              replace hx210_2 := (HB.out.cell (World.block_lt_of_cell? _ _ hx210_2)).trans hx210_2
                              replace p210 := eq_true p210
                              replace q210 := eq_true q210
                              try go_wp2_with (first | ((with_reducible refine gate_builtin (b := .append) (xs := #[.tmp 60, .tmp 65]) rfl ?_); at_builtin; refine Kd.R_append k37 (w0 := w) w.heap.size rfl (.tmp 60) (.tmp 65) 25 37 (.agg #[(.string ⟨#[]⟩), (.string ⟨#[]⟩), (.string ⟨#[]⟩)]) 48 rfl Try.underlying25 info37 rfl (by decide) (by omega) u6 x6_1 (⟨(rd_T37 l0 x8_1).f0, (rd_T37 l0 x8_1).f1, (rd_T37 l0 x8_1).f2⟩ : S37) [.string ((rd_T37 l0 x8_1).f0), .string ((rd_T37 l0 x8_1).f1), .string ((rd_T37 l0 x8_1).f2)] (fun k_ => some k_ ≠ (v187 : Value).ownBlock ∧ k_ ≠ gb179) (fun _ => False) rfl rfl ?aP (fun _ hk => hk.elim) ?aF ?aO ?aB ?aS ?aL ?_; (case aP => exact au8_7); (case aB => exact bl_); (case aF => exact au8_0); (case aO => exact (rk_ HO_6)); (case aS => exact (below_size bl_)); (case aL => have := LMc49.out; omega); intro v212 w51 ho hb hg hat; rw [← Ny211.out] at ho; have n0_ := Aside0.mk (Kd.R_after (ok := (fun k_ => k_ ≠ gb179)) au8_2 hg hat); have n1_ := Aside0.mk (blk_grown (g := gb179) (o := .cells #[.string a1_0, .string a1_1, .string a1_2] 37 (0, 0)) (bk_ BK179) hg (Kd.R_away HO_6.out (fun _ hk => hk.2))); have n2_ := Aside0.mk (hb); have n3_ := Aside0.mk (ho); clear HO_5; clear BK179; clear HB; clear HO_6; have HO_5 := n0_; have BK179 := n1_; have HB := n2_; have HO213 := n3_; clear n0_ n1_ n2_ n3_; clear ho hb hg hat))
                              go_roundg kj17
                              case measure => have := HK1.out; have := HJ17.out; omega
                              case rel => exact ⟨(y211), (x7_1), (wrap64 (x8_1 + 1)), er_, er_, H', ⟨au8_8⟩, ⟨au8_3⟩, ⟨rk_ HO213⟩, ⟨bk_ BK179⟩, ⟨bl_⟩⟩
                            · rw [if_neg c49] at H
                              exact absurd H (by simp)
                        · rw [if_neg c46] at H
                          have c46b0 : (((rd_T37 l0 x8_1).f0).toList == a1_0.toList) = false := beq_eq_false_iff_ne.mpr c46
                          have c46b1 : (((rd_T37 l0 x8_1).f0).toList != a1_0.toList) = true := bne_iff_ne.mpr c46
                          by_cases c52 : x6_1.length < 2932031007402
                          · rw [if_pos c52] at H
                            have LMc52 := Aside0.mk c52
                            clear c52
                            obtain ⟨y215, hy215⟩ : ∃ y_ : List (S37), y_ = (x6_1 ++ [(⟨(rd_T37 l0 x8_1).f0, (rd_T37 l0 x8_1).f1, (rd_T37 l0 x8_1).f2⟩ : S37)]) := ⟨_, rfl⟩
                            replace H : (spec_CrossPut.l0 kj17 l0 y186 y215 x7_1 (wrap64 (x8_1 + 1)) a1_0 a1_1 a1_2) = some r := by first | (rw [hy215]; with_reducible exact H) | (have H2_ := (Option.bind_some _ _).symm.trans H; rw [hy215]; with_reducible exact H2_) | (have H2_ := (Option.bind_some _ _).symm.trans H; with_reducible exact H2_) | with_reducible exact H | (rw [hy215]; exact H) | exact H
                            have Ny215 := Aside0.mk hy215
                            clear hy215
                            have H' := Aside0.mk H
                            clear H
                            try go_wp2
                            have n0_ := Aside0.mk (Kd.R_drew HO_5.out)
                            have n1_ := Aside0.mk (Kd.R_drew HO_6.out)
                            have n2_ := Aside0.mk (blk_drew BK179.out)
                            have n3_ := Aside0.mk (below_drew1 HB.out)
                            clear HO_5
                            clear HO_6
                            clear BK179
                            clear HB
                            have HO_5 := n0_
                            have HO_6 := n1_
                            have BK179 := n2_
                            have HB := n3_
                            clear n0_ n1_ n2_ n3_
                            have p208 : 0 ≤ (x8_1 : Int) := of_decide_eq_true as_
                            have q208 : x8_1 < (l0.length : Int) := of_decide_eq_true as_
                            obtain ⟨ad208, e208, hx208_0, hx208_1, hx208_2⟩ := at_T37 HR0.out x8_1 p208 q208
                            have hw208_2 := hx208_2
                            have hw208_1 := hx208_1
                            have hw208_0 := hx208_0
                            cases e208
                            replace hx208_0 := (HB.out.cell (World.block_lt_of_cell? _ _ hx208_0)).trans hx208_0
                            replace hx208_1 := (HB.out.cell (World.block_lt_of_cell? _ _ hx208_1)).trans hx208_1
                            replace hx208_2 := (HB.out.cell (World.block_lt_of_cell? _ _ hx208_2)).trans hx208_2
                            replace p208 := eq_true p208
                            replace q208 := eq_true q208
                            refine start_ (n := 18) (S := fun w' => w'.cell? ⟨gb179, 0, none⟩ = some (.string a1_0) ∧ w'.cell? ⟨gb179, 1, none⟩ = some (.string a1_1) ∧ w'.cell? ⟨gb179, 2, none⟩ = some (.string a1_2) ∧ w'.cell? (ad208.add ((x8_1).toNat * 3)) = some (.string ((rd_T37 l0 x8_1).f0)) ∧ w'.cell? ⟨(ad208.add ((x8_1).toNat * 3)).block, (ad208.add ((x8_1).toNat * 3)).off + 1, none⟩ = some (.string ((rd_T37 l0 x8_1).f1)) ∧ w'.cell? ⟨(ad208.add ((x8_1).toNat * 3)).block, (ad208.add ((x8_1).toNat * 3)).off + 2, none⟩ = some (.string ((rd_T37 l0 x8_1).f2))) (ds := []) (bs 18 0) (by kernel_rfl) rfl rfl ⟨(blk_cell BK179.out 0).trans rfl, (blk_cell BK179.out 1).trans rfl, (blk_cell BK179.out 2).trans rfl, ((HB.out.cell (World.block_lt_of_cell? _ _ hw208_0)).trans hw208_0), ((HB.out.cell (World.block_lt_of_cell? _ _ hw208_1)).trans hw208_1), ((HB.out.cell (World.block_lt_of_cell? _ _ hw208_2)).trans hw208_2)⟩ (fun hHeld => ?_); refine with_tabW spec_CrossPut.tab14 spec_CrossPut.bits14 (fun HT_ HW_ => ?_)
                            generalize wc.drew = w53 at HO_5 HO_6 BK179 HB hx208_0 hx208_1 hx208_2 hHeld ⊢
                            refine pu_ 0 42 (bs 18 1) HT_ ?_ rfl rfl
                            refine pu_ 1 43 (bs 18 3) HT_ ?_ rfl rfl
                            refine pu_ 2 44 (bs 18 7) HT_ ?_ rfl rfl
                            refine pu_ 3 45 (bs 18 15) HT_ ?_ rfl rfl
                            refine pu_ 5 47 (bs 18 47) HT_ ?_ rfl rfl
                            refine tk_ 4 46 (bs 18 63) HT_ HW_ hHeld au8_6 ?_ rfl rfl
                            refine tk_ 6 48 (bs 18 127) HT_ HW_ hHeld au8_6 ?_ rfl rfl
                            refine pu_ 7 49 (bs 18 255) HT_ ?_ rfl rfl
                            refine pu_ 8 50 (bs 18 511) HT_ ?_ rfl rfl
                            refine pv_ 9 51 (bs 18 1023) HT_ ?_ rfl rfl
                            refine pv_ 10 52 (bs 18 2047) HT_ ?_ rfl rfl
                            refine pv_ 11 53 (bs 18 4095) HT_ ?_ rfl rfl
                            refine pv_ 12 54 (bs 18 8191) HT_ ?_ rfl rfl
                            refine pv_ 13 55 (bs 18 16383) HT_ ?_ rfl rfl
                            refine pv_ 14 56 (bs 18 32767) HT_ ?_ rfl rfl
                            refine pv_ 15 57 (bs 18 65535) HT_ ?_ rfl rfl
                            refine pv_ 16 58 (bs 18 131071) HT_ ?_ rfl rfl
                            refine pu_ 17 59 (bs 18 262143) HT_ ?_ rfl rfl
                            refine done_ (done_of HT_.out (by kernel_rfl)) ?_
                            have p214 : 0 ≤ (x8_1 : Int) := of_decide_eq_true as_
                            have q214 : x8_1 < (l0.length : Int) := of_decide_eq_true as_
                            obtain ⟨ad214, e214, hx214_0, hx214_1, hx214_2⟩ := at_T37 HR0.out x8_1 p214 q214
                            obtain rfl : ad208 = ad214 := (by injection e214)
                            replace hx214_0 := (HB.out.cell (World.block_lt_of_cell? _ _ hx214_0)).trans hx214_0
                            replace hx214_1 := (HB.out.cell (World.block_lt_of_cell? _ _ hx214_1)).trans hx214_1
                            replace hx214_2 := (HB.out.cell (World.block_lt_of_cell? _ _ hx214_2)).trans hx214_2
                            replace p214 := eq_true p214
                            replace q214 := eq_true q214
                            try go_wp2_with (first | ((with_reducible refine gate_builtin (b := .append) (xs := #[.tmp 60, .tmp 65]) rfl ?_); at_builtin; refine Kd.R_append k37 (w0 := w) w.heap.size rfl (.tmp 60) (.tmp 65) 25 37 (.agg #[(.string ⟨#[]⟩), (.string ⟨#[]⟩), (.string ⟨#[]⟩)]) 48 rfl Try.underlying25 info37 rfl (by decide) (by omega) u6 x6_1 (⟨(rd_T37 l0 x8_1).f0, (rd_T37 l0 x8_1).f1, (rd_T37 l0 x8_1).f2⟩ : S37) [.string ((rd_T37 l0 x8_1).f0), .string ((rd_T37 l0 x8_1).f1), .string ((rd_T37 l0 x8_1).f2)] (fun k_ => some k_ ≠ (v187 : Value).ownBlock ∧ k_ ≠ gb179) (fun _ => False) rfl rfl ?aP (fun _ hk => hk.elim) ?aF ?aO ?aB ?aS ?aL ?_; (case aP => exact au8_7); (case aB => exact bl_); (case aF => exact au8_0); (case aO => exact (rk_ HO_6)); (case aS => exact (below_size bl_)); (case aL => have := LMc52.out; omega); intro v216 w54 ho hb hg hat; rw [← Ny215.out] at ho; have n0_ := Aside0.mk (Kd.R_after (ok := (fun k_ => k_ ≠ gb179)) au8_2 hg hat); have n1_ := Aside0.mk (blk_grown (g := gb179) (o := .cells #[.string a1_0, .string a1_1, .string a1_2] 37 (0, 0)) (bk_ BK179) hg (Kd.R_away HO_6.out (fun _ hk => hk.2))); have n2_ := Aside0.mk (hb); have n3_ := Aside0.mk (ho); clear HO_5; clear BK179; clear HB; clear HO_6; have HO_5 := n0_; have BK179 := n1_; have HB := n2_; have HO217 := n3_; clear n0_ n1_ n2_ n3_; clear ho hb hg hat))
                            go_roundg kj17
                            case measure => have := HK1.out; have := HJ17.out; omega
                            case rel => exact ⟨(y215), (x7_1), (wrap64 (x8_1 + 1)), er_, er_, H', ⟨au8_8⟩, ⟨au8_3⟩, ⟨rk_ HO217⟩, ⟨bk_ BK179⟩, ⟨bl_⟩⟩
                          · rw [if_neg c52] at H
                            exact absurd H (by simp)
                      · rw [if_neg c45] at H
                        exact absurd H (by simp)
                    · rw [if_neg c44] at H
                      exact absurd H (by simp)
            · rw [if_neg c17] at H
              have c17b0 : decide (x8_1 < (l0.length : Int)) = false := decide_eq_false c17
              clear c17
              by_cases c55 : x7_1 = true
              · subst c55
                have H1 : ((spec_CrossRight.f k1 x6_1).bind fun t218 => (if t218 = true then (some x6_1) else (some y186))) = some r := by rw [if_pos rfl] at H; exact H
                clear H
                have H := H1
                clear H1
                replace H := Option.bind_eq_some_iff.mp H
                obtain ⟨t218, A560, H⟩ := H
                replace H : (if t218 = true then (some x6_1) else (some y186)) = some r := H
                have A56 := Aside0.mk A560
                clear A560
                by_cases c57 : t218 = true
                · subst c57
                  have H1 : (some x6_1) = some r := by rw [if_pos rfl] at H; exact H
                  clear H
                  have H := H1
                  clear H1
                  obtain rfl := Option.some.inj H
                  obtain ⟨Ao58, co58, eo58⟩ := Kd.R_slice HO_6.out
                  subst eo58
                  go_wp2_with (first | (go_at_call 15; (with_reducible refine (spec_CrossRight.calls k1 _ _ x6_1 true _ ?side1 ?side2 A56.out).mono ?_); (case side1 => exact au8_10); (case side2 => exact (Kd.R_reads' HO_6.out).2.1); rintro e w59 ⟨rfl, hb⟩; (try clear A56); have n0_ := Aside0.mk (Kd.R_below (rk_ HO_5) hb); have n1_ := Aside0.mk (Kd.R_below (rk_ HO_6) hb); have n2_ := Aside0.mk (blkb_ BK179 hb); have n3_ := Aside0.mk (below_step bl_ hb); clear HO_5; clear HO_6; clear BK179; clear HB; have HO_5 := n0_; have HO_6 := n1_; have BK179 := n2_; have HB := n3_; clear n0_ n1_ n2_ n3_; (try clear hb); (try clear hb2); (try clear hk); (try clear hi)))
                  go_ret
                  exact ⟨_, au8_5, by (with_reducible repeat (first | apply Kd.R_alloc | apply Kd.R_drewN | apply Kd.R_drew)); exact Kd.R_mono HO_6.out (fun _ hk => trivial), bl_⟩
                · replace c57 := Bool.eq_false_iff.mpr c57
                  subst c57
                  have H1 : (some y186) = some r := by rw [if_neg (show ¬ (false = true) by decide)] at H; exact H
                  clear H
                  have H := H1
                  clear H1
                  obtain rfl := Option.some.inj H
                  obtain ⟨Ao60, co60, eo60⟩ := Kd.R_slice HO_6.out
                  subst eo60
                  go_wp2_with (first | (go_at_call 15; (with_reducible refine (spec_CrossRight.calls k1 _ _ x6_1 false _ ?side1 ?side2 A56.out).mono ?_); (case side1 => exact au8_10); (case side2 => exact (Kd.R_reads' HO_6.out).2.1); rintro e w61 ⟨rfl, hb⟩; (try clear A56); have n0_ := Aside0.mk (Kd.R_below (rk_ HO_5) hb); have n1_ := Aside0.mk (Kd.R_below (rk_ HO_6) hb); have n2_ := Aside0.mk (blkb_ BK179 hb); have n3_ := Aside0.mk (below_step bl_ hb); clear HO_5; clear HO_6; clear BK179; clear HB; have HO_5 := n0_; have HO_6 := n1_; have BK179 := n2_; have HB := n3_; clear n0_ n1_ n2_ n3_; (try clear hb); (try clear hb2); (try clear hk); (try clear hi)))
                  go_ret
                  exact ⟨_, au8_5, au8_13, bl_⟩
              · replace c55 := Bool.eq_false_iff.mpr c55
                subst c55
                have H1 : (if x6_1.length < 2932031007402 then ((some (x6_1 ++ [(⟨a1_0, a1_1, a1_2⟩ : S37)] : List (S37))).bind fun y219 => ((spec_CrossRight.f k1 y219).bind fun t222 => (if t222 = true then (some y219) else (some y186)))) else (none)) = some r := by rw [if_neg (show ¬ (false = true) by decide)] at H; exact H
                clear H
                have H := H1
                clear H1
                by_cases c62 : x6_1.length < 2932031007402
                · rw [if_pos c62] at H
                  have LMc62 := Aside0.mk c62
                  clear c62
                  obtain ⟨y219, hy219⟩ : ∃ y_ : List (S37), y_ = (x6_1 ++ [(⟨a1_0, a1_1, a1_2⟩ : S37)]) := ⟨_, rfl⟩
                  replace H : ((spec_CrossRight.f k1 y219).bind fun t222 => (if t222 = true then (some y219) else (some y186))) = some r := by first | (rw [hy219]; with_reducible exact H) | (have H2_ := (Option.bind_some _ _).symm.trans H; rw [hy219]; with_reducible exact H2_) | (have H2_ := (Option.bind_some _ _).symm.trans H; with_reducible exact H2_) | with_reducible exact H | (rw [hy219]; exact H) | exact H
                  have Ny219 := Aside0.mk hy219
                  clear hy219
                  replace H := Option.bind_eq_some_iff.mp H
                  obtain ⟨t222, A630, H⟩ := H
                  replace H : (if t222 = true then (some y219) else (some y186)) = some r := H
                  have A63 := Aside0.mk A630
                  clear A630
                  by_cases c64 : t222 = true
                  · subst c64
                    have H1 : (some y219) = some r := by rw [if_pos rfl] at H; exact H
                    clear H
                    have H := H1
                    clear H1
                    obtain rfl := Option.some.inj H
                    obtain ⟨hcz65_0, hcz65_1, hcz65_2, hfz65_0, hfz65_1, hfz65_2⟩ := cellsF3 BK179.out
                    go_wp2_with (first | ((with_reducible refine gate_builtin (b := .append) (xs := #[.tmp 69, .tmp 71]) rfl ?_); at_builtin; refine Kd.R_append k37 (w0 := w) w.heap.size rfl (.tmp 69) (.tmp 71) 25 37 (.agg #[(.string ⟨#[]⟩), (.string ⟨#[]⟩), (.string ⟨#[]⟩)]) 48 rfl Try.underlying25 info37 rfl (by decide) (by omega) u6 x6_1 (⟨a1_0, a1_1, a1_2⟩ : S37) [.string a1_0, .string a1_1, .string a1_2] (fun k_ => some k_ ≠ (v187 : Value).ownBlock ∧ k_ ≠ gb179) (fun _ => False) rfl rfl ?aP (fun _ hk => hk.elim) ?aF ?aO ?aB ?aS ?aL ?_; (case aP => exact au8_11); (case aB => exact bl_); (case aF => exact au8_0); (case aO => exact (rk_ HO_6)); (case aS => exact (below_size bl_)); (case aL => have := LMc62.out; omega); intro v220 w66 ho hb hg hat; rw [← Ny219.out] at ho; have n0_ := Aside0.mk (Kd.R_after (ok := (fun k_ => k_ ≠ gb179)) au8_2 hg hat); have n1_ := Aside0.mk (blk_grown (g := gb179) (o := .cells #[.string a1_0, .string a1_1, .string a1_2] 37 (0, 0)) (bk_ BK179) hg (Kd.R_away HO_6.out (fun _ hk => hk.2))); have n2_ := Aside0.mk (hb); have n3_ := Aside0.mk (ho); clear HO_5; clear BK179; clear HB; clear HO_6; have HO_5 := n0_; have BK179 := n1_; have HB := n2_; have HO221 := n3_; clear n0_ n1_ n2_ n3_; clear ho hb hg hat; obtain ⟨Ao67, co67, eo67⟩ := Kd.R_slice HO221.out; subst eo67) | (go_at_call 15; (with_reducible refine (spec_CrossRight.calls k1 _ _ y219 true _ ?side1 ?side2 A63.out).mono ?_); (case side1 => exact au8_9); (case side2 => exact (Kd.R_reads' HO221.out).2.1); rintro e w68 ⟨rfl, hb⟩; (try clear A63); have n0_ := Aside0.mk (Kd.R_below (rk_ HO_5) hb); have n1_ := Aside0.mk (Kd.R_below (rk_ HO221) hb); have n2_ := Aside0.mk (blkb_ BK179 hb); have n3_ := Aside0.mk (below_step bl_ hb); clear HO_5; clear HO221; clear BK179; clear HB; have HO_5 := n0_; have HO221 := n1_; have BK179 := n2_; have HB := n3_; clear n0_ n1_ n2_ n3_; (try clear hb); (try clear hb2); (try clear hk); (try clear hi)))
                    go_ret
                    exact ⟨_, au8_5, by (with_reducible repeat (first | apply Kd.R_alloc | apply Kd.R_drewN | apply Kd.R_drew)); exact Kd.R_mono HO221.out (fun _ hk => trivial), bl_⟩
                  · replace c64 := Bool.eq_false_iff.mpr c64
                    subst c64
                    have H1 : (some y186) = some r := by rw [if_neg (show ¬ (false = true) by decide)] at H; exact H
                    clear H
                    have H := H1
                    clear H1
                    obtain rfl := Option.some.inj H
                    obtain ⟨hcz69_0, hcz69_1, hcz69_2, hfz69_0, hfz69_1, hfz69_2⟩ := cellsF3 BK179.out
                    go_wp2_with (first | ((with_reducible refine gate_builtin (b := .append) (xs := #[.tmp 69, .tmp 71]) rfl ?_); at_builtin; refine Kd.R_append k37 (w0 := w) w.heap.size rfl (.tmp 69) (.tmp 71) 25 37 (.agg #[(.string ⟨#[]⟩), (.string ⟨#[]⟩), (.string ⟨#[]⟩)]) 48 rfl Try.underlying25 info37 rfl (by decide) (by omega) u6 x6_1 (⟨a1_0, a1_1, a1_2⟩ : S37) [.string a1_0, .string a1_1, .string a1_2] (fun k_ => some k_ ≠ (v187 : Value).ownBlock ∧ k_ ≠ gb179) (fun _ => False) rfl rfl ?aP (fun _ hk => hk.elim) ?aF ?aO ?aB ?aS ?aL ?_; (case aP => exact au8_11); (case aB => exact bl_); (case aF => exact au8_0); (case aO => exact (rk_ HO_6)); (case aS => exact (below_size bl_)); (case aL => have := LMc62.out; omega); intro v220 w70 ho hb hg hat; rw [← Ny219.out] at ho; have n0_ := Aside0.mk (Kd.R_after (ok := (fun k_ => k_ ≠ gb179)) au8_2 hg hat); have n1_ := Aside0.mk (blk_grown (g := gb179) (o := .cells #[.string a1_0, .string a1_1, .string a1_2] 37 (0, 0)) (bk_ BK179) hg (Kd.R_away HO_6.out (fun _ hk => hk.2))); have n2_ := Aside0.mk (hb); have n3_ := Aside0.mk (ho); clear HO_5; clear BK179; clear HB; clear HO_6; have HO_5 := n0_; have BK179 := n1_; have HB := n2_; have HO221 := n3_; clear n0_ n1_ n2_ n3_; clear ho hb hg hat; obtain ⟨Ao71, co71, eo71⟩ := Kd.R_slice HO221.out; subst eo71) | (go_at_call 15; (with_reducible refine (spec_CrossRight.calls k1 _ _ y219 false _ ?side1 ?side2 A63.out).mono ?_); (case side1 => exact au8_9); (case side2 => exact (Kd.R_reads' HO221.out).2.1); rintro e w72 ⟨rfl, hb⟩; (try clear A63); have n0_ := Aside0.mk (Kd.R_below (rk_ HO_5) hb); have n1_ := Aside0.mk (Kd.R_below (rk_ HO221) hb); have n2_ := Aside0.mk (blkb_ BK179 hb); have n3_ := Aside0.mk (below_step bl_ hb); clear HO_5; clear HO221; clear BK179; clear HB; have HO_5 := n0_; have HO221 := n1_; have BK179 := n2_; have HB := n3_; clear n0_ n1_ n2_ n3_; (try clear hb); (try clear hb2); (try clear hk); (try clear hi)))
                    go_ret
                    exact ⟨_, au8_5, au8_13, bl_⟩
                · rw [if_neg c62] at H
                  exact absurd H (by simp)
      · replace c9 := Bool.eq_false_iff.mpr c9
        subst c9
        have H1 : (some y186) = some r := by rw [if_neg (show ¬ (false = true) by decide)] at H; exact H
        clear H
        have H := H1
        clear H1
        obtain rfl := Option.some.inj H
        go_enter Try.func28, Try.ntmps28
        go_wp2_with (first | ((with_reducible refine gate_dst (N := 3) rfl ?_); refine box_event ?hg (N := 3) ?hd (cs := #[.string a1_0, .string a1_1, .string a1_2]) (t := 37) ?hr ?_; (case hd => rfl); (case hg => rfl); (case hr => exact hr_); intro gb179 hg w73 hbox hb; have n0_ := Aside0.mk (below_step bl_ hb); have n1_ := Aside0.mk (hbox); have n2_ := Aside0.mk (gw_ hg bl_); have n3_ := Aside0.mk (gw_ hg bl_); clear HB; have HB := n0_; have BK179 := n1_; have GW179 := n2_; have GE179 := n3_; clear n0_ n1_ n2_ n3_; clear hb hbox hg) | ((with_reducible refine gate_dst (N := 13) rfl ?_); refine Kd.R_lit k37 _ 37 ?hg (N := 13) ?hd (xs := ([] : List (S37))) (inner := []) (ok := fun _ => True) (okp := fun _ => True) ?hr ?hp (fun _ hk => hk) trivial (Below.refl _ _) (Nat.le_refl _) (by simp) ?_; (case hd => rfl); (case hg => rfl); (case hr => exact hr_); (case hp => exact (Reps.none _ _)); intro v184 w74 ho75 hb hg_ hnew_; clear hg_ hnew_; (first | rw [← Ny183.out] at ho75 | (simp only [Int.reduceToNat] at ho75; rw [← Ny183.out] at ho75)); have n0_ := Aside0.mk (Kd.R_lower (Kd.R_newB ho75 (g := gb179) (o := .cells #[.string a1_0, .string a1_1, .string a1_2] 37 (0, 0)) (bk_ BK179)) (below_size bl_)); have n1_ := Aside0.mk (blkb_ BK179 hb); have n2_ := Aside0.mk (below_step bl_ hb); clear BK179; clear HB; have HO185 := n0_; have BK179 := n1_; have HB := n2_; clear n0_ n1_ n2_; clear hb ho75) | ((with_reducible refine gate_builtin (b := .append) (xs := #[.tmp 13, .tmp 14]) rfl ?_); at_builtin; refine Kd.R_append_rows k37 (w0 := w) w.heap.size rfl (.tmp 13) (.tmp 14) 25 37 (.agg #[(.string ⟨#[]⟩), (.string ⟨#[]⟩), (.string ⟨#[]⟩)]) 48 rfl Try.underlying25 info37 rfl (by decide) (by omega) v184 y183 l0 _ _ _ (fun k_ => k_ ≠ gb179) (fun _ => False) rfl rfl ?aO ?aR (fun _ _ h => h) (fun _ h => h.elim) ?aF ?aB ?aS ?aL ?_; (case aR => exact au8_4); (case aB => exact bl_); (case aF => exact au8_14); (case aO => exact au8_12); (case aS => exact (below_size bl_)); (case aL => have := LMc7.out; omega); intro v187 w76 ho hb hg hat; rw [← Ny186.out] at ho; have n0_ := Aside0.mk (blk_grown (g := gb179) (o := .cells #[.string a1_0, .string a1_1, .string a1_2] 37 (0, 0)) (bk_ BK179) hg (Kd.R_away HO185.out (fun _ hk => hk.2))); have n1_ := Aside0.mk (hb); have n2_ := Aside0.mk (ho); clear BK179; clear HB; clear HO185; have BK179 := n0_; have HB := n1_; have HO188 := n2_; clear n0_ n1_ n2_; clear ho hb hg hat) | (go_at_call 15; (with_reducible refine (spec_CrossRight.calls k _ _ l0 false _ ?side1 ?side2 A8.out).mono ?_); (case side1 => exact au8_4); (case side2 => exact HC0.out); rintro e w77 ⟨rfl, hb⟩; (try clear A8); have n0_ := Aside0.mk (Kd.R_below (rk_ HO188) hb); have n1_ := Aside0.mk (blkb_ BK179 hb); have n2_ := Aside0.mk (below_step bl_ hb); clear HO188; clear BK179; clear HB; have HO188 := n0_; have BK179 := n1_; have HB := n2_; clear n0_ n1_ n2_; (try clear hb); (try clear hb2); (try clear hk); (try clear hi)))
        go_ret
        exact ⟨_, au8_5, by (with_reducible repeat (first | apply Kd.R_alloc | apply Kd.R_drewN | apply Kd.R_drew)); exact Kd.R_mono HO188.out (fun _ hk => trivial), bl_⟩
    · rw [if_neg c7] at H
      exact absurd H (by simp)

end Go.Proofs.Ytjffakoifpldeaa.PFnCross
