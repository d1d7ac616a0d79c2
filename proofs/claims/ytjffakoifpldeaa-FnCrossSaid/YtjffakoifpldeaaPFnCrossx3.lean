-- printed by a program of this session (wip/xp/xprint.py) out of the translation; Lean checks it
import Derived.Test.YtjffakoifpldeaaPFnCrossx0
import Derived.Test.YtjffakoifpldeaaPFnCrossx2
namespace Go.Proofs.Ytjffakoifpldeaa.PFnCross
open Go.RowKit Go.Proofs.YtjffakoifpldeaaW.PrintWords Go.Proofs.YtjffakoifpldeaaW.PrintLast Go.Proofs.YtjffakoifpldeaaW.PrintMore
attribute [local go_sem] max2_int min2_int max_two min_two max_three min_three max_four min_four   -- for this text's walks alone
set_option linter.unusedVariables false
set_option linter.unusedSimpArgs false

theorem au3_0 {p : Prop} (h : p := by (with_reducible repeat (first | refine blk_drewN ?_ _ | refine blk_drew ?_ | refine blk_alloc ?_ _)); refine blk_put (cs := #[.string ((rd_T37 l0 x3_1).f0), .string ((rd_T37 l0 x3_1).f1), .string (⟨#[]⟩ : ByteArray)]) ?_ 2 _ rfl; (with_reducible repeat (first | refine blk_drewN ?_ _ | refine blk_drew ?_ | refine blk_alloc ?_ _)); refine blk_put (cs := #[.string ((rd_T37 l0 x3_1).f0), .string (⟨#[]⟩ : ByteArray), .string (⟨#[]⟩ : ByteArray)]) ?_ 1 _ rfl; (with_reducible repeat (first | refine blk_drewN ?_ _ | refine blk_drew ?_ | refine blk_alloc ?_ _)); refine blk_put (cs := #[.string (⟨#[]⟩ : ByteArray), .string (⟨#[]⟩ : ByteArray), .string (⟨#[]⟩ : ByteArray)]) ?_ 0 _ rfl; (with_reducible repeat (first | refine blk_drewN ?_ _ | refine blk_drew ?_ | refine blk_alloc ?_ _)); exact BK104.out) : p := h
theorem au3_1 {p : Prop} (h : p := by rintro w' ⟨s0, s1, s2, s3, s4, s5, s6, s7, s8⟩; go_simp; with_reducible rfl) : p := h
theorem au3_2 {p : Prop} (h : p := by rintro w' ⟨s0, s1, s2⟩; go_simp; with_reducible rfl) : p := h
theorem au3_3 {p : Prop} (h : p := by rintro w' ⟨s0, s1, s2, s3, s4, s5⟩; go_simp; with_reducible rfl) : p := h
theorem au3_4 {p : Prop} (h : p := by first | rfl | (simp [errW_none, errW_some] <;> rfl) | (simp [*, errW_none, errW_some] <;> rfl)) : p := h
theorem au3_5 {p : Prop} (h : p := by have := HK1.out; first | omega | exact Nat.le_refl _) : p := h
theorem au3_6 {p : Prop} (h : p := by have := HK1.out; have := HJ4.out; have := HK3.out; omega) : p := h

/-! ### spec_CrossRight: function 15 -/
mutual
def spec_CrossRight.l0 : Nat → List (S37) → Int → Option (Bool)
  | 0, _, _ => none
  | k + 1, x0, x3 => if x3 < (x0.length : Int) then (if 0 ≤ x3 then ((spec_l01Name.f k ((rd_T37 x0 x3).f0)).bind fun t105 => (if t105 = true then ((spec_l01Name.f k ((rd_T37 x0 x3).f1)).bind fun t106 => (if t106 = true then ((spec_l01Name.f k ((rd_T37 x0 x3).f2)).bind fun t107 => (if t107 = true then (if x3 > 0 then (if 0 ≤ (wrap64 (x3 - 1)) then (if (wrap64 (x3 - 1)) < (x0.length : Int) then ((spec_l08Before.f ((rd_T37 x0 (wrap64 (x3 - 1))).f0) ((rd_T37 x0 (wrap64 (x3 - 1))).f1) ((rd_T37 x0 (wrap64 (x3 - 1))).f2) ((rd_T37 x0 x3).f0) ((rd_T37 x0 x3).f1) ((rd_T37 x0 x3).f2)).bind fun t109 => (spec_CrossRight.j1 k x0 x3 (!t109) ((rd_T37 x0 x3).f0) ((rd_T37 x0 x3).f1) ((rd_T37 x0 x3).f2))) else (none)) else (none)) else (spec_CrossRight.j1 k x0 x3 false ((rd_T37 x0 x3).f0) ((rd_T37 x0 x3).f1) ((rd_T37 x0 x3).f2))) else (spec_CrossRight.j1 k x0 x3 true ((rd_T37 x0 x3).f0) ((rd_T37 x0 x3).f1) ((rd_T37 x0 x3).f2)))) else (spec_CrossRight.j1 k x0 x3 true ((rd_T37 x0 x3).f0) ((rd_T37 x0 x3).f1) ((rd_T37 x0 x3).f2)))) else (spec_CrossRight.j1 k x0 x3 true ((rd_T37 x0 x3).f0) ((rd_T37 x0 x3).f1) ((rd_T37 x0 x3).f2)))) else (none)) else (some true)
def spec_CrossRight.j1 : Nat → List (S37) → Int → Bool → ByteArray → ByteArray → ByteArray → Option (Bool)
  | 0, _, _, _, _, _, _ => none
  | k + 1, x0, x3, x48, x105000, x105001, x105002 => if x48 = true then (some false) else (spec_CrossRight.l1 k x0 x3 0 x105000 x105001 x105002)
def spec_CrossRight.l1 : Nat → List (S37) → Int → Int → ByteArray → ByteArray → ByteArray → Option (Bool)
  | 0, _, _, _, _, _, _ => none
  | k + 1, x0, x3, x5, x105000, x105001, x105002 => if x5 < x3 then (if 0 ≤ x5 then (if x5 < (x0.length : Int) then (if ((rd_T37 x0 x5).f0).toList = x105000.toList then (if ((rd_T37 x0 x5).f2).toList = x105002.toList then (some false) else (spec_CrossRight.l1 k x0 x3 (wrap64 (x5 + 1)) x105000 x105001 x105002)) else (spec_CrossRight.l1 k x0 x3 (wrap64 (x5 + 1)) x105000 x105001 x105002)) else (none)) else (none)) else (spec_CrossRight.l0 k x0 (wrap64 (x3 + 1)))
end
def spec_CrossRight.f (k : Nat) (l0 : List (S37)) : Option (Bool) := if (l0.length : Int) > 200 then (some false) else (spec_CrossRight.l0 k l0 0)
theorem spec_CrossRight.mono_l : ∀ k, (∀ y0 y1, LeO (spec_CrossRight.l0 k y0 y1) (spec_CrossRight.l0 (k + 1) y0 y1)) ∧ (∀ y0 y1 y2 y3 y4 y5, LeO (spec_CrossRight.j1 k y0 y1 y2 y3 y4 y5) (spec_CrossRight.j1 (k + 1) y0 y1 y2 y3 y4 y5)) ∧ (∀ y0 y1 y2 y3 y4 y5, LeO (spec_CrossRight.l1 k y0 y1 y2 y3 y4 y5) (spec_CrossRight.l1 (k + 1) y0 y1 y2 y3 y4 y5))
  | 0 => ⟨fun _ _ r h => by simp [spec_CrossRight.l0] at h, fun _ _ _ _ _ _ r h => by simp [spec_CrossRight.j1] at h, fun _ _ _ _ _ _ r h => by simp [spec_CrossRight.l1] at h⟩
  | k + 1 => by
    obtain ⟨ih0, ih1, ih2⟩ := spec_CrossRight.mono_l k
    refine ⟨?_, ?_, ?_⟩
    · intro y0 y1
      unfold spec_CrossRight.l0
      repeat' first
      | (with_reducible exact ih0 _ _)
      | (with_reducible exact ih1 _ _ _ _ _ _)
      | (with_reducible exact ih2 _ _ _ _ _ _)
      | (with_reducible exact spec_l01Name.mono _ _)
      | (with_reducible exact LeO.refl _)
      | (with_reducible exact LeO.none _)
      | (with_reducible refine LeO.ite ?_ ?_)
      | (with_reducible refine LeO.bind ?_ (fun _ => ?_))
      | exact ih0 _ _
      | exact ih1 _ _ _ _ _ _
      | exact ih2 _ _ _ _ _ _
      | exact spec_l01Name.mono _ _
      | exact LeO.none _
      | refine LeO.ite ?_ ?_
      | refine LeO.bind ?_ (fun _ => ?_)
    · intro y0 y1 y2 y3 y4 y5
      unfold spec_CrossRight.j1
      repeat' first
      | (with_reducible exact ih0 _ _)
      | (with_reducible exact ih1 _ _ _ _ _ _)
      | (with_reducible exact ih2 _ _ _ _ _ _)
      | (with_reducible exact spec_l01Name.mono _ _)
      | (with_reducible exact LeO.refl _)
      | (with_reducible exact LeO.none _)
      | (with_reducible refine LeO.ite ?_ ?_)
      | (with_reducible refine LeO.bind ?_ (fun _ => ?_))
      | exact ih0 _ _
      | exact ih1 _ _ _ _ _ _
      | exact ih2 _ _ _ _ _ _
      | exact spec_l01Name.mono _ _
      | exact LeO.none _
      | refine LeO.ite ?_ ?_
      | refine LeO.bind ?_ (fun _ => ?_)
    · intro y0 y1 y2 y3 y4 y5
      unfold spec_CrossRight.l1
      repeat' first
      | (with_reducible exact ih0 _ _)
      | (with_reducible exact ih1 _ _ _ _ _ _)
      | (with_reducible exact ih2 _ _ _ _ _ _)
      | (with_reducible exact spec_l01Name.mono _ _)
      | (with_reducible exact LeO.refl _)
      | (with_reducible exact LeO.none _)
      | (with_reducible refine LeO.ite ?_ ?_)
      | (with_reducible refine LeO.bind ?_ (fun _ => ?_))
      | exact ih0 _ _
      | exact ih1 _ _ _ _ _ _
      | exact ih2 _ _ _ _ _ _
      | exact spec_l01Name.mono _ _
      | exact LeO.none _
      | refine LeO.ite ?_ ?_
      | refine LeO.bind ?_ (fun _ => ?_)
theorem spec_CrossRight.mono : ∀ a0 k, LeO (spec_CrossRight.f k a0) (spec_CrossRight.f (k + 1) a0) := by
  intro a0 k
  obtain ⟨ih0, ih1, ih2⟩ := spec_CrossRight.mono_l k
  unfold spec_CrossRight.f
  repeat' first
      | (with_reducible exact ih0 _ _)
      | (with_reducible exact ih1 _ _ _ _ _ _)
      | (with_reducible exact ih2 _ _ _ _ _ _)
      | (with_reducible exact spec_l01Name.mono _ _)
      | (with_reducible exact LeO.refl _)
      | (with_reducible exact LeO.none _)
      | (with_reducible refine LeO.ite ?_ ?_)
      | (with_reducible refine LeO.bind ?_ (fun _ => ?_))
      | exact ih0 _ _
      | exact ih1 _ _ _ _ _ _
      | exact ih2 _ _ _ _ _ _
      | exact spec_l01Name.mono _ _
      | exact LeO.none _
      | refine LeO.ite ?_ ?_
      | refine LeO.bind ?_ (fun _ => ?_)
def spec_CrossRight.T7 : Bool × List (List Nat × List Nat) := (true, [([], []), ([0], [0]), ([1], [1]), ([2], [2]), ([3, 2], [3]), ([4], [4]), ([5, 4], [4, 5]), ([6, 4, 4], [4, 6]), ([7, 4], [4, 7]), ([4, 8], [4, 8]), ([9, 7], [9]), ([10], [10]), ([11, 10], [10, 11]), ([12, 10, 10], [10, 12]), ([13, 10], [10, 13]), ([10, 14], [10, 14]), ([15, 13], [15]), ([16], [16]), ([17, 16], [16, 17]), ([18, 16, 16], [16, 18]), ([19], [19]), ([19], [19]), ([21, 19], [19, 21]), ([20, 22, 19], [19, 20, 22]), ([23, 19], [19, 23]), ([19], [19]), ([24, 25, 19, 19], [19, 24, 25]), ([26, 19], [19, 26]), ([19, 27, 16], [16, 19, 27]), ([16, 28], [16, 28])])
def spec_CrossRight.B7 : List Nat := [0, 1, 3, 7, 15, 31, 63, 127, 255, 511, 1023, 2047, 4095, 8191, 16383, 32767, 65535, 131071, 262143, 524287, 1048575, 1048575, 3145727, 8388607, 16777215, 1048575, 67108863, 134217727, 268435455, 536870911]
theorem spec_CrossRight.tab7 : rtab .any (opsOf Try.f15 7) = spec_CrossRight.T7 := by kernel_rfl
theorem spec_CrossRight.bits7 : waitsOk spec_CrossRight.T7.2 spec_CrossRight.B7 = true := by kernel_rfl
def spec_CrossRight.T12 : Bool × List (List Nat × List Nat) := (true, [([], []), ([], []), ([0, 1], [0, 1]), ([2], [2]), ([3], [3]), ([], []), ([5], [5]), ([4, 6], [4, 6]), ([7], [7]), ([8], [8]), ([8], [8]), ([9, 10, 8], [8, 9, 10]), ([11, 8], [8, 11]), ([12, 8], [8, 12]), ([8], [8]), ([14, 8], [8, 14]), ([13, 15, 8], [8, 13, 15]), ([8, 16], [8, 16])])
def spec_CrossRight.B12 : List Nat := [0, 0, 3, 7, 15, 0, 32, 127, 255, 511, 511, 2047, 4095, 8191, 511, 16895, 65535, 131071]
theorem spec_CrossRight.tab12 : rtab .any (opsOf Try.f15 12) = spec_CrossRight.T12 := by kernel_rfl
theorem spec_CrossRight.bits12 : waitsOk spec_CrossRight.T12.2 spec_CrossRight.B12 = true := by kernel_rfl
set_option maxHeartbeats 8000000 in
set_option maxRecDepth 100000 in
theorem spec_CrossRight.calls (k : Nat) (A0 : Option Addr) (c0 : Nat) (l0 : List (S37)) (r : Bool) (w : World) (hr0 : Kd.C k37 w A0 l0.length l0) (hc0 : l0.length ≤ c0) (h : spec_CrossRight.f k l0 = some r) :
    Calls Try.prog 15 #[.slice A0 l0.length c0] w fun e w' => e = .returned (.bool r) ∧ Below w.heap.size w w' := by
  have hu37 := Try.underlying37
  have HR0 := Aside0.mk hr0
  have HC0 := Aside0.mk hc0
  clear hr0 hc0
  have HB := Aside0.mk (Below.refl w.heap.size w)
  have H : (if (l0.length : Int) > 200 then (some false) else (spec_CrossRight.l0 k l0 0)) = some r := h
  clear h
  by_cases c2 : (l0.length : Int) > 200
  · rw [if_pos c2] at H
    have c2b0 : decide (200 < (l0.length : Int)) = true := decide_eq_true c2
    have c2b1 : decide (200 < l0.length) = true := decide_eq_true (by omega)
    clear c2
    obtain rfl := Option.some.inj H
    go_enter Try.func15, Try.ntmps15
    go_wp2
    go_ret
    exact ⟨au3_4, bl_⟩
  · rw [if_neg c2] at H
    have c2b0 : decide (200 < (l0.length : Int)) = false := decide_eq_false c2
    have c2b1 : decide (200 < l0.length) = false := decide_eq_false (by omega)
    clear c2
    have H' := Aside0.mk H
    clear H
    go_enter Try.func15, Try.ntmps15
    go_wp2
    go_loopg [3] k (fun kq v3 w' => ∃ (x3_1 : Int), v3 = .int .i64 x3_1 ∧ Aside0 (spec_CrossRight.l0 kq l0 x3_1 = some r) ∧ Aside0 (kq ≤ k) ∧ Aside0 (Below w.heap.size w w'))
    case atStart => exact ⟨(0), er_, H', ⟨Nat.le_refl _⟩, ⟨bl_⟩⟩
    case round =>
      clear H'
      try clear c1
      try clear c2
      try clear c2b0
      try clear c2b1
      try clear p2
      obtain ⟨x3_1, rfl, HA, HK1, HB⟩ := hrel
      cases gk with
      | zero => exact absurd HA.out (by simp [spec_CrossRight.l0])
      | succ k1 =>
        have H := HA.out
        clear HA
        simp only [spec_CrossRight.l0] at H
        by_cases c3 : x3_1 < (l0.length : Int)
        · rw [if_pos c3] at H
          have c3b0 : decide (x3_1 < (l0.length : Int)) = true := decide_eq_true c3
          clear c3
          by_cases c4 : 0 ≤ x3_1
          · rw [if_pos c4] at H
            have c4b0 : decide (0 ≤ x3_1) = true := decide_eq_true c4
            clear c4
            have HC5 := Aside0.mk H
            clear H
            have p103 : 0 ≤ (x3_1 : Int) := of_decide_eq_true as_
            have q103 : x3_1 < (l0.length : Int) := of_decide_eq_true as_
            obtain ⟨ad103, e103, hx103_0, hx103_1, hx103_2⟩ := at_T37 HR0.out x3_1 p103 q103
            cases e103
            replace hx103_0 := (HB.out.cell (World.block_lt_of_cell? _ _ hx103_0)).trans hx103_0
            replace hx103_1 := (HB.out.cell (World.block_lt_of_cell? _ _ hx103_1)).trans hx103_1
            replace hx103_2 := (HB.out.cell (World.block_lt_of_cell? _ _ hx103_2)).trans hx103_2
            replace p103 := eq_true p103
            replace q103 := eq_true q103
            go_upto_region 7 with (first | ((with_reducible refine gate_dst (N := 4) rfl ?_); refine box_event ?hg (N := 4) ?hd (cs := #[.string (⟨#[]⟩ : ByteArray), .string (⟨#[]⟩ : ByteArray), .string (⟨#[]⟩ : ByteArray)]) (t := 37) ?hr ?_; (case hd => rfl); (case hg => rfl); (case hr => exact hr_); intro gb104 hg w6 hbox hb; have n0_ := Aside0.mk (below_step bl_ hb); have n1_ := Aside0.mk (hbox); have n2_ := Aside0.mk (gw_ hg bl_); have n3_ := Aside0.mk (gw_ hg bl_); clear HB; have HB := n0_; have BK104 := n1_; have GW104 := n2_; have GE104 := n3_; clear n0_ n1_ n2_ n3_; clear hb hbox hg; obtain ⟨hcz7_0, hcz7_1, hcz7_2, hfz7_0, hfz7_1, hfz7_2⟩ := cellsF3 BK104.out))
            (try simp only [Act.put, List.setIfInBounds_toArray, List.set_cons_zero, List.set_cons_succ])
            go_cut [48] (fun v48 wc => ∃ (kq : Nat) (x48_4 : Bool), v48 = .bool x48_4 ∧ Aside0 (spec_CrossRight.j1 kq l0 x3_1 x48_4 ((rd_T37 l0 x3_1).f0) ((rd_T37 l0 x3_1).f1) ((rd_T37 l0 x3_1).f2) = some r) ∧ Aside0 (kq ≤ k1) ∧ Aside0 (wc.heap[gb104]? = some (.cells #[.string ((rd_T37 l0 x3_1).f0), .string ((rd_T37 l0 x3_1).f1), .string ((rd_T37 l0 x3_1).f2)] 37 (0, 0))) ∧ Aside0 (Below w.heap.size w wc))
            case first =>
              have H := HC5.out
              clear HC5
              replace H := Option.bind_eq_some_iff.mp H
              obtain ⟨t105, A80, H⟩ := H
              replace H : (if t105 = true then ((spec_l01Name.f k1 ((rd_T37 l0 x3_1).f1)).bind fun t106 => (if t106 = true then ((spec_l01Name.f k1 ((rd_T37 l0 x3_1).f2)).bind fun t107 => (if t107 = true then (if x3_1 > 0 then (if 0 ≤ (wrap64 (x3_1 - 1)) then (if (wrap64 (x3_1 - 1)) < (l0.length : Int) then ((spec_l08Before.f ((rd_T37 l0 (wrap64 (x3_1 - 1))).f0) ((rd_T37 l0 (wrap64 (x3_1 - 1))).f1) ((rd_T37 l0 (wrap64 (x3_1 - 1))).f2) ((rd_T37 l0 x3_1).f0) ((rd_T37 l0 x3_1).f1) ((rd_T37 l0 x3_1).f2)).bind fun t109 => (spec_CrossRight.j1 k1 l0 x3_1 (!t109) ((rd_T37 l0 x3_1).f0) ((rd_T37 l0 x3_1).f1) ((rd_T37 l0 x3_1).f2))) else (none)) else (none)) else (spec_CrossRight.j1 k1 l0 x3_1 false ((rd_T37 l0 x3_1).f0) ((rd_T37 l0 x3_1).f1) ((rd_T37 l0 x3_1).f2))) else (spec_CrossRight.j1 k1 l0 x3_1 true ((rd_T37 l0 x3_1).f0) ((rd_T37 l0 x3_1).f1) ((rd_T37 l0 x3_1).f2)))) else (spec_CrossRight.j1 k1 l0 x3_1 true ((rd_T37 l0 x3_1).f0) ((rd_T37 l0 x3_1).f1) ((rd_T37 l0 x3_1).f2)))) else (spec_CrossRight.j1 k1 l0 x3_1 true ((rd_T37 l0 x3_1).f0) ((rd_T37 l0 x3_1).f1) ((rd_T37 l0 x3_1).f2))) = some r := H
              have A8 := Aside0.mk A80
              clear A80
              by_cases c9 : t105 = true
              · subst c9
                have H1 : ((spec_l01Name.f k1 ((rd_T37 l0 x3_1).f1)).bind fun t106 => (if t106 = true then ((spec_l01Name.f k1 ((rd_T37 l0 x3_1).f2)).bind fun t107 => (if t107 = true then (if x3_1 > 0 then (if 0 ≤ (wrap64 (x3_1 - 1)) then (if (wrap64 (x3_1 - 1)) < (l0.length : Int) then ((spec_l08Before.f ((rd_T37 l0 (wrap64 (x3_1 - 1))).f0) ((rd_T37 l0 (wrap64 (x3_1 - 1))).f1) ((rd_T37 l0 (wrap64 (x3_1 - 1))).f2) ((rd_T37 l0 x3_1).f0) ((rd_T37 l0 x3_1).f1) ((rd_T37 l0 x3_1).f2)).bind fun t109 => (spec_CrossRight.j1 k1 l0 x3_1 (!t109) ((rd_T37 l0 x3_1).f0) ((rd_T37 l0 x3_1).f1) ((rd_T37 l0 x3_1).f2))) else (none)) else (none)) else (spec_CrossRight.j1 k1 l0 x3_1 false ((rd_T37 l0 x3_1).f0) ((rd_T37 l0 x3_1).f1) ((rd_T37 l0 x3_1).f2))) else (spec_CrossRight.j1 k1 l0 x3_1 true ((rd_T37 l0 x3_1).f0) ((rd_T37 l0 x3_1).f1) ((rd_T37 l0 x3_1).f2)))) else (spec_CrossRight.j1 k1 l0 x3_1 true ((rd_T37 l0 x3_1).f0) ((rd_T37 l0 x3_1).f1) ((rd_T37 l0 x3_1).f2)))) = some r := by rw [if_pos rfl] at H; exact H
                clear H
                have H := H1
                clear H1
                replace H := Option.bind_eq_some_iff.mp H
                obtain ⟨t106, A100, H⟩ := H
                replace H : (if t106 = true then ((spec_l01Name.f k1 ((rd_T37 l0 x3_1).f2)).bind fun t107 => (if t107 = true then (if x3_1 > 0 then (if 0 ≤ (wrap64 (x3_1 - 1)) then (if (wrap64 (x3_1 - 1)) < (l0.length : Int) then ((spec_l08Before.f ((rd_T37 l0 (wrap64 (x3_1 - 1))).f0) ((rd_T37 l0 (wrap64 (x3_1 - 1))).f1) ((rd_T37 l0 (wrap64 (x3_1 - 1))).f2) ((rd_T37 l0 x3_1).f0) ((rd_T37 l0 x3_1).f1) ((rd_T37 l0 x3_1).f2)).bind fun t109 => (spec_CrossRight.j1 k1 l0 x3_1 (!t109) ((rd_T37 l0 x3_1).f0) ((rd_T37 l0 x3_1).f1) ((rd_T37 l0 x3_1).f2))) else (none)) else (none)) else (spec_CrossRight.j1 k1 l0 x3_1 false ((rd_T37 l0 x3_1).f0) ((rd_T37 l0 x3_1).f1) ((rd_T37 l0 x3_1).f2))) else (spec_CrossRight.j1 k1 l0 x3_1 true ((rd_T37 l0 x3_1).f0) ((rd_T37 l0 x3_1).f1) ((rd_T37 l0 x3_1).f2)))) else (spec_CrossRight.j1 k1 l0 x3_1 true ((rd_T37 l0 x3_1).f0) ((rd_T37 l0 x3_1).f1) ((rd_T37 l0 x3_1).f2))) = some r := H
                have A10 := Aside0.mk A100
                clear A100
                by_cases c11 : t106 = true
                · subst c11
                  have H1 : ((spec_l01Name.f k1 ((rd_T37 l0 x3_1).f2)).bind fun t107 => (if t107 = true then (if x3_1 > 0 then (if 0 ≤ (wrap64 (x3_1 - 1)) then (if (wrap64 (x3_1 - 1)) < (l0.length : Int) then ((spec_l08Before.f ((rd_T37 l0 (wrap64 (x3_1 - 1))).f0) ((rd_T37 l0 (wrap64 (x3_1 - 1))).f1) ((rd_T37 l0 (wrap64 (x3_1 - 1))).f2) ((rd_T37 l0 x3_1).f0) ((rd_T37 l0 x3_1).f1) ((rd_T37 l0 x3_1).f2)).bind fun t109 => (spec_CrossRight.j1 k1 l0 x3_1 (!t109) ((rd_T37 l0 x3_1).f0) ((rd_T37 l0 x3_1).f1) ((rd_T37 l0 x3_1).f2))) else (none)) else (none)) else (spec_CrossRight.j1 k1 l0 x3_1 false ((rd_T37 l0 x3_1).f0) ((rd_T37 l0 x3_1).f1) ((rd_T37 l0 x3_1).f2))) else (spec_CrossRight.j1 k1 l0 x3_1 true ((rd_T37 l0 x3_1).f0) ((rd_T37 l0 x3_1).f1) ((rd_T37 l0 x3_1).f2)))) = some r := by rw [if_pos rfl] at H; exact H
                  clear H
                  have H := H1
                  clear H1
                  replace H := Option.bind_eq_some_iff.mp H
                  obtain ⟨t107, A120, H⟩ := H
                  replace H : (if t107 = true then (if x3_1 > 0 then (if 0 ≤ (wrap64 (x3_1 - 1)) then (if (wrap64 (x3_1 - 1)) < (l0.length : Int) then ((spec_l08Before.f ((rd_T37 l0 (wrap64 (x3_1 - 1))).f0) ((rd_T37 l0 (wrap64 (x3_1 - 1))).f1) ((rd_T37 l0 (wrap64 (x3_1 - 1))).f2) ((rd_T37 l0 x3_1).f0) ((rd_T37 l0 x3_1).f1) ((rd_T37 l0 x3_1).f2)).bind fun t109 => (spec_CrossRight.j1 k1 l0 x3_1 (!t109) ((rd_T37 l0 x3_1).f0) ((rd_T37 l0 x3_1).f1) ((rd_T37 l0 x3_1).f2))) else (none)) else (none)) else (spec_CrossRight.j1 k1 l0 x3_1 false ((rd_T37 l0 x3_1).f0) ((rd_T37 l0 x3_1).f1) ((rd_T37 l0 x3_1).f2))) else (spec_CrossRight.j1 k1 l0 x3_1 true ((rd_T37 l0 x3_1).f0) ((rd_T37 l0 x3_1).f1) ((rd_T37 l0 x3_1).f2))) = some r := H
                  have A12 := Aside0.mk A120
                  clear A120
                  by_cases c13 : t107 = true
                  · subst c13
                    have H1 : (if x3_1 > 0 then (if 0 ≤ (wrap64 (x3_1 - 1)) then (if (wrap64 (x3_1 - 1)) < (l0.length : Int) then ((spec_l08Before.f ((rd_T37 l0 (wrap64 (x3_1 - 1))).f0) ((rd_T37 l0 (wrap64 (x3_1 - 1))).f1) ((rd_T37 l0 (wrap64 (x3_1 - 1))).f2) ((rd_T37 l0 x3_1).f0) ((rd_T37 l0 x3_1).f1) ((rd_T37 l0 x3_1).f2)).bind fun t109 => (spec_CrossRight.j1 k1 l0 x3_1 (!t109) ((rd_T37 l0 x3_1).f0) ((rd_T37 l0 x3_1).f1) ((rd_T37 l0 x3_1).f2))) else (none)) else (none)) else (spec_CrossRight.j1 k1 l0 x3_1 false ((rd_T37 l0 x3_1).f0) ((rd_T37 l0 x3_1).f1) ((rd_T37 l0 x3_1).f2))) = some r := by rw [if_pos rfl] at H; exact H
                    clear H
                    have H := H1
                    clear H1
                    by_cases c14 : x3_1 > 0
                    · rw [if_pos c14] at H
                      have c14b0 : decide (0 < x3_1) = true := decide_eq_true c14
                      clear c14
                      (first | rw [c14b0] | (simp only [i64_w, i32_w]; rw [c14b0]) | skip)
                      obtain ⟨ji15, hji15⟩ : ∃ j_ : Int, (wrap64 (x3_1 - 1)) = j_ := ⟨_, rfl⟩
                      replace H : (if 0 ≤ (ji15) then (if (ji15) < (l0.length : Int) then ((spec_l08Before.f ((rd_T37 l0 (ji15)).f0) ((rd_T37 l0 (ji15)).f1) ((rd_T37 l0 (ji15)).f2) ((rd_T37 l0 x3_1).f0) ((rd_T37 l0 x3_1).f1) ((rd_T37 l0 x3_1).f2)).bind fun t109 => (spec_CrossRight.j1 k1 l0 x3_1 (!t109) ((rd_T37 l0 x3_1).f0) ((rd_T37 l0 x3_1).f1) ((rd_T37 l0 x3_1).f2))) else (none)) else (none)) = some r := by first | (rw [hji15] at H; exact H) | (simp only [hji15] at H ⊢; exact H)
                      (try rw [hji15] at A8)
                      (try rw [hji15] at A10)
                      (try rw [hji15] at A12)
                      have hji15w : (IntKind.i64.wrap (x3_1 - 1)) = ji15 := (i64_w _).trans hji15
                      by_cases c16 : 0 ≤ (ji15)
                      · rw [if_pos c16] at H
                        have c16b0 : decide (0 ≤ (ji15)) = true := decide_eq_true c16
                        clear c16
                        by_cases c17 : (ji15) < (l0.length : Int)
                        · rw [if_pos c17] at H
                          have c17b0 : decide ((ji15) < (l0.length : Int)) = true := decide_eq_true c17
                          clear c17
                          replace H := Option.bind_eq_some_iff.mp H
                          obtain ⟨t109, A180, H⟩ := H
                          replace H : (spec_CrossRight.j1 k1 l0 x3_1 (!t109) ((rd_T37 l0 x3_1).f0) ((rd_T37 l0 x3_1).f1) ((rd_T37 l0 x3_1).f2)) = some r := H
                          have A18 := Aside0.mk A180
                          clear A180
                          have H' := Aside0.mk H
                          clear H
                          try go_wp2
                          have n0_ : Aside0 ((((w6.setCell ⟨gb104, 0, none⟩ (.string ((rd_T37 l0 x3_1).f0))).setCell ⟨gb104, 1, none⟩ (.string ((rd_T37 l0 x3_1).f1))).setCell ⟨gb104, 2, none⟩ (.string ((rd_T37 l0 x3_1).f2))).heap[gb104]? = some (.cells #[.string ((rd_T37 l0 x3_1).f0), .string ((rd_T37 l0 x3_1).f1), .string ((rd_T37 l0 x3_1).f2)] 37 (0, 0))) := ⟨au3_0⟩
                          have n1_ : Aside0 (Below w.heap.size w (((w6.setCell ⟨gb104, 0, none⟩ (.string ((rd_T37 l0 x3_1).f0))).setCell ⟨gb104, 1, none⟩ (.string ((rd_T37 l0 x3_1).f1))).setCell ⟨gb104, 2, none⟩ (.string ((rd_T37 l0 x3_1).f2)))) := ⟨bl_⟩
                          (try clear BK104)
                          (try clear HB)
                          generalize (((w6.setCell ⟨gb104, 0, none⟩ (.string ((rd_T37 l0 x3_1).f0))).setCell ⟨gb104, 1, none⟩ (.string ((rd_T37 l0 x3_1).f1))).setCell ⟨gb104, 2, none⟩ (.string ((rd_T37 l0 x3_1).f2))) = w19 at n0_ n1_ ⊢
                          have BK104 := n0_
                          have HB := n1_
                          clear n0_ n1_
                          have n0_ := Aside0.mk (blk_drew BK104.out)
                          have n1_ := Aside0.mk (below_drew1 HB.out)
                          clear BK104
                          clear HB
                          have BK104 := n0_
                          have HB := n1_
                          clear n0_ n1_
                          have p108 : 0 ≤ ((ji15) : Int) := of_decide_eq_true as_
                          have q108 : (ji15) < (l0.length : Int) := of_decide_eq_true as_
                          obtain ⟨ad108, e108, hx108_0, hx108_1, hx108_2⟩ := at_T37 HR0.out (ji15) p108 q108
                          have hw108_2 := hx108_2
                          have hw108_1 := hx108_1
                          have hw108_0 := hx108_0
                          obtain rfl : ad103 = ad108 := (by injection e108)
                          replace hx108_0 := (HB.out.cell (World.block_lt_of_cell? _ _ hx108_0)).trans hx108_0
                          replace hx108_1 := (HB.out.cell (World.block_lt_of_cell? _ _ hx108_1)).trans hx108_1
                          replace hx108_2 := (HB.out.cell (World.block_lt_of_cell? _ _ hx108_2)).trans hx108_2
                          replace p108 := eq_true p108
                          replace q108 := eq_true q108
                          refine start_ (n := 30) (S := fun w' => w'.cell? ⟨gb104, 0, none⟩ = some (.string ((rd_T37 l0 x3_1).f0)) ∧ w'.cell? ⟨gb104, 1, none⟩ = some (.string ((rd_T37 l0 x3_1).f1)) ∧ w'.cell? ⟨gb104, 2, none⟩ = some (.string ((rd_T37 l0 x3_1).f2)) ∧ w'.cell? (ad103.add (((ji15)).toNat * 3)) = some (.string ((rd_T37 l0 (ji15)).f0)) ∧ w'.cell? ⟨(ad103.add (((ji15)).toNat * 3)).block, (ad103.add (((ji15)).toNat * 3)).off + 1, none⟩ = some (.string ((rd_T37 l0 (ji15)).f1)) ∧ w'.cell? ⟨(ad103.add (((ji15)).toNat * 3)).block, (ad103.add (((ji15)).toNat * 3)).off + 2, none⟩ = some (.string ((rd_T37 l0 (ji15)).f2))) (ds := []) (bs 30 0) (by kernel_rfl) rfl rfl ⟨(blk_cell BK104.out 0).trans rfl, (blk_cell BK104.out 1).trans rfl, (blk_cell BK104.out 2).trans rfl, ((HB.out.cell (World.block_lt_of_cell? _ _ hw108_0)).trans hw108_0), ((HB.out.cell (World.block_lt_of_cell? _ _ hw108_1)).trans hw108_1), ((HB.out.cell (World.block_lt_of_cell? _ _ hw108_2)).trans hw108_2)⟩ (fun hHeld => ?_); refine with_tabW spec_CrossRight.tab7 spec_CrossRight.bits7 (fun HT_ HW_ => ?_)
                          generalize w19.drew = w20 at BK104 HB hx108_0 hx108_1 hx108_2 hHeld ⊢
                          refine pu_ 0 19 (bs 30 1) HT_ ?_ rfl rfl
                          refine tk_ 1 20 (bs 30 3) HT_ HW_ hHeld au3_3 ?_ rfl rfl
                          refine one_ (i := 2) (N := some 21) (bs 30 7) rfl rfl (one_of HT_.out (by kernel_rfl)) (by decide) (fun K hK => ?_)
                          refine gr_ Try.func54 #[.string ((rd_T37 l0 x3_1).f0)] (by rfl) ?_ rfl rfl rfl
                          with_reducible refine (spec_l01Name.calls k1 ((rd_T37 l0 x3_1).f0) true _ A8.out).mono ?_
                          rintro e w' ⟨rfl, ⟨nd, rfl⟩⟩
                          refine ⟨_, rfl, ?_⟩
                          refine hK.out _ _ ⟨(blk_cell BK104.out 0).trans rfl, (blk_cell BK104.out 1).trans rfl, (blk_cell BK104.out 2).trans rfl, ((HB.out.cell (World.block_lt_of_cell? _ _ hw108_0)).trans hw108_0), ((HB.out.cell (World.block_lt_of_cell? _ _ hw108_1)).trans hw108_1), ((HB.out.cell (World.block_lt_of_cell? _ _ hw108_2)).trans hw108_2)⟩ (fun hHeld => ?_)
                          clear hK K
                          refine norm_ (a' := ?_) ?_ ?_
                          rotate_left
                          · show Act.put _ (some 21) _ = _
                            simp only [Act.put, List.setIfInBounds_toArray, List.set_cons_zero, List.set_cons_succ, i64_w, i32_w]
                            rfl
                          refine pu_ 3 22 (bs 30 15) HT_ ?_ rfl rfl
                          refine pu_ 4 23 (bs 30 31) HT_ ?_ rfl rfl
                          refine pu_ 5 24 (bs 30 63) HT_ ?_ rfl rfl
                          refine tk_ 6 25 (bs 30 127) HT_ HW_ hHeld au3_3 ?_ rfl rfl
                          refine one_ (i := 7) (N := some 26) (bs 30 255) rfl rfl (one_of HT_.out (by kernel_rfl)) (by decide) (fun K hK => ?_)
                          refine gr_ Try.func54 #[.string ((rd_T37 l0 x3_1).f1)] (by rfl) ?_ rfl rfl rfl
                          with_reducible refine (spec_l01Name.calls k1 ((rd_T37 l0 x3_1).f1) true _ A10.out).mono ?_
                          rintro e w' ⟨rfl, ⟨nd, rfl⟩⟩
                          refine ⟨_, rfl, ?_⟩
                          refine hK.out _ _ ⟨(blk_cell BK104.out 0).trans rfl, (blk_cell BK104.out 1).trans rfl, (blk_cell BK104.out 2).trans rfl, ((HB.out.cell (World.block_lt_of_cell? _ _ hw108_0)).trans hw108_0), ((HB.out.cell (World.block_lt_of_cell? _ _ hw108_1)).trans hw108_1), ((HB.out.cell (World.block_lt_of_cell? _ _ hw108_2)).trans hw108_2)⟩ (fun hHeld => ?_)
                          clear hK K
                          refine norm_ (a' := ?_) ?_ ?_
                          rotate_left
                          · show Act.put _ (some 26) _ = _
                            simp only [Act.put, List.setIfInBounds_toArray, List.set_cons_zero, List.set_cons_succ, i64_w, i32_w]
                            rfl
                          refine pu_ 8 27 (bs 30 511) HT_ ?_ rfl rfl
                          refine pu_ 9 28 (bs 30 1023) HT_ ?_ rfl rfl
                          refine pu_ 10 29 (bs 30 2047) HT_ ?_ rfl rfl
                          refine pu_ 11 30 (bs 30 4095) HT_ ?_ rfl rfl
                          refine tk_ 12 31 (bs 30 8191) HT_ HW_ hHeld au3_3 ?_ rfl rfl
                          refine one_ (i := 13) (N := some 32) (bs 30 16383) rfl rfl (one_of HT_.out (by kernel_rfl)) (by decide) (fun K hK => ?_)
                          refine gr_ Try.func54 #[.string ((rd_T37 l0 x3_1).f2)] (by rfl) ?_ rfl rfl rfl
                          with_reducible refine (spec_l01Name.calls k1 ((rd_T37 l0 x3_1).f2) true _ A12.out).mono ?_
                          rintro e w' ⟨rfl, ⟨nd, rfl⟩⟩
                          refine ⟨_, rfl, ?_⟩
                          refine hK.out _ _ ⟨(blk_cell BK104.out 0).trans rfl, (blk_cell BK104.out 1).trans rfl, (blk_cell BK104.out 2).trans rfl, ((HB.out.cell (World.block_lt_of_cell? _ _ hw108_0)).trans hw108_0), ((HB.out.cell (World.block_lt_of_cell? _ _ hw108_1)).trans hw108_1), ((HB.out.cell (World.block_lt_of_cell? _ _ hw108_2)).trans hw108_2)⟩ (fun hHeld => ?_)
                          clear hK K
                          refine norm_ (a' := ?_) ?_ ?_
                          rotate_left
                          · show Act.put _ (some 32) _ = _
                            simp only [Act.put, List.setIfInBounds_toArray, List.set_cons_zero, List.set_cons_succ, i64_w, i32_w]
                            rfl
                          refine pu_ 14 33 (bs 30 32767) HT_ ?_ rfl rfl
                          refine pu_ 15 34 (bs 30 65535) HT_ ?_ rfl rfl
                          refine pu_ 16 35 (bs 30 131071) HT_ ?_ rfl rfl
                          refine pu_ 17 36 (bs 30 262143) HT_ ?_ rfl rfl
                          refine pu_ 18 37 (bs 30 524287) HT_ ?_ rfl rfl
                          refine pu_ 19 38 (bs 30 1048575) HT_ ?_ rfl rfl
                          refine pu_ 20 39 (bs 30 2097151) HT_ ?_ rfl rfl
                          refine pu_ 21 40 (bs 30 4194303) HT_ ?_ rfl rfl
                          refine pu_ 22 41 (bs 30 8388607) HT_ ?_ rfl rfl
                          refine pu_ 23 42 (bs 30 16777215) HT_ ?_ rfl rfl
                          refine tk_ 24 43 (bs 30 33554431) HT_ HW_ hHeld au3_3 ?_ rfl rfl
                          refine tk_ 25 44 (bs 30 67108863) HT_ HW_ hHeld au3_3 ?_ rfl rfl
                          refine one_ (i := 26) (N := some 45) (bs 30 134217727) rfl rfl (one_of HT_.out (by kernel_rfl)) (by decide) (fun K hK => ?_)
                          refine goes_ Try.func55 (by kernel_rfl) rfl #[.agg #[.string ((rd_T37 l0 (ji15)).f0), .string ((rd_T37 l0 (ji15)).f1), .string ((rd_T37 l0 (ji15)).f2)], .agg #[.string ((rd_T37 l0 x3_1).f0), .string ((rd_T37 l0 x3_1).f1), .string ((rd_T37 l0 x3_1).f2)]] (by rfl) rfl rfl (by (try simp only [List.map_toArray, List.map_cons, List.map_nil]); first | done | (simp only [hji15]; rfl) | rfl | (simp only [List.length_drop, List.length_take]; rfl)) ?_
                          with_reducible refine (spec_l08Before.calls ((rd_T37 l0 (ji15)).f0) ((rd_T37 l0 (ji15)).f1) ((rd_T37 l0 (ji15)).f2) ((rd_T37 l0 x3_1).f0) ((rd_T37 l0 x3_1).f1) ((rd_T37 l0 x3_1).f2) t109 _ A18.out).mono ?_
                          rintro e w21 ⟨rfl, hb⟩
                          refine ⟨_, rfl, ?_⟩
                          have n0_ := Aside0.mk (blkb_ BK104 hb)
                          have n1_ := Aside0.mk (below_step bl_ hb)
                          clear BK104
                          clear HB
                          have BK104 := n0_
                          have HB := n1_
                          clear n0_ n1_
                          (try clear hb)
                          (try clear hb2)
                          (try clear hk)
                          (try clear hi)
                          refine hK.out _ _ ⟨(blk_cell BK104.out 0).trans rfl, (blk_cell BK104.out 1).trans rfl, (blk_cell BK104.out 2).trans rfl, ((HB.out.cell (World.block_lt_of_cell? _ _ hw108_0)).trans hw108_0), ((HB.out.cell (World.block_lt_of_cell? _ _ hw108_1)).trans hw108_1), ((HB.out.cell (World.block_lt_of_cell? _ _ hw108_2)).trans hw108_2)⟩ (fun hHeld => ?_)
                          clear hK K
                          refine norm_ (a' := ?_) ?_ ?_
                          rotate_left
                          · show Act.put _ (some 45) _ = _
                            simp only [Act.put, List.setIfInBounds_toArray, List.set_cons_zero, List.set_cons_succ, i64_w, i32_w]
                            rfl
                          refine pu_ 27 46 (bs 30 268435455) HT_ ?_ rfl rfl
                          refine pu_ 28 47 (bs 30 536870911) HT_ ?_ rfl rfl
                          refine pu_ 29 48 (bs 30 1073741823) HT_ ?_ rfl rfl
                          refine done_ (done_of HT_.out (by kernel_rfl)) ?_
                          try go_wp2
                          go_meet
                          case rel => exact ⟨_, (!t109), er_, H', ⟨au3_5⟩, ⟨bk_ BK104⟩, ⟨bl_⟩⟩
                        · rw [if_neg c17] at H
                          exact absurd H (by simp)
                      · rw [if_neg c16] at H
                        exact absurd H (by simp)
                    · rw [if_neg c14] at H
                      have c14b0 : decide (0 < x3_1) = false := decide_eq_false c14
                      clear c14
                      (first | rw [c14b0] | (simp only [i64_w, i32_w]; rw [c14b0]) | skip)
                      have H' := Aside0.mk H
                      clear H
                      try go_wp2
                      have n0_ : Aside0 ((((w6.setCell ⟨gb104, 0, none⟩ (.string ((rd_T37 l0 x3_1).f0))).setCell ⟨gb104, 1, none⟩ (.string ((rd_T37 l0 x3_1).f1))).setCell ⟨gb104, 2, none⟩ (.string ((rd_T37 l0 x3_1).f2))).heap[gb104]? = some (.cells #[.string ((rd_T37 l0 x3_1).f0), .string ((rd_T37 l0 x3_1).f1), .string ((rd_T37 l0 x3_1).f2)] 37 (0, 0))) := ⟨au3_0⟩
                      have n1_ : Aside0 (Below w.heap.size w (((w6.setCell ⟨gb104, 0, none⟩ (.string ((rd_T37 l0 x3_1).f0))).setCell ⟨gb104, 1, none⟩ (.string ((rd_T37 l0 x3_1).f1))).setCell ⟨gb104, 2, none⟩ (.string ((rd_T37 l0 x3_1).f2)))) := ⟨bl_⟩
                      (try clear BK104)
                      (try clear HB)
                      generalize (((w6.setCell ⟨gb104, 0, none⟩ (.string ((rd_T37 l0 x3_1).f0))).setCell ⟨gb104, 1, none⟩ (.string ((rd_T37 l0 x3_1).f1))).setCell ⟨gb104, 2, none⟩ (.string ((rd_T37 l0 x3_1).f2))) = w22 at n0_ n1_ ⊢
                      have BK104 := n0_
                      have HB := n1_
                      clear n0_ n1_
                      have n0_ := Aside0.mk (blk_drew BK104.out)
                      have n1_ := Aside0.mk (below_drew1 HB.out)
                      clear BK104
                      clear HB
                      have BK104 := n0_
                      have HB := n1_
                      clear n0_ n1_
                      refine start_ (n := 30) (S := fun w' => w'.cell? ⟨gb104, 0, none⟩ = some (.string ((rd_T37 l0 x3_1).f0)) ∧ w'.cell? ⟨gb104, 1, none⟩ = some (.string ((rd_T37 l0 x3_1).f1)) ∧ w'.cell? ⟨gb104, 2, none⟩ = some (.string ((rd_T37 l0 x3_1).f2))) (ds := []) (bs 30 0) (by kernel_rfl) rfl rfl ⟨(blk_cell BK104.out 0).trans rfl, (blk_cell BK104.out 1).trans rfl, (blk_cell BK104.out 2).trans rfl⟩ (fun hHeld => ?_); refine with_tabW spec_CrossRight.tab7 spec_CrossRight.bits7 (fun HT_ HW_ => ?_)
                      generalize w22.drew = w23 at BK104 HB hHeld ⊢
                      refine pu_ 0 19 (bs 30 1) HT_ ?_ rfl rfl
                      refine tk_ 1 20 (bs 30 3) HT_ HW_ hHeld au3_2 ?_ rfl rfl
                      refine one_ (i := 2) (N := some 21) (bs 30 7) rfl rfl (one_of HT_.out (by kernel_rfl)) (by decide) (fun K hK => ?_)
                      refine gr_ Try.func54 #[.string ((rd_T37 l0 x3_1).f0)] (by rfl) ?_ rfl rfl rfl
                      with_reducible refine (spec_l01Name.calls k1 ((rd_T37 l0 x3_1).f0) true _ A8.out).mono ?_
                      rintro e w' ⟨rfl, ⟨nd, rfl⟩⟩
                      refine ⟨_, rfl, ?_⟩
                      refine hK.out _ _ ⟨(blk_cell BK104.out 0).trans rfl, (blk_cell BK104.out 1).trans rfl, (blk_cell BK104.out 2).trans rfl⟩ (fun hHeld => ?_)
                      clear hK K
                      refine norm_ (a' := ?_) ?_ ?_
                      rotate_left
                      · show Act.put _ (some 21) _ = _
                        simp only [Act.put, List.setIfInBounds_toArray, List.set_cons_zero, List.set_cons_succ, i64_w, i32_w]
                        rfl
                      refine pu_ 3 22 (bs 30 15) HT_ ?_ rfl rfl
                      refine pu_ 4 23 (bs 30 31) HT_ ?_ rfl rfl
                      refine pu_ 5 24 (bs 30 63) HT_ ?_ rfl rfl
                      refine tk_ 6 25 (bs 30 127) HT_ HW_ hHeld au3_2 ?_ rfl rfl
                      refine one_ (i := 7) (N := some 26) (bs 30 255) rfl rfl (one_of HT_.out (by kernel_rfl)) (by decide) (fun K hK => ?_)
                      refine gr_ Try.func54 #[.string ((rd_T37 l0 x3_1).f1)] (by rfl) ?_ rfl rfl rfl
                      with_reducible refine (spec_l01Name.calls k1 ((rd_T37 l0 x3_1).f1) true _ A10.out).mono ?_
                      rintro e w' ⟨rfl, ⟨nd, rfl⟩⟩
                      refine ⟨_, rfl, ?_⟩
                      refine hK.out _ _ ⟨(blk_cell BK104.out 0).trans rfl, (blk_cell BK104.out 1).trans rfl, (blk_cell BK104.out 2).trans rfl⟩ (fun hHeld => ?_)
                      clear hK K
                      refine norm_ (a' := ?_) ?_ ?_
                      rotate_left
                      · show Act.put _ (some 26) _ = _
                        simp only [Act.put, List.setIfInBounds_toArray, List.set_cons_zero, List.set_cons_succ, i64_w, i32_w]
                        rfl
                      refine pu_ 8 27 (bs 30 511) HT_ ?_ rfl rfl
                      refine pu_ 9 28 (bs 30 1023) HT_ ?_ rfl rfl
                      refine pu_ 10 29 (bs 30 2047) HT_ ?_ rfl rfl
                      refine pu_ 11 30 (bs 30 4095) HT_ ?_ rfl rfl
                      refine tk_ 12 31 (bs 30 8191) HT_ HW_ hHeld au3_2 ?_ rfl rfl
                      refine one_ (i := 13) (N := some 32) (bs 30 16383) rfl rfl (one_of HT_.out (by kernel_rfl)) (by decide) (fun K hK => ?_)
                      refine gr_ Try.func54 #[.string ((rd_T37 l0 x3_1).f2)] (by rfl) ?_ rfl rfl rfl
                      with_reducible refine (spec_l01Name.calls k1 ((rd_T37 l0 x3_1).f2) true _ A12.out).mono ?_
                      rintro e w' ⟨rfl, ⟨nd, rfl⟩⟩
                      refine ⟨_, rfl, ?_⟩
                      refine hK.out _ _ ⟨(blk_cell BK104.out 0).trans rfl, (blk_cell BK104.out 1).trans rfl, (blk_cell BK104.out 2).trans rfl⟩ (fun hHeld => ?_)
                      clear hK K
                      refine norm_ (a' := ?_) ?_ ?_
                      rotate_left
                      · show Act.put _ (some 32) _ = _
                        simp only [Act.put, List.setIfInBounds_toArray, List.set_cons_zero, List.set_cons_succ, i64_w, i32_w]
                        rfl
                      refine pu_ 14 33 (bs 30 32767) HT_ ?_ rfl rfl
                      refine pu_ 15 34 (bs 30 65535) HT_ ?_ rfl rfl
                      refine pu_ 16 35 (bs 30 131071) HT_ ?_ rfl rfl
                      refine pu_ 17 36 (bs 30 262143) HT_ ?_ rfl rfl
                      refine pu_ 18 37 (bs 30 524287) HT_ ?_ rfl rfl
                      refine pu_ 19 38 (bs 30 1048575) HT_ ?_ rfl rfl
                      refine pv_ 20 39 (bs 30 2097151) HT_ ?_ rfl rfl
                      refine pv_ 21 40 (bs 30 4194303) HT_ ?_ rfl rfl
                      refine pv_ 22 41 (bs 30 8388607) HT_ ?_ rfl rfl
                      refine pv_ 23 42 (bs 30 16777215) HT_ ?_ rfl rfl
                      refine pv_ 24 43 (bs 30 33554431) HT_ ?_ rfl rfl
                      refine pv_ 25 44 (bs 30 67108863) HT_ ?_ rfl rfl
                      refine pv_ 26 45 (bs 30 134217727) HT_ ?_ rfl rfl
                      refine pv_ 27 46 (bs 30 268435455) HT_ ?_ rfl rfl
                      refine pu_ 28 47 (bs 30 536870911) HT_ ?_ rfl rfl
                      refine pu_ 29 48 (bs 30 1073741823) HT_ ?_ rfl rfl
                      refine done_ (done_of HT_.out (by kernel_rfl)) ?_
                      try go_wp2
                      go_meet
                      case rel => exact ⟨_, (false), er_, H', ⟨au3_5⟩, ⟨bk_ BK104⟩, ⟨bl_⟩⟩
                  · replace c13 := Bool.eq_false_iff.mpr c13
                    subst c13
                    have H1 : (spec_CrossRight.j1 k1 l0 x3_1 true ((rd_T37 l0 x3_1).f0) ((rd_T37 l0 x3_1).f1) ((rd_T37 l0 x3_1).f2)) = some r := by rw [if_neg (show ¬ (false = true) by decide)] at H; exact H
                    clear H
                    have H := H1
                    clear H1
                    have H' := Aside0.mk H
                    clear H
                    try go_wp2
                    have n0_ : Aside0 ((((w6.setCell ⟨gb104, 0, none⟩ (.string ((rd_T37 l0 x3_1).f0))).setCell ⟨gb104, 1, none⟩ (.string ((rd_T37 l0 x3_1).f1))).setCell ⟨gb104, 2, none⟩ (.string ((rd_T37 l0 x3_1).f2))).heap[gb104]? = some (.cells #[.string ((rd_T37 l0 x3_1).f0), .string ((rd_T37 l0 x3_1).f1), .string ((rd_T37 l0 x3_1).f2)] 37 (0, 0))) := ⟨au3_0⟩
                    have n1_ : Aside0 (Below w.heap.size w (((w6.setCell ⟨gb104, 0, none⟩ (.string ((rd_T37 l0 x3_1).f0))).setCell ⟨gb104, 1, none⟩ (.string ((rd_T37 l0 x3_1).f1))).setCell ⟨gb104, 2, none⟩ (.string ((rd_T37 l0 x3_1).f2)))) := ⟨bl_⟩
                    (try clear BK104)
                    (try clear HB)
                    generalize (((w6.setCell ⟨gb104, 0, none⟩ (.string ((rd_T37 l0 x3_1).f0))).setCell ⟨gb104, 1, none⟩ (.string ((rd_T37 l0 x3_1).f1))).setCell ⟨gb104, 2, none⟩ (.string ((rd_T37 l0 x3_1).f2))) = w24 at n0_ n1_ ⊢
                    have BK104 := n0_
                    have HB := n1_
                    clear n0_ n1_
                    have n0_ := Aside0.mk (blk_drew BK104.out)
                    have n1_ := Aside0.mk (below_drew1 HB.out)
                    clear BK104
                    clear HB
                    have BK104 := n0_
                    have HB := n1_
                    clear n0_ n1_
                    refine start_ (n := 30) (S := fun w' => w'.cell? ⟨gb104, 0, none⟩ = some (.string ((rd_T37 l0 x3_1).f0)) ∧ w'.cell? ⟨gb104, 1, none⟩ = some (.string ((rd_T37 l0 x3_1).f1)) ∧ w'.cell? ⟨gb104, 2, none⟩ = some (.string ((rd_T37 l0 x3_1).f2))) (ds := []) (bs 30 0) (by kernel_rfl) rfl rfl ⟨(blk_cell BK104.out 0).trans rfl, (blk_cell BK104.out 1).trans rfl, (blk_cell BK104.out 2).trans rfl⟩ (fun hHeld => ?_); refine with_tabW spec_CrossRight.tab7 spec_CrossRight.bits7 (fun HT_ HW_ => ?_)
                    generalize w24.drew = w25 at BK104 HB hHeld ⊢
                    refine pu_ 0 19 (bs 30 1) HT_ ?_ rfl rfl
                    refine tk_ 1 20 (bs 30 3) HT_ HW_ hHeld au3_2 ?_ rfl rfl
                    refine one_ (i := 2) (N := some 21) (bs 30 7) rfl rfl (one_of HT_.out (by kernel_rfl)) (by decide) (fun K hK => ?_)
                    refine gr_ Try.func54 #[.string ((rd_T37 l0 x3_1).f0)] (by rfl) ?_ rfl rfl rfl
                    with_reducible refine (spec_l01Name.calls k1 ((rd_T37 l0 x3_1).f0) true _ A8.out).mono ?_
                    rintro e w' ⟨rfl, ⟨nd, rfl⟩⟩
                    refine ⟨_, rfl, ?_⟩
                    refine hK.out _ _ ⟨(blk_cell BK104.out 0).trans rfl, (blk_cell BK104.out 1).trans rfl, (blk_cell BK104.out 2).trans rfl⟩ (fun hHeld => ?_)
                    clear hK K
                    refine norm_ (a' := ?_) ?_ ?_
                    rotate_left
                    · show Act.put _ (some 21) _ = _
                      simp only [Act.put, List.setIfInBounds_toArray, List.set_cons_zero, List.set_cons_succ, i64_w, i32_w]
                      rfl
                    refine pu_ 3 22 (bs 30 15) HT_ ?_ rfl rfl
                    refine pu_ 4 23 (bs 30 31) HT_ ?_ rfl rfl
                    refine pu_ 5 24 (bs 30 63) HT_ ?_ rfl rfl
                    refine tk_ 6 25 (bs 30 127) HT_ HW_ hHeld au3_2 ?_ rfl rfl
                    refine one_ (i := 7) (N := some 26) (bs 30 255) rfl rfl (one_of HT_.out (by kernel_rfl)) (by decide) (fun K hK => ?_)
                    refine gr_ Try.func54 #[.string ((rd_T37 l0 x3_1).f1)] (by rfl) ?_ rfl rfl rfl
                    with_reducible refine (spec_l01Name.calls k1 ((rd_T37 l0 x3_1).f1) true _ A10.out).mono ?_
                    rintro e w' ⟨rfl, ⟨nd, rfl⟩⟩
                    refine ⟨_, rfl, ?_⟩
                    refine hK.out _ _ ⟨(blk_cell BK104.out 0).trans rfl, (blk_cell BK104.out 1).trans rfl, (blk_cell BK104.out 2).trans rfl⟩ (fun hHeld => ?_)
                    clear hK K
                    refine norm_ (a' := ?_) ?_ ?_
                    rotate_left
                    · show Act.put _ (some 26) _ = _
                      simp only [Act.put, List.setIfInBounds_toArray, List.set_cons_zero, List.set_cons_succ, i64_w, i32_w]
                      rfl
                    refine pu_ 8 27 (bs 30 511) HT_ ?_ rfl rfl
                    refine pu_ 9 28 (bs 30 1023) HT_ ?_ rfl rfl
                    refine pu_ 10 29 (bs 30 2047) HT_ ?_ rfl rfl
                    refine pu_ 11 30 (bs 30 4095) HT_ ?_ rfl rfl
                    refine tk_ 12 31 (bs 30 8191) HT_ HW_ hHeld au3_2 ?_ rfl rfl
                    refine one_ (i := 13) (N := some 32) (bs 30 16383) rfl rfl (one_of HT_.out (by kernel_rfl)) (by decide) (fun K hK => ?_)
                    refine gr_ Try.func54 #[.string ((rd_T37 l0 x3_1).f2)] (by rfl) ?_ rfl rfl rfl
                    with_reducible refine (spec_l01Name.calls k1 ((rd_T37 l0 x3_1).f2) false _ A12.out).mono ?_
                    rintro e w' ⟨rfl, ⟨nd, rfl⟩⟩
                    refine ⟨_, rfl, ?_⟩
                    refine hK.out _ _ ⟨(blk_cell BK104.out 0).trans rfl, (blk_cell BK104.out 1).trans rfl, (blk_cell BK104.out 2).trans rfl⟩ (fun hHeld => ?_)
                    clear hK K
                    refine norm_ (a' := ?_) ?_ ?_
                    rotate_left
                    · show Act.put _ (some 32) _ = _
                      simp only [Act.put, List.setIfInBounds_toArray, List.set_cons_zero, List.set_cons_succ, i64_w, i32_w]
                      rfl
                    refine pu_ 14 33 (bs 30 32767) HT_ ?_ rfl rfl
                    refine pu_ 15 34 (bs 30 65535) HT_ ?_ rfl rfl
                    refine pu_ 16 35 (bs 30 131071) HT_ ?_ rfl rfl
                    refine pv_ 17 36 (bs 30 262143) HT_ ?_ rfl rfl
                    refine pv_ 18 37 (bs 30 524287) HT_ ?_ rfl rfl
                    refine pv_ 19 38 (bs 30 1048575) HT_ ?_ rfl rfl
                    refine pv_ 20 39 (bs 30 2097151) HT_ ?_ rfl rfl
                    refine pv_ 21 40 (bs 30 4194303) HT_ ?_ rfl rfl
                    refine pv_ 22 41 (bs 30 8388607) HT_ ?_ rfl rfl
                    refine pv_ 23 42 (bs 30 16777215) HT_ ?_ rfl rfl
                    refine pv_ 24 43 (bs 30 33554431) HT_ ?_ rfl rfl
                    refine pv_ 25 44 (bs 30 67108863) HT_ ?_ rfl rfl
                    refine pv_ 26 45 (bs 30 134217727) HT_ ?_ rfl rfl
                    refine pv_ 27 46 (bs 30 268435455) HT_ ?_ rfl rfl
                    refine pv_ 28 47 (bs 30 536870911) HT_ ?_ rfl rfl
                    refine pu_ 29 48 (bs 30 1073741823) HT_ ?_ rfl rfl
                    refine done_ (done_of HT_.out (by kernel_rfl)) ?_
                    try go_wp2
                    go_meet
                    case rel => exact ⟨_, (true), er_, H', ⟨au3_5⟩, ⟨bk_ BK104⟩, ⟨bl_⟩⟩
                · replace c11 := Bool.eq_false_iff.mpr c11
                  subst c11
                  have H1 : (spec_CrossRight.j1 k1 l0 x3_1 true ((rd_T37 l0 x3_1).f0) ((rd_T37 l0 x3_1).f1) ((rd_T37 l0 x3_1).f2)) = some r := by rw [if_neg (show ¬ (false = true) by decide)] at H; exact H
                  clear H
                  have H := H1
                  clear H1
                  have H' := Aside0.mk H
                  clear H
                  try go_wp2
                  have n0_ : Aside0 ((((w6.setCell ⟨gb104, 0, none⟩ (.string ((rd_T37 l0 x3_1).f0))).setCell ⟨gb104, 1, none⟩ (.string ((rd_T37 l0 x3_1).f1))).setCell ⟨gb104, 2, none⟩ (.string ((rd_T37 l0 x3_1).f2))).heap[gb104]? = some (.cells #[.string ((rd_T37 l0 x3_1).f0), .string ((rd_T37 l0 x3_1).f1), .string ((rd_T37 l0 x3_1).f2)] 37 (0, 0))) := ⟨au3_0⟩
                  have n1_ : Aside0 (Below w.heap.size w (((w6.setCell ⟨gb104, 0, none⟩ (.string ((rd_T37 l0 x3_1).f0))).setCell ⟨gb104, 1, none⟩ (.string ((rd_T37 l0 x3_1).f1))).setCell ⟨gb104, 2, none⟩ (.string ((rd_T37 l0 x3_1).f2)))) := ⟨bl_⟩
                  (try clear BK104)
                  (try clear HB)
                  generalize (((w6.setCell ⟨gb104, 0, none⟩ (.string ((rd_T37 l0 x3_1).f0))).setCell ⟨gb104, 1, none⟩ (.string ((rd_T37 l0 x3_1).f1))).setCell ⟨gb104, 2, none⟩ (.string ((rd_T37 l0 x3_1).f2))) = w26 at n0_ n1_ ⊢
                  have BK104 := n0_
                  have HB := n1_
                  clear n0_ n1_
                  have n0_ := Aside0.mk (blk_drew BK104.out)
                  have n1_ := Aside0.mk (below_drew1 HB.out)
                  clear BK104
                  clear HB
                  have BK104 := n0_
                  have HB := n1_
                  clear n0_ n1_
                  refine start_ (n := 30) (S := fun w' => w'.cell? ⟨gb104, 0, none⟩ = some (.string ((rd_T37 l0 x3_1).f0)) ∧ w'.cell? ⟨gb104, 1, none⟩ = some (.string ((rd_T37 l0 x3_1).f1)) ∧ w'.cell? ⟨gb104, 2, none⟩ = some (.string ((rd_T37 l0 x3_1).f2))) (ds := []) (bs 30 0) (by kernel_rfl) rfl rfl ⟨(blk_cell BK104.out 0).trans rfl, (blk_cell BK104.out 1).trans rfl, (blk_cell BK104.out 2).trans rfl⟩ (fun hHeld => ?_); refine with_tabW spec_CrossRight.tab7 spec_CrossRight.bits7 (fun HT_ HW_ => ?_)
                  generalize w26.drew = w27 at BK104 HB hHeld ⊢
                  refine pu_ 0 19 (bs 30 1) HT_ ?_ rfl rfl
                  refine tk_ 1 20 (bs 30 3) HT_ HW_ hHeld au3_2 ?_ rfl rfl
                  refine one_ (i := 2) (N := some 21) (bs 30 7) rfl rfl (one_of HT_.out (by kernel_rfl)) (by decide) (fun K hK => ?_)
                  refine gr_ Try.func54 #[.string ((rd_T37 l0 x3_1).f0)] (by rfl) ?_ rfl rfl rfl
                  with_reducible refine (spec_l01Name.calls k1 ((rd_T37 l0 x3_1).f0) true _ A8.out).mono ?_
                  rintro e w' ⟨rfl, ⟨nd, rfl⟩⟩
                  refine ⟨_, rfl, ?_⟩
                  refine hK.out _ _ ⟨(blk_cell BK104.out 0).trans rfl, (blk_cell BK104.out 1).trans rfl, (blk_cell BK104.out 2).trans rfl⟩ (fun hHeld => ?_)
                  clear hK K
                  refine norm_ (a' := ?_) ?_ ?_
                  rotate_left
                  · show Act.put _ (some 21) _ = _
                    simp only [Act.put, List.setIfInBounds_toArray, List.set_cons_zero, List.set_cons_succ, i64_w, i32_w]
                    rfl
                  refine pu_ 3 22 (bs 30 15) HT_ ?_ rfl rfl
                  refine pu_ 4 23 (bs 30 31) HT_ ?_ rfl rfl
                  refine pu_ 5 24 (bs 30 63) HT_ ?_ rfl rfl
                  refine tk_ 6 25 (bs 30 127) HT_ HW_ hHeld au3_2 ?_ rfl rfl
                  refine one_ (i := 7) (N := some 26) (bs 30 255) rfl rfl (one_of HT_.out (by kernel_rfl)) (by decide) (fun K hK => ?_)
                  refine gr_ Try.func54 #[.string ((rd_T37 l0 x3_1).f1)] (by rfl) ?_ rfl rfl rfl
                  with_reducible refine (spec_l01Name.calls k1 ((rd_T37 l0 x3_1).f1) false _ A10.out).mono ?_
                  rintro e w' ⟨rfl, ⟨nd, rfl⟩⟩
                  refine ⟨_, rfl, ?_⟩
                  refine hK.out _ _ ⟨(blk_cell BK104.out 0).trans rfl, (blk_cell BK104.out 1).trans rfl, (blk_cell BK104.out 2).trans rfl⟩ (fun hHeld => ?_)
                  clear hK K
                  refine norm_ (a' := ?_) ?_ ?_
                  rotate_left
                  · show Act.put _ (some 26) _ = _
                    simp only [Act.put, List.setIfInBounds_toArray, List.set_cons_zero, List.set_cons_succ, i64_w, i32_w]
                    rfl
                  refine pu_ 8 27 (bs 30 511) HT_ ?_ rfl rfl
                  refine pu_ 9 28 (bs 30 1023) HT_ ?_ rfl rfl
                  refine pu_ 10 29 (bs 30 2047) HT_ ?_ rfl rfl
                  refine pv_ 11 30 (bs 30 4095) HT_ ?_ rfl rfl
                  refine pv_ 12 31 (bs 30 8191) HT_ ?_ rfl rfl
                  refine pv_ 13 32 (bs 30 16383) HT_ ?_ rfl rfl
                  refine pv_ 14 33 (bs 30 32767) HT_ ?_ rfl rfl
                  refine pu_ 15 34 (bs 30 65535) HT_ ?_ rfl rfl
                  refine pu_ 16 35 (bs 30 131071) HT_ ?_ rfl rfl
                  refine pv_ 17 36 (bs 30 262143) HT_ ?_ rfl rfl
                  refine pv_ 18 37 (bs 30 524287) HT_ ?_ rfl rfl
                  refine pv_ 19 38 (bs 30 1048575) HT_ ?_ rfl rfl
                  refine pv_ 20 39 (bs 30 2097151) HT_ ?_ rfl rfl
                  refine pv_ 21 40 (bs 30 4194303) HT_ ?_ rfl rfl
                  refine pv_ 22 41 (bs 30 8388607) HT_ ?_ rfl rfl
                  refine pv_ 23 42 (bs 30 16777215) HT_ ?_ rfl rfl
                  refine pv_ 24 43 (bs 30 33554431) HT_ ?_ rfl rfl
                  refine pv_ 25 44 (bs 30 67108863) HT_ ?_ rfl rfl
                  refine pv_ 26 45 (bs 30 134217727) HT_ ?_ rfl rfl
                  refine pv_ 27 46 (bs 30 268435455) HT_ ?_ rfl rfl
                  refine pv_ 28 47 (bs 30 536870911) HT_ ?_ rfl rfl
                  refine pu_ 29 48 (bs 30 1073741823) HT_ ?_ rfl rfl
                  refine done_ (done_of HT_.out (by kernel_rfl)) ?_
                  try go_wp2
                  go_meet
                  case rel => exact ⟨_, (true), er_, H', ⟨au3_5⟩, ⟨bk_ BK104⟩, ⟨bl_⟩⟩
              · replace c9 := Bool.eq_false_iff.mpr c9
                subst c9
                have H1 : (spec_CrossRight.j1 k1 l0 x3_1 true ((rd_T37 l0 x3_1).f0) ((rd_T37 l0 x3_1).f1) ((rd_T37 l0 x3_1).f2)) = some r := by rw [if_neg (show ¬ (false = true) by decide)] at H; exact H
                clear H
                have H := H1
                clear H1
                have H' := Aside0.mk H
                clear H
                try go_wp2
                have n0_ : Aside0 ((((w6.setCell ⟨gb104, 0, none⟩ (.string ((rd_T37 l0 x3_1).f0))).setCell ⟨gb104, 1, none⟩ (.string ((rd_T37 l0 x3_1).f1))).setCell ⟨gb104, 2, none⟩ (.string ((rd_T37 l0 x3_1).f2))).heap[gb104]? = some (.cells #[.string ((rd_T37 l0 x3_1).f0), .string ((rd_T37 l0 x3_1).f1), .string ((rd_T37 l0 x3_1).f2)] 37 (0, 0))) := ⟨au3_0⟩
                have n1_ : Aside0 (Below w.heap.size w (((w6.setCell ⟨gb104, 0, none⟩ (.string ((rd_T37 l0 x3_1).f0))).setCell ⟨gb104, 1, none⟩ (.string ((rd_T37 l0 x3_1).f1))).setCell ⟨gb104, 2, none⟩ (.string ((rd_T37 l0 x3_1).f2)))) := ⟨bl_⟩
                (try clear BK104)
                (try clear HB)
                generalize (((w6.setCell ⟨gb104, 0, none⟩ (.string ((rd_T37 l0 x3_1).f0))).setCell ⟨gb104, 1, none⟩ (.string ((rd_T37 l0 x3_1).f1))).setCell ⟨gb104, 2, none⟩ (.string ((rd_T37 l0 x3_1).f2))) = w28 at n0_ n1_ ⊢
                have BK104 := n0_
                have HB := n1_
                clear n0_ n1_
                have n0_ := Aside0.mk (blk_drew BK104.out)
                have n1_ := Aside0.mk (below_drew1 HB.out)
                clear BK104
                clear HB
                have BK104 := n0_
                have HB := n1_
                clear n0_ n1_
                refine start_ (n := 30) (S := fun w' => w'.cell? ⟨gb104, 0, none⟩ = some (.string ((rd_T37 l0 x3_1).f0)) ∧ w'.cell? ⟨gb104, 1, none⟩ = some (.string ((rd_T37 l0 x3_1).f1)) ∧ w'.cell? ⟨gb104, 2, none⟩ = some (.string ((rd_T37 l0 x3_1).f2))) (ds := []) (bs 30 0) (by kernel_rfl) rfl rfl ⟨(blk_cell BK104.out 0).trans rfl, (blk_cell BK104.out 1).trans rfl, (blk_cell BK104.out 2).trans rfl⟩ (fun hHeld => ?_); refine with_tabW spec_CrossRight.tab7 spec_CrossRight.bits7 (fun HT_ HW_ => ?_)
                generalize w28.drew = w29 at BK104 HB hHeld ⊢
                refine pu_ 0 19 (bs 30 1) HT_ ?_ rfl rfl
                refine tk_ 1 20 (bs 30 3) HT_ HW_ hHeld au3_2 ?_ rfl rfl
                refine one_ (i := 2) (N := some 21) (bs 30 7) rfl rfl (one_of HT_.out (by kernel_rfl)) (by decide) (fun K hK => ?_)
                refine gr_ Try.func54 #[.string ((rd_T37 l0 x3_1).f0)] (by rfl) ?_ rfl rfl rfl
                with_reducible refine (spec_l01Name.calls k1 ((rd_T37 l0 x3_1).f0) false _ A8.out).mono ?_
                rintro e w' ⟨rfl, ⟨nd, rfl⟩⟩
                refine ⟨_, rfl, ?_⟩
                refine hK.out _ _ ⟨(blk_cell BK104.out 0).trans rfl, (blk_cell BK104.out 1).trans rfl, (blk_cell BK104.out 2).trans rfl⟩ (fun hHeld => ?_)
                clear hK K
                refine norm_ (a' := ?_) ?_ ?_
                rotate_left
                · show Act.put _ (some 21) _ = _
                  simp only [Act.put, List.setIfInBounds_toArray, List.set_cons_zero, List.set_cons_succ, i64_w, i32_w]
                  rfl
                refine pu_ 3 22 (bs 30 15) HT_ ?_ rfl rfl
                refine pu_ 4 23 (bs 30 31) HT_ ?_ rfl rfl
                refine pv_ 5 24 (bs 30 63) HT_ ?_ rfl rfl
                refine pv_ 6 25 (bs 30 127) HT_ ?_ rfl rfl
                refine pv_ 7 26 (bs 30 255) HT_ ?_ rfl rfl
                refine pv_ 8 27 (bs 30 511) HT_ ?_ rfl rfl
                refine pu_ 9 28 (bs 30 1023) HT_ ?_ rfl rfl
                refine pu_ 10 29 (bs 30 2047) HT_ ?_ rfl rfl
                refine pv_ 11 30 (bs 30 4095) HT_ ?_ rfl rfl
                refine pv_ 12 31 (bs 30 8191) HT_ ?_ rfl rfl
                refine pv_ 13 32 (bs 30 16383) HT_ ?_ rfl rfl
                refine pv_ 14 33 (bs 30 32767) HT_ ?_ rfl rfl
                refine pu_ 15 34 (bs 30 65535) HT_ ?_ rfl rfl
                refine pu_ 16 35 (bs 30 131071) HT_ ?_ rfl rfl
                refine pv_ 17 36 (bs 30 262143) HT_ ?_ rfl rfl
                refine pv_ 18 37 (bs 30 524287) HT_ ?_ rfl rfl
                refine pv_ 19 38 (bs 30 1048575) HT_ ?_ rfl rfl
                refine pv_ 20 39 (bs 30 2097151) HT_ ?_ rfl rfl
                refine pv_ 21 40 (bs 30 4194303) HT_ ?_ rfl rfl
                refine pv_ 22 41 (bs 30 8388607) HT_ ?_ rfl rfl
                refine pv_ 23 42 (bs 30 16777215) HT_ ?_ rfl rfl
                refine pv_ 24 43 (bs 30 33554431) HT_ ?_ rfl rfl
                refine pv_ 25 44 (bs 30 67108863) HT_ ?_ rfl rfl
                refine pv_ 26 45 (bs 30 134217727) HT_ ?_ rfl rfl
                refine pv_ 27 46 (bs 30 268435455) HT_ ?_ rfl rfl
                refine pv_ 28 47 (bs 30 536870911) HT_ ?_ rfl rfl
                refine pu_ 29 48 (bs 30 1073741823) HT_ ?_ rfl rfl
                refine done_ (done_of HT_.out (by kernel_rfl)) ?_
                try go_wp2
                go_meet
                case rel => exact ⟨_, (true), er_, H', ⟨au3_5⟩, ⟨bk_ BK104⟩, ⟨bl_⟩⟩
            case rest =>
              clear HC5
              try clear c1
              try clear p2
              try clear c5
              try clear c9
              try clear c11
              obtain ⟨kq, x48_4, rfl, HA, HJ4, BK104, HB⟩ := hcut
              cases kq with
              | zero => exact absurd HA.out (by simp [spec_CrossRight.j1])
              | succ kj4 =>
                have H := HA.out
                clear HA
                simp only [spec_CrossRight.j1] at H
                by_cases c30 : x48_4 = true
                · subst c30
                  have H1 : (some false) = some r := by rw [if_pos rfl] at H; exact H
                  clear H
                  have H := H1
                  clear H1
                  obtain rfl := Option.some.inj H
                  go_wp2
                  go_ret
                  exact ⟨au3_4, bl_⟩
                · replace c30 := Bool.eq_false_iff.mpr c30
                  subst c30
                  have H1 : (spec_CrossRight.l1 kj4 l0 x3_1 0 ((rd_T37 l0 x3_1).f0) ((rd_T37 l0 x3_1).f1) ((rd_T37 l0 x3_1).f2)) = some r := by rw [if_neg (show ¬ (false = true) by decide)] at H; exact H
                  clear H
                  have H := H1
                  clear H1
                  have H' := Aside0.mk H
                  clear H
                  go_wp2
                  go_loopg [5] kj4 (fun kq v5 w' => ∃ (x5_3 : Int), v5 = .int .i64 x5_3 ∧ Aside0 (spec_CrossRight.l1 kq l0 x3_1 x5_3 ((rd_T37 l0 x3_1).f0) ((rd_T37 l0 x3_1).f1) ((rd_T37 l0 x3_1).f2) = some r) ∧ Aside0 (kq ≤ kj4) ∧ Aside0 (w'.heap[gb104]? = some (.cells #[.string ((rd_T37 l0 x3_1).f0), .string ((rd_T37 l0 x3_1).f1), .string ((rd_T37 l0 x3_1).f2)] 37 (0, 0))) ∧ Aside0 (Below w.heap.size w w'))
                  case atStart => exact ⟨(0), er_, H', ⟨Nat.le_refl _⟩, ⟨bk_ BK104⟩, ⟨bl_⟩⟩
                  case round =>
                    clear H'
                    try clear c1
                    try clear p2
                    try clear c3
                    try clear c5
                    try clear c9
                    try clear c11
                    try clear c30
                    try clear p2
                    obtain ⟨x5_3, rfl, HA, HK3, BK104, HB⟩ := hrel
                    cases gk with
                    | zero => exact absurd HA.out (by simp [spec_CrossRight.l1])
                    | succ k3 =>
                      have H := HA.out
                      clear HA
                      simp only [spec_CrossRight.l1] at H
                      by_cases c31 : x5_3 < x3_1
                      · rw [if_pos c31] at H
                        have c31b0 : decide (x5_3 < x3_1) = true := decide_eq_true c31
                        clear c31
                        by_cases c32 : 0 ≤ x5_3
                        · rw [if_pos c32] at H
                          have c32b0 : decide (0 ≤ x5_3) = true := decide_eq_true c32
                          clear c32
                          by_cases c33 : x5_3 < (l0.length : Int)
                          · rw [if_pos c33] at H
                            have c33b0 : decide (x5_3 < (l0.length : Int)) = true := decide_eq_true c33
                            clear c33
                            by_cases c34 : ((rd_T37 l0 x5_3).f0).toList = ((rd_T37 l0 x3_1).f0).toList
                            · rw [if_pos c34] at H
                              have c34b0 : (((rd_T37 l0 x5_3).f0).toList == ((rd_T37 l0 x3_1).f0).toList) = true := beq_iff_eq.mpr c34
                              have c34b1 : (((rd_T37 l0 x5_3).f0).toList != ((rd_T37 l0 x3_1).f0).toList) = false := bne_eq_false_iff_eq.mpr c34
                              clear c34
                              by_cases c35 : ((rd_T37 l0 x5_3).f2).toList = ((rd_T37 l0 x3_1).f2).toList
                              · rw [if_pos c35] at H
                                have c35b0 : (((rd_T37 l0 x5_3).f2).toList == ((rd_T37 l0 x3_1).f2).toList) = true := beq_iff_eq.mpr c35
                                have c35b1 : (((rd_T37 l0 x5_3).f2).toList != ((rd_T37 l0 x3_1).f2).toList) = false := bne_eq_false_iff_eq.mpr c35
                                clear c35
                                obtain rfl := Option.some.inj H
                                try go_wp2
                                have n0_ := Aside0.mk (blk_drew BK104.out)
                                have n1_ := Aside0.mk (below_drew1 HB.out)
                                clear BK104
                                clear HB
                                have BK104 := n0_
                                have HB := n1_
                                clear n0_ n1_
                                have p110 : 0 ≤ (x5_3 : Int) := of_decide_eq_true as_
                                have q110 : x5_3 < (l0.length : Int) := of_decide_eq_true as_
                                obtain ⟨ad110, e110, hx110_0, hx110_1, hx110_2⟩ := at_T37 HR0.out x5_3 p110 q110
                                have hw110_2 := hx110_2
                                have hw110_1 := hx110_1
                                have hw110_0 := hx110_0
                                obtain rfl : ad103 = ad110 := (by injection e110)
                                replace hx110_0 := (HB.out.cell (World.block_lt_of_cell? _ _ hx110_0)).trans hx110_0
                                replace hx110_1 := (HB.out.cell (World.block_lt_of_cell? _ _ hx110_1)).trans hx110_1
                                replace hx110_2 := (HB.out.cell (World.block_lt_of_cell? _ _ hx110_2)).trans hx110_2
                                replace p110 := eq_true p110
                                replace q110 := eq_true q110
                                have p111 : 0 ≤ (x5_3 : Int) := of_decide_eq_true as_
                                have q111 : x5_3 < (l0.length : Int) := of_decide_eq_true as_
                                obtain ⟨ad111, e111, hx111_0, hx111_1, hx111_2⟩ := at_T37 HR0.out x5_3 p111 q111
                                have hw111_2 := hx111_2
                                have hw111_1 := hx111_1
                                have hw111_0 := hx111_0
                                obtain rfl : ad103 = ad111 := (by injection e111)
                                replace hx111_0 := (HB.out.cell (World.block_lt_of_cell? _ _ hx111_0)).trans hx111_0
                                replace hx111_1 := (HB.out.cell (World.block_lt_of_cell? _ _ hx111_1)).trans hx111_1
                                replace hx111_2 := (HB.out.cell (World.block_lt_of_cell? _ _ hx111_2)).trans hx111_2
                                replace p111 := eq_true p111
                                replace q111 := eq_true q111
                                refine start_ (n := 18) (S := fun w' => w'.cell? ⟨gb104, 0, none⟩ = some (.string ((rd_T37 l0 x3_1).f0)) ∧ w'.cell? ⟨gb104, 1, none⟩ = some (.string ((rd_T37 l0 x3_1).f1)) ∧ w'.cell? ⟨gb104, 2, none⟩ = some (.string ((rd_T37 l0 x3_1).f2)) ∧ w'.cell? (ad103.add ((x5_3).toNat * 3)) = some (.string ((rd_T37 l0 x5_3).f0)) ∧ w'.cell? ⟨(ad103.add ((x5_3).toNat * 3)).block, (ad103.add ((x5_3).toNat * 3)).off + 1, none⟩ = some (.string ((rd_T37 l0 x5_3).f1)) ∧ w'.cell? ⟨(ad103.add ((x5_3).toNat * 3)).block, (ad103.add ((x5_3).toNat * 3)).off + 2, none⟩ = some (.string ((rd_T37 l0 x5_3).f2)) ∧ w'.cell? (ad103.add ((x5_3).toNat * 3)) = some (.string ((rd_T37 l0 x5_3).f0)) ∧ w'.cell? ⟨(ad103.add ((x5_3).toNat * 3)).block, (ad103.add ((x5_3).toNat * 3)).off + 1, none⟩ = some (.string ((rd_T37 l0 x5_3).f1)) ∧ w'.cell? ⟨(ad103.add ((x5_3).toNat * 3)).block, (ad103.add ((x5_3).toNat * 3)).off + 2, none⟩ = some (.string ((rd_T37 l0 x5_3).f2))) (ds := []) (bs 18 0) (by kernel_rfl) rfl rfl ⟨(blk_cell BK104.out 0).trans rfl, (blk_cell BK104.out 1).trans rfl, (blk_cell BK104.out 2).trans rfl, ((HB.out.cell (World.block_lt_of_cell? _ _ hw110_0)).trans hw110_0), ((HB.out.cell (World.block_lt_of_cell? _ _ hw110_1)).trans hw110_1), ((HB.out.cell (World.block_lt_of_cell? _ _ hw110_2)).trans hw110_2), ((HB.out.cell (World.block_lt_of_cell? _ _ hw111_0)).trans hw111_0), ((HB.out.cell (World.block_lt_of_cell? _ _ hw111_1)).trans hw111_1), ((HB.out.cell (World.block_lt_of_cell? _ _ hw111_2)).trans hw111_2)⟩ (fun hHeld => ?_); refine with_tabW spec_CrossRight.tab12 spec_CrossRight.bits12 (fun HT_ HW_ => ?_)
                                generalize wr.drew = w36 at BK104 HB hx110_0 hx110_1 hx110_2 hx111_0 hx111_1 hx111_2 hHeld ⊢
                                refine pu_ 0 54 (bs 18 1) HT_ ?_ rfl rfl
                                refine pu_ 1 55 (bs 18 3) HT_ ?_ rfl rfl
                                refine pu_ 2 56 (bs 18 7) HT_ ?_ rfl rfl
                                refine pu_ 3 57 (bs 18 15) HT_ ?_ rfl rfl
                                refine pu_ 5 59 (bs 18 47) HT_ ?_ rfl rfl
                                refine tk_ 4 58 (bs 18 63) HT_ HW_ hHeld au3_1 ?_ rfl rfl
                                refine tk_ 6 60 (bs 18 127) HT_ HW_ hHeld au3_1 ?_ rfl rfl
                                refine pu_ 7 61 (bs 18 255) HT_ ?_ rfl rfl
                                refine pu_ 8 62 (bs 18 511) HT_ ?_ rfl rfl
                                refine pu_ 9 63 (bs 18 1023) HT_ ?_ rfl rfl
                                refine pu_ 10 64 (bs 18 2047) HT_ ?_ rfl rfl
                                refine pu_ 11 65 (bs 18 4095) HT_ ?_ rfl rfl
                                refine pu_ 12 66 (bs 18 8191) HT_ ?_ rfl rfl
                                refine pu_ 14 68 (bs 18 24575) HT_ ?_ rfl rfl
                                refine tk_ 13 67 (bs 18 32767) HT_ HW_ hHeld au3_1 ?_ rfl rfl
                                refine tk_ 15 69 (bs 18 65535) HT_ HW_ hHeld au3_1 ?_ rfl rfl
                                refine pu_ 16 70 (bs 18 131071) HT_ ?_ rfl rfl
                                refine pu_ 17 71 (bs 18 262143) HT_ ?_ rfl rfl
                                refine done_ (done_of HT_.out (by kernel_rfl)) ?_
                                try go_wp2
                                go_ret
                                exact ⟨au3_4, bl_⟩
                              · rw [if_neg c35] at H
                                have c35b0 : (((rd_T37 l0 x5_3).f2).toList == ((rd_T37 l0 x3_1).f2).toList) = false := beq_eq_false_iff_ne.mpr c35
                                have c35b1 : (((rd_T37 l0 x5_3).f2).toList != ((rd_T37 l0 x3_1).f2).toList) = true := bne_iff_ne.mpr c35
                                have H' := Aside0.mk H
                                clear H
                                try go_wp2
                                have n0_ := Aside0.mk (blk_drew BK104.out)
                                have n1_ := Aside0.mk (below_drew1 HB.out)
                                clear BK104
                                clear HB
                                have BK104 := n0_
                                have HB := n1_
                                clear n0_ n1_
                                have p110 : 0 ≤ (x5_3 : Int) := of_decide_eq_true as_
                                have q110 : x5_3 < (l0.length : Int) := of_decide_eq_true as_
                                obtain ⟨ad110, e110, hx110_0, hx110_1, hx110_2⟩ := at_T37 HR0.out x5_3 p110 q110
                                have hw110_2 := hx110_2
                                have hw110_1 := hx110_1
                                have hw110_0 := hx110_0
                                obtain rfl : ad103 = ad110 := (by injection e110)
                                replace hx110_0 := (HB.out.cell (World.block_lt_of_cell? _ _ hx110_0)).trans hx110_0
                                replace hx110_1 := (HB.out.cell (World.block_lt_of_cell? _ _ hx110_1)).trans hx110_1
                                replace hx110_2 := (HB.out.cell (World.block_lt_of_cell? _ _ hx110_2)).trans hx110_2
                                replace p110 := eq_true p110
                                replace q110 := eq_true q110
                                have p111 : 0 ≤ (x5_3 : Int) := of_decide_eq_true as_
                                have q111 : x5_3 < (l0.length : Int) := of_decide_eq_true as_
                                obtain ⟨ad111, e111, hx111_0, hx111_1, hx111_2⟩ := at_T37 HR0.out x5_3 p111 q111
                                have hw111_2 := hx111_2
                                have hw111_1 := hx111_1
                                have hw111_0 := hx111_0
                                obtain rfl : ad103 = ad111 := (by injection e111)
                                replace hx111_0 := (HB.out.cell (World.block_lt_of_cell? _ _ hx111_0)).trans hx111_0
                                replace hx111_1 := (HB.out.cell (World.block_lt_of_cell? _ _ hx111_1)).trans hx111_1
                                replace hx111_2 := (HB.out.cell (World.block_lt_of_cell? _ _ hx111_2)).trans hx111_2
                                replace p111 := eq_true p111
                                replace q111 := eq_true q111
                                refine start_ (n := 18) (S := fun w' => w'.cell? ⟨gb104, 0, none⟩ = some (.string ((rd_T37 l0 x3_1).f0)) ∧ w'.cell? ⟨gb104, 1, none⟩ = some (.string ((rd_T37 l0 x3_1).f1)) ∧ w'.cell? ⟨gb104, 2, none⟩ = some (.string ((rd_T37 l0 x3_1).f2)) ∧ w'.cell? (ad103.add ((x5_3).toNat * 3)) = some (.string ((rd_T37 l0 x5_3).f0)) ∧ w'.cell? ⟨(ad103.add ((x5_3).toNat * 3)).block, (ad103.add ((x5_3).toNat * 3)).off + 1, none⟩ = some (.string ((rd_T37 l0 x5_3).f1)) ∧ w'.cell? ⟨(ad103.add ((x5_3).toNat * 3)).block, (ad103.add ((x5_3).toNat * 3)).off + 2, none⟩ = some (.string ((rd_T37 l0 x5_3).f2)) ∧ w'.cell? (ad103.add ((x5_3).toNat * 3)) = some (.string ((rd_T37 l0 x5_3).f0)) ∧ w'.cell? ⟨(ad103.add ((x5_3).toNat * 3)).block, (ad103.add ((x5_3).toNat * 3)).off + 1, none⟩ = some (.string ((rd_T37 l0 x5_3).f1)) ∧ w'.cell? ⟨(ad103.add ((x5_3).toNat * 3)).block, (ad103.add ((x5_3).toNat * 3)).off + 2, none⟩ = some (.string ((rd_T37 l0 x5_3).f2))) (ds := []) (bs 18 0) (by kernel_rfl) rfl rfl ⟨(blk_cell BK104.out 0).trans rfl, (blk_cell BK104.out 1).trans rfl, (blk_cell BK104.out 2).trans rfl, ((HB.out.cell (World.block_lt_of_cell? _ _ hw110_0)).trans hw110_0), ((HB.out.cell (World.block_lt_of_cell? _ _ hw110_1)).trans hw110_1), ((HB.out.cell (World.block_lt_of_cell? _ _ hw110_2)).trans hw110_2), ((HB.out.cell (World.block_lt_of_cell? _ _ hw111_0)).trans hw111_0), ((HB.out.cell (World.block_lt_of_cell? _ _ hw111_1)).trans hw111_1), ((HB.out.cell (World.block_lt_of_cell? _ _ hw111_2)).trans hw111_2)⟩ (fun hHeld => ?_); refine with_tabW spec_CrossRight.tab12 spec_CrossRight.bits12 (fun HT_ HW_ => ?_)
                                generalize wr.drew = w37 at BK104 HB hx110_0 hx110_1 hx110_2 hx111_0 hx111_1 hx111_2 hHeld ⊢
                                refine pu_ 0 54 (bs 18 1) HT_ ?_ rfl rfl
                                refine pu_ 1 55 (bs 18 3) HT_ ?_ rfl rfl
                                refine pu_ 2 56 (bs 18 7) HT_ ?_ rfl rfl
                                refine pu_ 3 57 (bs 18 15) HT_ ?_ rfl rfl
                                refine pu_ 5 59 (bs 18 47) HT_ ?_ rfl rfl
                                refine tk_ 4 58 (bs 18 63) HT_ HW_ hHeld au3_1 ?_ rfl rfl
                                refine tk_ 6 60 (bs 18 127) HT_ HW_ hHeld au3_1 ?_ rfl rfl
                                refine pu_ 7 61 (bs 18 255) HT_ ?_ rfl rfl
                                refine pu_ 8 62 (bs 18 511) HT_ ?_ rfl rfl
                                refine pu_ 9 63 (bs 18 1023) HT_ ?_ rfl rfl
                                refine pu_ 10 64 (bs 18 2047) HT_ ?_ rfl rfl
                                refine pu_ 11 65 (bs 18 4095) HT_ ?_ rfl rfl
                                refine pu_ 12 66 (bs 18 8191) HT_ ?_ rfl rfl
                                refine pu_ 14 68 (bs 18 24575) HT_ ?_ rfl rfl
                                refine tk_ 13 67 (bs 18 32767) HT_ HW_ hHeld au3_1 ?_ rfl rfl
                                refine tk_ 15 69 (bs 18 65535) HT_ HW_ hHeld au3_1 ?_ rfl rfl
                                refine pu_ 16 70 (bs 18 131071) HT_ ?_ rfl rfl
                                refine pu_ 17 71 (bs 18 262143) HT_ ?_ rfl rfl
                                refine done_ (done_of HT_.out (by kernel_rfl)) ?_
                                try go_wp2
                                go_roundg k3
                                case measure => have := HK1.out; have := HJ4.out; have := HK3.out; omega
                                case rel => exact ⟨(wrap64 (x5_3 + 1)), er_, H', ⟨au3_6⟩, ⟨bk_ BK104⟩, ⟨bl_⟩⟩
                            · rw [if_neg c34] at H
                              have c34b0 : (((rd_T37 l0 x5_3).f0).toList == ((rd_T37 l0 x3_1).f0).toList) = false := beq_eq_false_iff_ne.mpr c34
                              have c34b1 : (((rd_T37 l0 x5_3).f0).toList != ((rd_T37 l0 x3_1).f0).toList) = true := bne_iff_ne.mpr c34
                              have H' := Aside0.mk H
                              clear H
                              try go_wp2
                              have n0_ := Aside0.mk (blk_drew BK104.out)
                              have n1_ := Aside0.mk (below_drew1 HB.out)
                              clear BK104
                              clear HB
                              have BK104 := n0_
                              have HB := n1_
                              clear n0_ n1_
                              have p110 : 0 ≤ (x5_3 : Int) := of_decide_eq_true as_
                              have q110 : x5_3 < (l0.length : Int) := of_decide_eq_true as_
                              obtain ⟨ad110, e110, hx110_0, hx110_1, hx110_2⟩ := at_T37 HR0.out x5_3 p110 q110
                              have hw110_2 := hx110_2
                              have hw110_1 := hx110_1
                              have hw110_0 := hx110_0
                              obtain rfl : ad103 = ad110 := (by injection e110)
                              replace hx110_0 := (HB.out.cell (World.block_lt_of_cell? _ _ hx110_0)).trans hx110_0
                              replace hx110_1 := (HB.out.cell (World.block_lt_of_cell? _ _ hx110_1)).trans hx110_1
                              replace hx110_2 := (HB.out.cell (World.block_lt_of_cell? _ _ hx110_2)).trans hx110_2
                              replace p110 := eq_true p110
                              replace q110 := eq_true q110
                              refine start_ (n := 18) (S := fun w' => w'.cell? ⟨gb104, 0, none⟩ = some (.string ((rd_T37 l0 x3_1).f0)) ∧ w'.cell? ⟨gb104, 1, none⟩ = some (.string ((rd_T37 l0 x3_1).f1)) ∧ w'.cell? ⟨gb104, 2, none⟩ = some (.string ((rd_T37 l0 x3_1).f2)) ∧ w'.cell? (ad103.add ((x5_3).toNat * 3)) = some (.string ((rd_T37 l0 x5_3).f0)) ∧ w'.cell? ⟨(ad103.add ((x5_3).toNat * 3)).block, (ad103.add ((x5_3).toNat * 3)).off + 1, none⟩ = some (.string ((rd_T37 l0 x5_3).f1)) ∧ w'.cell? ⟨(ad103.add ((x5_3).toNat * 3)).block, (ad103.add ((x5_3).toNat * 3)).off + 2, none⟩ = some (.string ((rd_T37 l0 x5_3).f2))) (ds := []) (bs 18 0) (by kernel_rfl) rfl rfl ⟨(blk_cell BK104.out 0).trans rfl, (blk_cell BK104.out 1).trans rfl, (blk_cell BK104.out 2).trans rfl, ((HB.out.cell (World.block_lt_of_cell? _ _ hw110_0)).trans hw110_0), ((HB.out.cell (World.block_lt_of_cell? _ _ hw110_1)).trans hw110_1), ((HB.out.cell (World.block_lt_of_cell? _ _ hw110_2)).trans hw110_2)⟩ (fun hHeld => ?_); refine with_tabW spec_CrossRight.tab12 spec_CrossRight.bits12 (fun HT_ HW_ => ?_)
                              generalize wr.drew = w38 at BK104 HB hx110_0 hx110_1 hx110_2 hHeld ⊢
                              refine pu_ 0 54 (bs 18 1) HT_ ?_ rfl rfl
                              refine pu_ 1 55 (bs 18 3) HT_ ?_ rfl rfl
                              refine pu_ 2 56 (bs 18 7) HT_ ?_ rfl rfl
                              refine pu_ 3 57 (bs 18 15) HT_ ?_ rfl rfl
                              refine pu_ 5 59 (bs 18 47) HT_ ?_ rfl rfl
                              refine tk_ 4 58 (bs 18 63) HT_ HW_ hHeld au3_3 ?_ rfl rfl
                              refine tk_ 6 60 (bs 18 127) HT_ HW_ hHeld au3_3 ?_ rfl rfl
                              refine pu_ 7 61 (bs 18 255) HT_ ?_ rfl rfl
                              refine pu_ 8 62 (bs 18 511) HT_ ?_ rfl rfl
                              refine pv_ 9 63 (bs 18 1023) HT_ ?_ rfl rfl
                              refine pv_ 10 64 (bs 18 2047) HT_ ?_ rfl rfl
                              refine pv_ 11 65 (bs 18 4095) HT_ ?_ rfl rfl
                              refine pv_ 12 66 (bs 18 8191) HT_ ?_ rfl rfl
                              refine pv_ 13 67 (bs 18 16383) HT_ ?_ rfl rfl
                              refine pv_ 14 68 (bs 18 32767) HT_ ?_ rfl rfl
                              refine pv_ 15 69 (bs 18 65535) HT_ ?_ rfl rfl
                              refine pv_ 16 70 (bs 18 131071) HT_ ?_ rfl rfl
                              refine pu_ 17 71 (bs 18 262143) HT_ ?_ rfl rfl
                              refine done_ (done_of HT_.out (by kernel_rfl)) ?_
                              try go_wp2
                              go_roundg k3
                              case measure => have := HK1.out; have := HJ4.out; have := HK3.out; omega
                              case rel => exact ⟨(wrap64 (x5_3 + 1)), er_, H', ⟨au3_6⟩, ⟨bk_ BK104⟩, ⟨bl_⟩⟩
                          · rw [if_neg c33] at H
                            exact absurd H (by simp)
                        · rw [if_neg c32] at H
                          exact absurd H (by simp)
                      · rw [if_neg c31] at H
                        have c31b0 : decide (x5_3 < x3_1) = false := decide_eq_false c31
                        clear c31
                        have H' := Aside0.mk H
                        clear H
                        go_wp2
                        go_roundg k3
                        case measure => have := HK1.out; have := HJ4.out; have := HK3.out; omega
                        case rel => exact ⟨(wrap64 (x3_1 + 1)), er_, H', ⟨au3_6⟩, ⟨bl_⟩⟩
          · rw [if_neg c4] at H
            exact absurd H (by simp)
        · rw [if_neg c3] at H
          have c3b0 : decide (x3_1 < (l0.length : Int)) = false := decide_eq_false c3
          clear c3
          obtain rfl := Option.some.inj H
          go_wp2
          go_ret
          exact ⟨au3_4, bl_⟩

end Go.Proofs.Ytjffakoifpldeaa.PFnCross
