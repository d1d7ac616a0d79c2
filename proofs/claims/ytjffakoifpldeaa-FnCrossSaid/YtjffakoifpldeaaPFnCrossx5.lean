-- printed by a program of this session (wip/xp/xprint.py) out of the translation; Lean checks it
import Derived.Test.YtjffakoifpldeaaPFnCrossx0
import Derived.Test.YtjffakoifpldeaaPFnCrossx4
namespace Go.Proofs.Ytjffakoifpldeaa.PFnCross
open Go.RowKit Go.Proofs.YtjffakoifpldeaaW.PrintWords Go.Proofs.YtjffakoifpldeaaW.PrintLast Go.Proofs.YtjffakoifpldeaaW.PrintMore
attribute [local go_sem] max2_int min2_int max_two min_two max_three min_three max_four min_four   -- for this text's walks alone
set_option linter.unusedVariables false
set_option linter.unusedSimpArgs false

theorem au5_0 {p : Prop} (h : p := by (with_reducible repeat (first | refine blk_drewN ?_ _ | refine blk_drew ?_ | refine blk_alloc ?_ _)); refine blk_put (cs := #[.string ((rd_T37 l0 x10_1).f0), .string ((rd_T37 l0 x10_1).f1), .string (⟨#[]⟩ : ByteArray)]) ?_ 2 _ rfl; (with_reducible repeat (first | refine blk_drewN ?_ _ | refine blk_drew ?_ | refine blk_alloc ?_ _)); refine blk_put (cs := #[.string ((rd_T37 l0 x10_1).f0), .string (⟨#[]⟩ : ByteArray), .string (⟨#[]⟩ : ByteArray)]) ?_ 1 _ rfl; (with_reducible repeat (first | refine blk_drewN ?_ _ | refine blk_drew ?_ | refine blk_alloc ?_ _)); refine blk_put (cs := #[.string (⟨#[]⟩ : ByteArray), .string (⟨#[]⟩ : ByteArray), .string (⟨#[]⟩ : ByteArray)]) ?_ 0 _ rfl; (with_reducible repeat (first | refine blk_drewN ?_ _ | refine blk_drew ?_ | refine blk_alloc ?_ _)); exact BK131.out) : p := h
theorem au5_1 {p : Prop} (h : p := by rintro w' ⟨s0, s1, s2⟩; go_simp; with_reducible rfl) : p := h
theorem au5_2 {p : Prop} (h : p := by first | rfl | (simp [errW_none, errW_some] <;> rfl) | (simp [*, errW_none, errW_some] <;> rfl)) : p := h
theorem au5_3 {p : Prop} (h : p := by rintro w' ⟨s0, s1, s2, s3, s4, s5⟩; go_simp; with_reducible rfl) : p := h
theorem au5_4 {p : Prop} (h : p := by have := HK1.out; first | omega | exact Nat.le_refl _) : p := h
theorem au5_5 {p : Prop} (h : p := by repeat (first | exact (Kd.C_below HR140.out HB.out) | (with_reducible refine Kd.C_alloc ?_ _) | (with_reducible refine Kd.C_drewN ?_ _) | (with_reducible refine Kd.C_drew ?_))) : p := h

/-! ### impl_CrossRight: function 17 -/
mutual
def impl_CrossRight.l0 : Nat → List (S37) → List (S37) → Int → Int → Option (Bool)
  | 0, _, _, _, _ => none
  | k + 1, x0, x8, x9, x10 => if x10 < x9 then (if 0 ≤ x10 then (if x10 < (x8.length : Int) then ((impl_isName.f k ((rd_T37 x8 x10).f0)).bind fun t132 => (if t132 = true then ((impl_isName.f k ((rd_T37 x8 x10).f1)).bind fun t133 => (if t133 = true then ((impl_isName.f k ((rd_T37 x8 x10).f2)).bind fun t134 => (if t134 = true then (if x10 > 0 then (if 0 ≤ (wrap64 (x10 - 1)) then (if (wrap64 (x10 - 1)) < (x0.length : Int) then ((impl_crossOrder.f k ((rd_T37 x0 (wrap64 (x10 - 1))).f0) ((rd_T37 x0 (wrap64 (x10 - 1))).f1) ((rd_T37 x0 (wrap64 (x10 - 1))).f2) ((rd_T37 x8 x10).f0) ((rd_T37 x8 x10).f1) ((rd_T37 x8 x10).f2)).bind fun t136 => (impl_CrossRight.j1 k x0 x10 x8 x9 x10 (decide (t136 ≥ 0)) ((rd_T37 x8 x10).f0) ((rd_T37 x8 x10).f1) ((rd_T37 x8 x10).f2))) else (none)) else (none)) else (impl_CrossRight.j1 k x0 x10 x8 x9 x10 false ((rd_T37 x8 x10).f0) ((rd_T37 x8 x10).f1) ((rd_T37 x8 x10).f2))) else (impl_CrossRight.j1 k x0 x10 x8 x9 x10 true ((rd_T37 x8 x10).f0) ((rd_T37 x8 x10).f1) ((rd_T37 x8 x10).f2)))) else (impl_CrossRight.j1 k x0 x10 x8 x9 x10 true ((rd_T37 x8 x10).f0) ((rd_T37 x8 x10).f1) ((rd_T37 x8 x10).f2)))) else (impl_CrossRight.j1 k x0 x10 x8 x9 x10 true ((rd_T37 x8 x10).f0) ((rd_T37 x8 x10).f1) ((rd_T37 x8 x10).f2)))) else (none)) else (none)) else (some true)
def impl_CrossRight.j1 : Nat → List (S37) → Int → List (S37) → Int → Int → Bool → ByteArray → ByteArray → ByteArray → Option (Bool)
  | 0, _, _, _, _, _, _, _, _, _ => none
  | k + 1, x0, x3, x8, x9, x10, x44, x132000, x132001, x132002 => if x44 = true then (some false) else (if 0 ≤ x3 then (if x3 ≤ (x0.length : Int) then ((impl_Cross_58__impl_CrossRight_1.f k (x0.take (x3 : Int).toNat) x132000 x132001 x132002).bind fun t141 => (if t141 = true then (some false) else (impl_CrossRight.l0 k x0 x8 x9 (wrap64 (x10 + 1))))) else (none)) else (none))
end
def impl_CrossRight.f (k : Nat) (l0 : List (S37)) : Option (Bool) := if (l0.length : Int) > 200 then (some false) else (impl_CrossRight.l0 k l0 l0 (l0.length : Int) 0)
theorem impl_CrossRight.mono_l : ∀ k, (∀ y0 y1 y2 y3, LeO (impl_CrossRight.l0 k y0 y1 y2 y3) (impl_CrossRight.l0 (k + 1) y0 y1 y2 y3)) ∧ (∀ y0 y1 y2 y3 y4 y5 y6 y7 y8, LeO (impl_CrossRight.j1 k y0 y1 y2 y3 y4 y5 y6 y7 y8) (impl_CrossRight.j1 (k + 1) y0 y1 y2 y3 y4 y5 y6 y7 y8))
  | 0 => ⟨fun _ _ _ _ r h => by simp [impl_CrossRight.l0] at h, fun _ _ _ _ _ _ _ _ _ r h => by simp [impl_CrossRight.j1] at h⟩
  | k + 1 => by
    obtain ⟨ih0, ih1⟩ := impl_CrossRight.mono_l k
    refine ⟨?_, ?_⟩
    · intro y0 y1 y2 y3
      unfold impl_CrossRight.l0
      repeat' first
      | (with_reducible exact ih0 _ _ _ _)
      | (with_reducible exact ih1 _ _ _ _ _ _ _ _ _)
      | (with_reducible exact impl_Cross_58__impl_CrossRight_1.mono _ _ _ _ _)
      | (with_reducible exact impl_crossOrder.mono _ _ _ _ _ _ _)
      | (with_reducible exact impl_isName.mono _ _)
      | (with_reducible exact LeO.refl _)
      | (with_reducible exact LeO.none _)
      | (with_reducible refine LeO.ite ?_ ?_)
      | (with_reducible refine LeO.bind ?_ (fun _ => ?_))
      | exact ih0 _ _ _ _
      | exact ih1 _ _ _ _ _ _ _ _ _
      | exact impl_Cross_58__impl_CrossRight_1.mono _ _ _ _ _
      | exact impl_crossOrder.mono _ _ _ _ _ _ _
      | exact impl_isName.mono _ _
      | exact LeO.none _
      | refine LeO.ite ?_ ?_
      | refine LeO.bind ?_ (fun _ => ?_)
    · intro y0 y1 y2 y3 y4 y5 y6 y7 y8
      unfold impl_CrossRight.j1
      repeat' first
      | (with_reducible exact ih0 _ _ _ _)
      | (with_reducible exact ih1 _ _ _ _ _ _ _ _ _)
      | (with_reducible exact impl_Cross_58__impl_CrossRight_1.mono _ _ _ _ _)
      | (with_reducible exact impl_crossOrder.mono _ _ _ _ _ _ _)
      | (with_reducible exact impl_isName.mono _ _)
      | (with_reducible exact LeO.refl _)
      | (with_reducible exact LeO.none _)
      | (with_reducible refine LeO.ite ?_ ?_)
      | (with_reducible refine LeO.bind ?_ (fun _ => ?_))
      | exact ih0 _ _ _ _
      | exact ih1 _ _ _ _ _ _ _ _ _
      | exact impl_Cross_58__impl_CrossRight_1.mono _ _ _ _ _
      | exact impl_crossOrder.mono _ _ _ _ _ _ _
      | exact impl_isName.mono _ _
      | exact LeO.none _
      | refine LeO.ite ?_ ?_
      | refine LeO.bind ?_ (fun _ => ?_)
theorem impl_CrossRight.mono : ∀ a0 k, LeO (impl_CrossRight.f k a0) (impl_CrossRight.f (k + 1) a0) := by
  intro a0 k
  obtain ⟨ih0, ih1⟩ := impl_CrossRight.mono_l k
  unfold impl_CrossRight.f
  repeat' first
      | (with_reducible exact ih0 _ _ _ _)
      | (with_reducible exact ih1 _ _ _ _ _ _ _ _ _)
      | (with_reducible exact impl_Cross_58__impl_CrossRight_1.mono _ _ _ _ _)
      | (with_reducible exact impl_crossOrder.mono _ _ _ _ _ _ _)
      | (with_reducible exact impl_isName.mono _ _)
      | (with_reducible exact LeO.refl _)
      | (with_reducible exact LeO.none _)
      | (with_reducible refine LeO.ite ?_ ?_)
      | (with_reducible refine LeO.bind ?_ (fun _ => ?_))
      | exact ih0 _ _ _ _
      | exact ih1 _ _ _ _ _ _ _ _ _
      | exact impl_Cross_58__impl_CrossRight_1.mono _ _ _ _ _
      | exact impl_crossOrder.mono _ _ _ _ _ _ _
      | exact impl_isName.mono _ _
      | exact LeO.none _
      | refine LeO.ite ?_ ?_
      | refine LeO.bind ?_ (fun _ => ?_)
def impl_CrossRight.T6 : Bool × List (List Nat × List Nat) := (true, [([], []), ([0], [0]), ([1], [1]), ([2], [2]), ([3, 2], [3]), ([4], [4]), ([5, 4], [4, 5]), ([6, 4, 4], [4, 6]), ([7, 4], [4, 7]), ([4, 8], [4, 8]), ([9, 7], [9]), ([10], [10]), ([11, 10], [10, 11]), ([12, 10, 10], [10, 12]), ([13, 10], [10, 13]), ([10, 14], [10, 14]), ([15, 13], [15]), ([16], [16]), ([17, 16], [16, 17]), ([18, 16, 16], [16, 18]), ([19], [19]), ([19], [19]), ([21, 19], [19, 21]), ([20, 22, 19], [19, 20, 22]), ([23, 19], [19, 23]), ([19], [19]), ([24, 25, 19, 19], [19, 24, 25]), ([26, 19], [19, 26]), ([19, 27, 16], [16, 19, 27]), ([16, 28], [16, 28])])
def impl_CrossRight.B6 : List Nat := [0, 1, 3, 7, 15, 31, 63, 127, 255, 511, 1023, 2047, 4095, 8191, 16383, 32767, 65535, 131071, 262143, 524287, 1048575, 1048575, 3145727, 8388607, 16777215, 1048575, 67108863, 134217727, 268435455, 536870911]
theorem impl_CrossRight.tab6 : rtab .any (opsOf Try.f17 6) = impl_CrossRight.T6 := by kernel_rfl
theorem impl_CrossRight.bits6 : waitsOk impl_CrossRight.T6.2 impl_CrossRight.B6 = true := by kernel_rfl
set_option maxHeartbeats 8000000 in
set_option maxRecDepth 100000 in
theorem impl_CrossRight.calls (k : Nat) (A0 : Option Addr) (c0 : Nat) (l0 : List (S37)) (r : Bool) (w : World) (hr0 : Kd.C k37 w A0 l0.length l0) (hc0 : l0.length ≤ c0) (h : impl_CrossRight.f k l0 = some r) :
    Calls Try.prog 17 #[.slice A0 l0.length c0] w fun e w' => e = .returned (.bool r) ∧ Below w.heap.size w w' := by
  have hu37 := Try.underlying37
  have HR0 := Aside0.mk hr0
  have HC0 := Aside0.mk hc0
  clear hr0 hc0
  have HB := Aside0.mk (Below.refl w.heap.size w)
  have H : (if (l0.length : Int) > 200 then (some false) else (impl_CrossRight.l0 k l0 l0 (l0.length : Int) 0)) = some r := h
  clear h
  by_cases c2 : (l0.length : Int) > 200
  · rw [if_pos c2] at H
    have c2b0 : decide (200 < (l0.length : Int)) = true := decide_eq_true c2
    have c2b1 : decide (200 < l0.length) = true := decide_eq_true (by omega)
    clear c2
    obtain rfl := Option.some.inj H
    go_enter Try.func17, Try.ntmps17
    go_wp2
    go_ret
    exact ⟨au5_2, bl_⟩
  · rw [if_neg c2] at H
    have c2b0 : decide (200 < (l0.length : Int)) = false := decide_eq_false c2
    have c2b1 : decide (200 < l0.length) = false := decide_eq_false (by omega)
    clear c2
    have H' := Aside0.mk H
    clear H
    go_enter Try.func17, Try.ntmps17
    go_wp2
    go_loopg [10] k (fun kq v10 w' => ∃ (x10_1 : Int), v10 = .int .i64 x10_1 ∧ Aside0 (impl_CrossRight.l0 kq l0 l0 (l0.length : Int) x10_1 = some r) ∧ Aside0 (kq ≤ k) ∧ Aside0 (Below w.heap.size w w'))
    case atStart => exact ⟨(0), er_, H', ⟨Nat.le_refl _⟩, ⟨bl_⟩⟩
    case round =>
      clear H'
      try clear c1
      try clear c2
      try clear c2b0
      try clear c2b1
      try clear p2
      obtain ⟨x10_1, rfl, HA, HK1, HB⟩ := hrel
      cases gk with
      | zero => exact absurd HA.out (by simp [impl_CrossRight.l0])
      | succ k1 =>
        have H := HA.out
        clear HA
        simp only [impl_CrossRight.l0] at H
        by_cases c3 : x10_1 < (l0.length : Int)
        · rw [if_pos c3] at H
          have c3b0 : decide (x10_1 < (l0.length : Int)) = true := decide_eq_true c3
          clear c3
          by_cases c4 : 0 ≤ x10_1
          · rw [if_pos c4] at H
            have c4b0 : decide (0 ≤ x10_1) = true := decide_eq_true c4
            clear c4
            by_cases c5 : x10_1 < (l0.length : Int)
            · rw [if_pos c5] at H
              have c5b0 : decide (x10_1 < (l0.length : Int)) = true := decide_eq_true c5
              clear c5
              have HC6 := Aside0.mk H
              clear H
              have p130 : 0 ≤ (x10_1 : Int) := of_decide_eq_true as_
              have q130 : x10_1 < (l0.length : Int) := of_decide_eq_true as_
              obtain ⟨ad130, e130, hx130_0, hx130_1, hx130_2⟩ := at_T37 HR0.out x10_1 p130 q130
              cases e130
              replace hx130_0 := (HB.out.cell (World.block_lt_of_cell? _ _ hx130_0)).trans hx130_0
              replace hx130_1 := (HB.out.cell (World.block_lt_of_cell? _ _ hx130_1)).trans hx130_1
              replace hx130_2 := (HB.out.cell (World.block_lt_of_cell? _ _ hx130_2)).trans hx130_2
              replace p130 := eq_true p130
              replace q130 := eq_true q130
              go_upto_region 6 with (first | ((with_reducible refine gate_dst (N := 4) rfl ?_); refine box_event ?hg (N := 4) ?hd (cs := #[.string (⟨#[]⟩ : ByteArray), .string (⟨#[]⟩ : ByteArray), .string (⟨#[]⟩ : ByteArray)]) (t := 37) ?hr ?_; (case hd => rfl); (case hg => rfl); (case hr => exact hr_); intro gb131 hg w7 hbox hb; have n0_ := Aside0.mk (below_step bl_ hb); have n1_ := Aside0.mk (hbox); have n2_ := Aside0.mk (gw_ hg bl_); have n3_ := Aside0.mk (gw_ hg bl_); clear HB; have HB := n0_; have BK131 := n1_; have GW131 := n2_; have GE131 := n3_; clear n0_ n1_ n2_ n3_; clear hb hbox hg; obtain ⟨hcz8_0, hcz8_1, hcz8_2, hfz8_0, hfz8_1, hfz8_2⟩ := cellsF3 BK131.out))
              (try simp only [Act.put, List.setIfInBounds_toArray, List.set_cons_zero, List.set_cons_succ])
              go_cut [44] (fun v44 wc => ∃ (kq : Nat) (x44_5 : Bool), v44 = .bool x44_5 ∧ Aside0 (impl_CrossRight.j1 kq l0 x10_1 l0 (l0.length : Int) x10_1 x44_5 ((rd_T37 l0 x10_1).f0) ((rd_T37 l0 x10_1).f1) ((rd_T37 l0 x10_1).f2) = some r) ∧ Aside0 (kq ≤ k1) ∧ Aside0 (wc.heap[gb131]? = some (.cells #[.string ((rd_T37 l0 x10_1).f0), .string ((rd_T37 l0 x10_1).f1), .string ((rd_T37 l0 x10_1).f2)] 37 (0, 0))) ∧ Aside0 (Below w.heap.size w wc))
              case first =>
                have H := HC6.out
                clear HC6
                replace H := Option.bind_eq_some_iff.mp H
                obtain ⟨t132, A90, H⟩ := H
                replace H : (if t132 = true then ((impl_isName.f k1 ((rd_T37 l0 x10_1).f1)).bind fun t133 => (if t133 = true then ((impl_isName.f k1 ((rd_T37 l0 x10_1).f2)).bind fun t134 => (if t134 = true then (if x10_1 > 0 then (if 0 ≤ (wrap64 (x10_1 - 1)) then (if (wrap64 (x10_1 - 1)) < (l0.length : Int) then ((impl_crossOrder.f k1 ((rd_T37 l0 (wrap64 (x10_1 - 1))).f0) ((rd_T37 l0 (wrap64 (x10_1 - 1))).f1) ((rd_T37 l0 (wrap64 (x10_1 - 1))).f2) ((rd_T37 l0 x10_1).f0) ((rd_T37 l0 x10_1).f1) ((rd_T37 l0 x10_1).f2)).bind fun t136 => (impl_CrossRight.j1 k1 l0 x10_1 l0 (l0.length : Int) x10_1 (decide (t136 ≥ 0)) ((rd_T37 l0 x10_1).f0) ((rd_T37 l0 x10_1).f1) ((rd_T37 l0 x10_1).f2))) else (none)) else (none)) else (impl_CrossRight.j1 k1 l0 x10_1 l0 (l0.length : Int) x10_1 false ((rd_T37 l0 x10_1).f0) ((rd_T37 l0 x10_1).f1) ((rd_T37 l0 x10_1).f2))) else (impl_CrossRight.j1 k1 l0 x10_1 l0 (l0.length : Int) x10_1 true ((rd_T37 l0 x10_1).f0) ((rd_T37 l0 x10_1).f1) ((rd_T37 l0 x10_1).f2)))) else (impl_CrossRight.j1 k1 l0 x10_1 l0 (l0.length : Int) x10_1 true ((rd_T37 l0 x10_1).f0) ((rd_T37 l0 x10_1).f1) ((rd_T37 l0 x10_1).f2)))) else (impl_CrossRight.j1 k1 l0 x10_1 l0 (l0.length : Int) x10_1 true ((rd_T37 l0 x10_1).f0) ((rd_T37 l0 x10_1).f1) ((rd_T37 l0 x10_1).f2))) = some r := H
                have A9 := Aside0.mk A90
                clear A90
                by_cases c10 : t132 = true
                · subst c10
                  have H1 : ((impl_isName.f k1 ((rd_T37 l0 x10_1).f1)).bind fun t133 => (if t133 = true then ((impl_isName.f k1 ((rd_T37 l0 x10_1).f2)).bind fun t134 => (if t134 = true then (if x10_1 > 0 then (if 0 ≤ (wrap64 (x10_1 - 1)) then (if (wrap64 (x10_1 - 1)) < (l0.length : Int) then ((impl_crossOrder.f k1 ((rd_T37 l0 (wrap64 (x10_1 - 1))).f0) ((rd_T37 l0 (wrap64 (x10_1 - 1))).f1) ((rd_T37 l0 (wrap64 (x10_1 - 1))).f2) ((rd_T37 l0 x10_1).f0) ((rd_T37 l0 x10_1).f1) ((rd_T37 l0 x10_1).f2)).bind fun t136 => (impl_CrossRight.j1 k1 l0 x10_1 l0 (l0.length : Int) x10_1 (decide (t136 ≥ 0)) ((rd_T37 l0 x10_1).f0) ((rd_T37 l0 x10_1).f1) ((rd_T37 l0 x10_1).f2))) else (none)) else (none)) else (impl_CrossRight.j1 k1 l0 x10_1 l0 (l0.length : Int) x10_1 false ((rd_T37 l0 x10_1).f0) ((rd_T37 l0 x10_1).f1) ((rd_T37 l0 x10_1).f2))) else (impl_CrossRight.j1 k1 l0 x10_1 l0 (l0.length : Int) x10_1 true ((rd_T37 l0 x10_1).f0) ((rd_T37 l0 x10_1).f1) ((rd_T37 l0 x10_1).f2)))) else (impl_CrossRight.j1 k1 l0 x10_1 l0 (l0.length : Int) x10_1 true ((rd_T37 l0 x10_1).f0) ((rd_T37 l0 x10_1).f1) ((rd_T37 l0 x10_1).f2)))) = some r := by rw [if_pos rfl] at H; exact H
                  clear H
                  have H := H1
                  clear H1
                  replace H := Option.bind_eq_some_iff.mp H
                  obtain ⟨t133, A110, H⟩ := H
                  replace H : (if t133 = true then ((impl_isName.f k1 ((rd_T37 l0 x10_1).f2)).bind fun t134 => (if t134 = true then (if x10_1 > 0 then (if 0 ≤ (wrap64 (x10_1 - 1)) then (if (wrap64 (x10_1 - 1)) < (l0.length : Int) then ((impl_crossOrder.f k1 ((rd_T37 l0 (wrap64 (x10_1 - 1))).f0) ((rd_T37 l0 (wrap64 (x10_1 - 1))).f1) ((rd_T37 l0 (wrap64 (x10_1 - 1))).f2) ((rd_T37 l0 x10_1).f0) ((rd_T37 l0 x10_1).f1) ((rd_T37 l0 x10_1).f2)).bind fun t136 => (impl_CrossRight.j1 k1 l0 x10_1 l0 (l0.length : Int) x10_1 (decide (t136 ≥ 0)) ((rd_T37 l0 x10_1).f0) ((rd_T37 l0 x10_1).f1) ((rd_T37 l0 x10_1).f2))) else (none)) else (none)) else (impl_CrossRight.j1 k1 l0 x10_1 l0 (l0.length : Int) x10_1 false ((rd_T37 l0 x10_1).f0) ((rd_T37 l0 x10_1).f1) ((rd_T37 l0 x10_1).f2))) else (impl_CrossRight.j1 k1 l0 x10_1 l0 (l0.length : Int) x10_1 true ((rd_T37 l0 x10_1).f0) ((rd_T37 l0 x10_1).f1) ((rd_T37 l0 x10_1).f2)))) else (impl_CrossRight.j1 k1 l0 x10_1 l0 (l0.length : Int) x10_1 true ((rd_T37 l0 x10_1).f0) ((rd_T37 l0 x10_1).f1) ((rd_T37 l0 x10_1).f2))) = some r := H
                  have A11 := Aside0.mk A110
                  clear A110
                  by_cases c12 : t133 = true
                  · subst c12
                    have H1 : ((impl_isName.f k1 ((rd_T37 l0 x10_1).f2)).bind fun t134 => (if t134 = true then (if x10_1 > 0 then (if 0 ≤ (wrap64 (x10_1 - 1)) then (if (wrap64 (x10_1 - 1)) < (l0.length : Int) then ((impl_crossOrder.f k1 ((rd_T37 l0 (wrap64 (x10_1 - 1))).f0) ((rd_T37 l0 (wrap64 (x10_1 - 1))).f1) ((rd_T37 l0 (wrap64 (x10_1 - 1))).f2) ((rd_T37 l0 x10_1).f0) ((rd_T37 l0 x10_1).f1) ((rd_T37 l0 x10_1).f2)).bind fun t136 => (impl_CrossRight.j1 k1 l0 x10_1 l0 (l0.length : Int) x10_1 (decide (t136 ≥ 0)) ((rd_T37 l0 x10_1).f0) ((rd_T37 l0 x10_1).f1) ((rd_T37 l0 x10_1).f2))) else (none)) else (none)) else (impl_CrossRight.j1 k1 l0 x10_1 l0 (l0.length : Int) x10_1 false ((rd_T37 l0 x10_1).f0) ((rd_T37 l0 x10_1).f1) ((rd_T37 l0 x10_1).f2))) else (impl_CrossRight.j1 k1 l0 x10_1 l0 (l0.length : Int) x10_1 true ((rd_T37 l0 x10_1).f0) ((rd_T37 l0 x10_1).f1) ((rd_T37 l0 x10_1).f2)))) = some r := by rw [if_pos rfl] at H; exact H
                    clear H
                    have H := H1
                    clear H1
                    replace H := Option.bind_eq_some_iff.mp H
                    obtain ⟨t134, A130, H⟩ := H
                    replace H : (if t134 = true then (if x10_1 > 0 then (if 0 ≤ (wrap64 (x10_1 - 1)) then (if (wrap64 (x10_1 - 1)) < (l0.length : Int) then ((impl_crossOrder.f k1 ((rd_T37 l0 (wrap64 (x10_1 - 1))).f0) ((rd_T37 l0 (wrap64 (x10_1 - 1))).f1) ((rd_T37 l0 (wrap64 (x10_1 - 1))).f2) ((rd_T37 l0 x10_1).f0) ((rd_T37 l0 x10_1).f1) ((rd_T37 l0 x10_1).f2)).bind fun t136 => (impl_CrossRight.j1 k1 l0 x10_1 l0 (l0.length : Int) x10_1 (decide (t136 ≥ 0)) ((rd_T37 l0 x10_1).f0) ((rd_T37 l0 x10_1).f1) ((rd_T37 l0 x10_1).f2))) else (none)) else (none)) else (impl_CrossRight.j1 k1 l0 x10_1 l0 (l0.length : Int) x10_1 false ((rd_T37 l0 x10_1).f0) ((rd_T37 l0 x10_1).f1) ((rd_T37 l0 x10_1).f2))) else (impl_CrossRight.j1 k1 l0 x10_1 l0 (l0.length : Int) x10_1 true ((rd_T37 l0 x10_1).f0) ((rd_T37 l0 x10_1).f1) ((rd_T37 l0 x10_1).f2))) = some r := H
                    have A13 := Aside0.mk A130
                    clear A130
                    by_cases c14 : t134 = true
                    · subst c14
                      have H1 : (if x10_1 > 0 then (if 0 ≤ (wrap64 (x10_1 - 1)) then (if (wrap64 (x10_1 - 1)) < (l0.length : Int) then ((impl_crossOrder.f k1 ((rd_T37 l0 (wrap64 (x10_1 - 1))).f0) ((rd_T37 l0 (wrap64 (x10_1 - 1))).f1) ((rd_T37 l0 (wrap64 (x10_1 - 1))).f2) ((rd_T37 l0 x10_1).f0) ((rd_T37 l0 x10_1).f1) ((rd_T37 l0 x10_1).f2)).bind fun t136 => (impl_CrossRight.j1 k1 l0 x10_1 l0 (l0.length : Int) x10_1 (decide (t136 ≥ 0)) ((rd_T37 l0 x10_1).f0) ((rd_T37 l0 x10_1).f1) ((rd_T37 l0 x10_1).f2))) else (none)) else (none)) else (impl_CrossRight.j1 k1 l0 x10_1 l0 (l0.length : Int) x10_1 false ((rd_T37 l0 x10_1).f0) ((rd_T37 l0 x10_1).f1) ((rd_T37 l0 x10_1).f2))) = some r := by rw [if_pos rfl] at H; exact H
                      clear H
                      have H := H1
                      clear H1
                      by_cases c15 : x10_1 > 0
                      · rw [if_pos c15] at H
                        have c15b0 : decide (0 < x10_1) = true := decide_eq_true c15
                        clear c15
                        (first | rw [c15b0] | (simp only [i64_w, i32_w]; rw [c15b0]) | skip)
                        obtain ⟨ji16, hji16⟩ : ∃ j_ : Int, (wrap64 (x10_1 - 1)) = j_ := ⟨_, rfl⟩
                        replace H : (if 0 ≤ (ji16) then (if (ji16) < (l0.length : Int) then ((impl_crossOrder.f k1 ((rd_T37 l0 (ji16)).f0) ((rd_T37 l0 (ji16)).f1) ((rd_T37 l0 (ji16)).f2) ((rd_T37 l0 x10_1).f0) ((rd_T37 l0 x10_1).f1) ((rd_T37 l0 x10_1).f2)).bind fun t136 => (impl_CrossRight.j1 k1 l0 x10_1 l0 (l0.length : Int) x10_1 (decide (t136 ≥ 0)) ((rd_T37 l0 x10_1).f0) ((rd_T37 l0 x10_1).f1) ((rd_T37 l0 x10_1).f2))) else (none)) else (none)) = some r := by first | (rw [hji16] at H; exact H) | (simp only [hji16] at H ⊢; exact H)
                        (try rw [hji16] at A9)
                        (try rw [hji16] at A11)
                        (try rw [hji16] at A13)
                        have hji16w : (IntKind.i64.wrap (x10_1 - 1)) = ji16 := (i64_w _).trans hji16
                        by_cases c17 : 0 ≤ (ji16)
                        · rw [if_pos c17] at H
                          have c17b0 : decide (0 ≤ (ji16)) = true := decide_eq_true c17
                          clear c17
                          by_cases c18 : (ji16) < (l0.length : Int)
                          · rw [if_pos c18] at H
                            have c18b0 : decide ((ji16) < (l0.length : Int)) = true := decide_eq_true c18
                            clear c18
                            replace H := Option.bind_eq_some_iff.mp H
                            obtain ⟨t136, A190, H⟩ := H
                            replace H : (impl_CrossRight.j1 k1 l0 x10_1 l0 (l0.length : Int) x10_1 (decide (t136 ≥ 0)) ((rd_T37 l0 x10_1).f0) ((rd_T37 l0 x10_1).f1) ((rd_T37 l0 x10_1).f2)) = some r := H
                            have A19 := Aside0.mk A190
                            clear A190
                            have H' := Aside0.mk H
                            clear H
                            try go_wp2
                            have n0_ : Aside0 ((((w7.setCell ⟨gb131, 0, none⟩ (.string ((rd_T37 l0 x10_1).f0))).setCell ⟨gb131, 1, none⟩ (.string ((rd_T37 l0 x10_1).f1))).setCell ⟨gb131, 2, none⟩ (.string ((rd_T37 l0 x10_1).f2))).heap[gb131]? = some (.cells #[.string ((rd_T37 l0 x10_1).f0), .string ((rd_T37 l0 x10_1).f1), .string ((rd_T37 l0 x10_1).f2)] 37 (0, 0))) := ⟨au5_0⟩
                            have n1_ : Aside0 (Below w.heap.size w (((w7.setCell ⟨gb131, 0, none⟩ (.string ((rd_T37 l0 x10_1).f0))).setCell ⟨gb131, 1, none⟩ (.string ((rd_T37 l0 x10_1).f1))).setCell ⟨gb131, 2, none⟩ (.string ((rd_T37 l0 x10_1).f2)))) := ⟨bl_⟩
                            (try clear BK131)
                            (try clear HB)
                            generalize (((w7.setCell ⟨gb131, 0, none⟩ (.string ((rd_T37 l0 x10_1).f0))).setCell ⟨gb131, 1, none⟩ (.string ((rd_T37 l0 x10_1).f1))).setCell ⟨gb131, 2, none⟩ (.string ((rd_T37 l0 x10_1).f2))) = w20 at n0_ n1_ ⊢
                            have BK131 := n0_
                            have HB := n1_
                            clear n0_ n1_
                            have n0_ := Aside0.mk (blk_drew BK131.out)
                            have n1_ := Aside0.mk (below_drew1 HB.out)
                            clear BK131
                            clear HB
                            have BK131 := n0_
                            have HB := n1_
                            clear n0_ n1_
                            have p135 : 0 ≤ ((ji16) : Int) := of_decide_eq_true as_
                            have q135 : (ji16) < (l0.length : Int) := of_decide_eq_true as_
                            obtain ⟨ad135, e135, hx135_0, hx135_1, hx135_2⟩ := at_T37 HR0.out (ji16) p135 q135
                            have hw135_2 := hx135_2
                            have hw135_1 := hx135_1
                            have hw135_0 := hx135_0
                            obtain rfl : ad130 = ad135 := (by injection e135)
                            replace hx135_0 := (HB.out.cell (World.block_lt_of_cell? _ _ hx135_0)).trans hx135_0
                            replace hx135_1 := (HB.out.cell (World.block_lt_of_cell? _ _ hx135_1)).trans hx135_1
                            replace hx135_2 := (HB.out.cell (World.block_lt_of_cell? _ _ hx135_2)).trans hx135_2
                            replace p135 := eq_true p135
                            replace q135 := eq_true q135
                            refine start_ (n := 30) (S := fun w' => w'.cell? ⟨gb131, 0, none⟩ = some (.string ((rd_T37 l0 x10_1).f0)) ∧ w'.cell? ⟨gb131, 1, none⟩ = some (.string ((rd_T37 l0 x10_1).f1)) ∧ w'.cell? ⟨gb131, 2, none⟩ = some (.string ((rd_T37 l0 x10_1).f2)) ∧ w'.cell? (ad130.add (((ji16)).toNat * 3)) = some (.string ((rd_T37 l0 (ji16)).f0)) ∧ w'.cell? ⟨(ad130.add (((ji16)).toNat * 3)).block, (ad130.add (((ji16)).toNat * 3)).off + 1, none⟩ = some (.string ((rd_T37 l0 (ji16)).f1)) ∧ w'.cell? ⟨(ad130.add (((ji16)).toNat * 3)).block, (ad130.add (((ji16)).toNat * 3)).off + 2, none⟩ = some (.string ((rd_T37 l0 (ji16)).f2))) (ds := []) (bs 30 0) (by kernel_rfl) rfl rfl ⟨(blk_cell BK131.out 0).trans rfl, (blk_cell BK131.out 1).trans rfl, (blk_cell BK131.out 2).trans rfl, ((HB.out.cell (World.block_lt_of_cell? _ _ hw135_0)).trans hw135_0), ((HB.out.cell (World.block_lt_of_cell? _ _ hw135_1)).trans hw135_1), ((HB.out.cell (World.block_lt_of_cell? _ _ hw135_2)).trans hw135_2)⟩ (fun hHeld => ?_); refine with_tabW impl_CrossRight.tab6 impl_CrossRight.bits6 (fun HT_ HW_ => ?_)
                            generalize w20.drew = w21 at BK131 HB hx135_0 hx135_1 hx135_2 hHeld ⊢
                            refine pu_ 0 15 (bs 30 1) HT_ ?_ rfl rfl
                            refine tk_ 1 16 (bs 30 3) HT_ HW_ hHeld au5_3 ?_ rfl rfl
                            refine one_ (i := 2) (N := some 17) (bs 30 7) rfl rfl (one_of HT_.out (by kernel_rfl)) (by decide) (fun K hK => ?_)
                            refine gr_ Try.func56 #[.string ((rd_T37 l0 x10_1).f0)] (by rfl) ?_ rfl rfl rfl
                            with_reducible refine (impl_isName.calls k1 ((rd_T37 l0 x10_1).f0) true _ A9.out).mono ?_
                            rintro e w' ⟨rfl, ⟨nd, rfl⟩⟩
                            refine ⟨_, rfl, ?_⟩
                            refine hK.out _ _ ⟨(blk_cell BK131.out 0).trans rfl, (blk_cell BK131.out 1).trans rfl, (blk_cell BK131.out 2).trans rfl, ((HB.out.cell (World.block_lt_of_cell? _ _ hw135_0)).trans hw135_0), ((HB.out.cell (World.block_lt_of_cell? _ _ hw135_1)).trans hw135_1), ((HB.out.cell (World.block_lt_of_cell? _ _ hw135_2)).trans hw135_2)⟩ (fun hHeld => ?_)
                            clear hK K
                            refine norm_ (a' := ?_) ?_ ?_
                            rotate_left
                            · show Act.put _ (some 17) _ = _
                              simp only [Act.put, List.setIfInBounds_toArray, List.set_cons_zero, List.set_cons_succ, i64_w, i32_w]
                              rfl
                            refine pu_ 3 18 (bs 30 15) HT_ ?_ rfl rfl
                            refine pu_ 4 19 (bs 30 31) HT_ ?_ rfl rfl
                            refine pu_ 5 20 (bs 30 63) HT_ ?_ rfl rfl
                            refine tk_ 6 21 (bs 30 127) HT_ HW_ hHeld au5_3 ?_ rfl rfl
                            refine one_ (i := 7) (N := some 22) (bs 30 255) rfl rfl (one_of HT_.out (by kernel_rfl)) (by decide) (fun K hK => ?_)
                            refine gr_ Try.func56 #[.string ((rd_T37 l0 x10_1).f1)] (by rfl) ?_ rfl rfl rfl
                            with_reducible refine (impl_isName.calls k1 ((rd_T37 l0 x10_1).f1) true _ A11.out).mono ?_
                            rintro e w' ⟨rfl, ⟨nd, rfl⟩⟩
                            refine ⟨_, rfl, ?_⟩
                            refine hK.out _ _ ⟨(blk_cell BK131.out 0).trans rfl, (blk_cell BK131.out 1).trans rfl, (blk_cell BK131.out 2).trans rfl, ((HB.out.cell (World.block_lt_of_cell? _ _ hw135_0)).trans hw135_0), ((HB.out.cell (World.block_lt_of_cell? _ _ hw135_1)).trans hw135_1), ((HB.out.cell (World.block_lt_of_cell? _ _ hw135_2)).trans hw135_2)⟩ (fun hHeld => ?_)
                            clear hK K
                            refine norm_ (a' := ?_) ?_ ?_
                            rotate_left
                            · show Act.put _ (some 22) _ = _
                              simp only [Act.put, List.setIfInBounds_toArray, List.set_cons_zero, List.set_cons_succ, i64_w, i32_w]
                              rfl
                            refine pu_ 8 23 (bs 30 511) HT_ ?_ rfl rfl
                            refine pu_ 9 24 (bs 30 1023) HT_ ?_ rfl rfl
                            refine pu_ 10 25 (bs 30 2047) HT_ ?_ rfl rfl
                            refine pu_ 11 26 (bs 30 4095) HT_ ?_ rfl rfl
                            refine tk_ 12 27 (bs 30 8191) HT_ HW_ hHeld au5_3 ?_ rfl rfl
                            refine one_ (i := 13) (N := some 28) (bs 30 16383) rfl rfl (one_of HT_.out (by kernel_rfl)) (by decide) (fun K hK => ?_)
                            refine gr_ Try.func56 #[.string ((rd_T37 l0 x10_1).f2)] (by rfl) ?_ rfl rfl rfl
                            with_reducible refine (impl_isName.calls k1 ((rd_T37 l0 x10_1).f2) true _ A13.out).mono ?_
                            rintro e w' ⟨rfl, ⟨nd, rfl⟩⟩
                            refine ⟨_, rfl, ?_⟩
                            refine hK.out _ _ ⟨(blk_cell BK131.out 0).trans rfl, (blk_cell BK131.out 1).trans rfl, (blk_cell BK131.out 2).trans rfl, ((HB.out.cell (World.block_lt_of_cell? _ _ hw135_0)).trans hw135_0), ((HB.out.cell (World.block_lt_of_cell? _ _ hw135_1)).trans hw135_1), ((HB.out.cell (World.block_lt_of_cell? _ _ hw135_2)).trans hw135_2)⟩ (fun hHeld => ?_)
                            clear hK K
                            refine norm_ (a' := ?_) ?_ ?_
                            rotate_left
                            · show Act.put _ (some 28) _ = _
                              simp only [Act.put, List.setIfInBounds_toArray, List.set_cons_zero, List.set_cons_succ, i64_w, i32_w]
                              rfl
                            refine pu_ 14 29 (bs 30 32767) HT_ ?_ rfl rfl
                            refine pu_ 15 30 (bs 30 65535) HT_ ?_ rfl rfl
                            refine pu_ 16 31 (bs 30 131071) HT_ ?_ rfl rfl
                            refine pu_ 17 32 (bs 30 262143) HT_ ?_ rfl rfl
                            refine pu_ 18 33 (bs 30 524287) HT_ ?_ rfl rfl
                            refine pu_ 19 34 (bs 30 1048575) HT_ ?_ rfl rfl
                            refine pu_ 20 35 (bs 30 2097151) HT_ ?_ rfl rfl
                            refine pu_ 21 36 (bs 30 4194303) HT_ ?_ rfl rfl
                            refine pu_ 22 37 (bs 30 8388607) HT_ ?_ rfl rfl
                            refine pu_ 23 38 (bs 30 16777215) HT_ ?_ rfl rfl
                            refine tk_ 24 39 (bs 30 33554431) HT_ HW_ hHeld au5_3 ?_ rfl rfl
                            refine tk_ 25 40 (bs 30 67108863) HT_ HW_ hHeld au5_3 ?_ rfl rfl
                            refine one_ (i := 26) (N := some 41) (bs 30 134217727) rfl rfl (one_of HT_.out (by kernel_rfl)) (by decide) (fun K hK => ?_)
                            refine goes_ Try.func57 (by kernel_rfl) rfl #[.agg #[.string ((rd_T37 l0 (ji16)).f0), .string ((rd_T37 l0 (ji16)).f1), .string ((rd_T37 l0 (ji16)).f2)], .agg #[.string ((rd_T37 l0 x10_1).f0), .string ((rd_T37 l0 x10_1).f1), .string ((rd_T37 l0 x10_1).f2)]] (by rfl) rfl rfl (by (try simp only [List.map_toArray, List.map_cons, List.map_nil]); first | done | (simp only [hji16]; rfl) | rfl | (simp only [List.length_drop, List.length_take]; rfl)) ?_
                            with_reducible refine (impl_crossOrder.calls k1 ((rd_T37 l0 (ji16)).f0) ((rd_T37 l0 (ji16)).f1) ((rd_T37 l0 (ji16)).f2) ((rd_T37 l0 x10_1).f0) ((rd_T37 l0 x10_1).f1) ((rd_T37 l0 x10_1).f2) t136 _ A19.out).mono ?_
                            rintro e w22 ⟨rfl, hb⟩
                            refine ⟨_, rfl, ?_⟩
                            have n0_ := Aside0.mk (blkb_ BK131 hb)
                            have n1_ := Aside0.mk (below_step bl_ hb)
                            clear BK131
                            clear HB
                            have BK131 := n0_
                            have HB := n1_
                            clear n0_ n1_
                            (try clear hb)
                            (try clear hb2)
                            (try clear hk)
                            (try clear hi)
                            refine hK.out _ _ ⟨(blk_cell BK131.out 0).trans rfl, (blk_cell BK131.out 1).trans rfl, (blk_cell BK131.out 2).trans rfl, ((HB.out.cell (World.block_lt_of_cell? _ _ hw135_0)).trans hw135_0), ((HB.out.cell (World.block_lt_of_cell? _ _ hw135_1)).trans hw135_1), ((HB.out.cell (World.block_lt_of_cell? _ _ hw135_2)).trans hw135_2)⟩ (fun hHeld => ?_)
                            clear hK K
                            refine norm_ (a' := ?_) ?_ ?_
                            rotate_left
                            · show Act.put _ (some 41) _ = _
                              simp only [Act.put, List.setIfInBounds_toArray, List.set_cons_zero, List.set_cons_succ, i64_w, i32_w]
                              rfl
                            refine pu_ 27 42 (bs 30 268435455) HT_ ?_ rfl rfl
                            refine pu_ 28 43 (bs 30 536870911) HT_ ?_ rfl rfl
                            refine pu_ 29 44 (bs 30 1073741823) HT_ ?_ rfl rfl
                            refine done_ (done_of HT_.out (by kernel_rfl)) ?_
                            try go_wp2
                            go_meet
                            case rel => exact ⟨_, (decide (t136 ≥ 0)), er_, H', ⟨au5_4⟩, ⟨bk_ BK131⟩, ⟨bl_⟩⟩
                          · rw [if_neg c18] at H
                            exact absurd H (by simp)
                        · rw [if_neg c17] at H
                          exact absurd H (by simp)
                      · rw [if_neg c15] at H
                        have c15b0 : decide (0 < x10_1) = false := decide_eq_false c15
                        clear c15
                        (first | rw [c15b0] | (simp only [i64_w, i32_w]; rw [c15b0]) | skip)
                        have H' := Aside0.mk H
                        clear H
                        try go_wp2
                        have n0_ : Aside0 ((((w7.setCell ⟨gb131, 0, none⟩ (.string ((rd_T37 l0 x10_1).f0))).setCell ⟨gb131, 1, none⟩ (.string ((rd_T37 l0 x10_1).f1))).setCell ⟨gb131, 2, none⟩ (.string ((rd_T37 l0 x10_1).f2))).heap[gb131]? = some (.cells #[.string ((rd_T37 l0 x10_1).f0), .string ((rd_T37 l0 x10_1).f1), .string ((rd_T37 l0 x10_1).f2)] 37 (0, 0))) := ⟨au5_0⟩
                        have n1_ : Aside0 (Below w.heap.size w (((w7.setCell ⟨gb131, 0, none⟩ (.string ((rd_T37 l0 x10_1).f0))).setCell ⟨gb131, 1, none⟩ (.string ((rd_T37 l0 x10_1).f1))).setCell ⟨gb131, 2, none⟩ (.string ((rd_T37 l0 x10_1).f2)))) := ⟨bl_⟩
                        (try clear BK131)
                        (try clear HB)
                        generalize (((w7.setCell ⟨gb131, 0, none⟩ (.string ((rd_T37 l0 x10_1).f0))).setCell ⟨gb131, 1, none⟩ (.string ((rd_T37 l0 x10_1).f1))).setCell ⟨gb131, 2, none⟩ (.string ((rd_T37 l0 x10_1).f2))) = w23 at n0_ n1_ ⊢
                        have BK131 := n0_
                        have HB := n1_
                        clear n0_ n1_
                        have n0_ := Aside0.mk (blk_drew BK131.out)
                        have n1_ := Aside0.mk (below_drew1 HB.out)
                        clear BK131
                        clear HB
                        have BK131 := n0_
                        have HB := n1_
                        clear n0_ n1_
                        refine start_ (n := 30) (S := fun w' => w'.cell? ⟨gb131, 0, none⟩ = some (.string ((rd_T37 l0 x10_1).f0)) ∧ w'.cell? ⟨gb131, 1, none⟩ = some (.string ((rd_T37 l0 x10_1).f1)) ∧ w'.cell? ⟨gb131, 2, none⟩ = some (.string ((rd_T37 l0 x10_1).f2))) (ds := []) (bs 30 0) (by kernel_rfl) rfl rfl ⟨(blk_cell BK131.out 0).trans rfl, (blk_cell BK131.out 1).trans rfl, (blk_cell BK131.out 2).trans rfl⟩ (fun hHeld => ?_); refine with_tabW impl_CrossRight.tab6 impl_CrossRight.bits6 (fun HT_ HW_ => ?_)
                        generalize w23.drew = w24 at BK131 HB hHeld ⊢
                        refine pu_ 0 15 (bs 30 1) HT_ ?_ rfl rfl
                        refine tk_ 1 16 (bs 30 3) HT_ HW_ hHeld au5_1 ?_ rfl rfl
                        refine one_ (i := 2) (N := some 17) (bs 30 7) rfl rfl (one_of HT_.out (by kernel_rfl)) (by decide) (fun K hK => ?_)
                        refine gr_ Try.func56 #[.string ((rd_T37 l0 x10_1).f0)] (by rfl) ?_ rfl rfl rfl
                        with_reducible refine (impl_isName.calls k1 ((rd_T37 l0 x10_1).f0) true _ A9.out).mono ?_
                        rintro e w' ⟨rfl, ⟨nd, rfl⟩⟩
                        refine ⟨_, rfl, ?_⟩
                        refine hK.out _ _ ⟨(blk_cell BK131.out 0).trans rfl, (blk_cell BK131.out 1).trans rfl, (blk_cell BK131.out 2).trans rfl⟩ (fun hHeld => ?_)
                        clear hK K
                        refine norm_ (a' := ?_) ?_ ?_
                        rotate_left
                        · show Act.put _ (some 17) _ = _
                          simp only [Act.put, List.setIfInBounds_toArray, List.set_cons_zero, List.set_cons_succ, i64_w, i32_w]
                          rfl
                        refine pu_ 3 18 (bs 30 15) HT_ ?_ rfl rfl
                        refine pu_ 4 19 (bs 30 31) HT_ ?_ rfl rfl
                        refine pu_ 5 20 (bs 30 63) HT_ ?_ rfl rfl
                        refine tk_ 6 21 (bs 30 127) HT_ HW_ hHeld au5_1 ?_ rfl rfl
                        refine one_ (i := 7) (N := some 22) (bs 30 255) rfl rfl (one_of HT_.out (by kernel_rfl)) (by decide) (fun K hK => ?_)
                        refine gr_ Try.func56 #[.string ((rd_T37 l0 x10_1).f1)] (by rfl) ?_ rfl rfl rfl
                        with_reducible refine (impl_isName.calls k1 ((rd_T37 l0 x10_1).f1) true _ A11.out).mono ?_
                        rintro e w' ⟨rfl, ⟨nd, rfl⟩⟩
                        refine ⟨_, rfl, ?_⟩
                        refine hK.out _ _ ⟨(blk_cell BK131.out 0).trans rfl, (blk_cell BK131.out 1).trans rfl, (blk_cell BK131.out 2).trans rfl⟩ (fun hHeld => ?_)
                        clear hK K
                        refine norm_ (a' := ?_) ?_ ?_
                        rotate_left
                        · show Act.put _ (some 22) _ = _
                          simp only [Act.put, List.setIfInBounds_toArray, List.set_cons_zero, List.set_cons_succ, i64_w, i32_w]
                          rfl
                        refine pu_ 8 23 (bs 30 511) HT_ ?_ rfl rfl
                        refine pu_ 9 24 (bs 30 1023) HT_ ?_ rfl rfl
                        refine pu_ 10 25 (bs 30 2047) HT_ ?_ rfl rfl
                        refine pu_ 11 26 (bs 30 4095) HT_ ?_ rfl rfl
                        refine tk_ 12 27 (bs 30 8191) HT_ HW_ hHeld au5_1 ?_ rfl rfl
                        refine one_ (i := 13) (N := some 28) (bs 30 16383) rfl rfl (one_of HT_.out (by kernel_rfl)) (by decide) (fun K hK => ?_)
                        refine gr_ Try.func56 #[.string ((rd_T37 l0 x10_1).f2)] (by rfl) ?_ rfl rfl rfl
                        with_reducible refine (impl_isName.calls k1 ((rd_T37 l0 x10_1).f2) true _ A13.out).mono ?_
                        rintro e w' ⟨rfl, ⟨nd, rfl⟩⟩
                        refine ⟨_, rfl, ?_⟩
                        refine hK.out _ _ ⟨(blk_cell BK131.out 0).trans rfl, (blk_cell BK131.out 1).trans rfl, (blk_cell BK131.out 2).trans rfl⟩ (fun hHeld => ?_)
                        clear hK K
                        refine norm_ (a' := ?_) ?_ ?_
                        rotate_left
                        · show Act.put _ (some 28) _ = _
                          simp only [Act.put, List.setIfInBounds_toArray, List.set_cons_zero, List.set_cons_succ, i64_w, i32_w]
                          rfl
                        refine pu_ 14 29 (bs 30 32767) HT_ ?_ rfl rfl
                        refine pu_ 15 30 (bs 30 65535) HT_ ?_ rfl rfl
                        refine pu_ 16 31 (bs 30 131071) HT_ ?_ rfl rfl
                        refine pu_ 17 32 (bs 30 262143) HT_ ?_ rfl rfl
                        refine pu_ 18 33 (bs 30 524287) HT_ ?_ rfl rfl
                        refine pu_ 19 34 (bs 30 1048575) HT_ ?_ rfl rfl
                        refine pv_ 20 35 (bs 30 2097151) HT_ ?_ rfl rfl
                        refine pv_ 21 36 (bs 30 4194303) HT_ ?_ rfl rfl
                        refine pv_ 22 37 (bs 30 8388607) HT_ ?_ rfl rfl
                        refine pv_ 23 38 (bs 30 16777215) HT_ ?_ rfl rfl
                        refine pv_ 24 39 (bs 30 33554431) HT_ ?_ rfl rfl
                        refine pv_ 25 40 (bs 30 67108863) HT_ ?_ rfl rfl
                        refine pv_ 26 41 (bs 30 134217727) HT_ ?_ rfl rfl
                        refine pv_ 27 42 (bs 30 268435455) HT_ ?_ rfl rfl
                        refine pu_ 28 43 (bs 30 536870911) HT_ ?_ rfl rfl
                        refine pu_ 29 44 (bs 30 1073741823) HT_ ?_ rfl rfl
                        refine done_ (done_of HT_.out (by kernel_rfl)) ?_
                        try go_wp2
                        go_meet
                        case rel => exact ⟨_, (false), er_, H', ⟨au5_4⟩, ⟨bk_ BK131⟩, ⟨bl_⟩⟩
                    · replace c14 := Bool.eq_false_iff.mpr c14
                      subst c14
                      have H1 : (impl_CrossRight.j1 k1 l0 x10_1 l0 (l0.length : Int) x10_1 true ((rd_T37 l0 x10_1).f0) ((rd_T37 l0 x10_1).f1) ((rd_T37 l0 x10_1).f2)) = some r := by rw [if_neg (show ¬ (false = true) by decide)] at H; exact H
                      clear H
                      have H := H1
                      clear H1
                      have H' := Aside0.mk H
                      clear H
                      try go_wp2
                      have n0_ : Aside0 ((((w7.setCell ⟨gb131, 0, none⟩ (.string ((rd_T37 l0 x10_1).f0))).setCell ⟨gb131, 1, none⟩ (.string ((rd_T37 l0 x10_1).f1))).setCell ⟨gb131, 2, none⟩ (.string ((rd_T37 l0 x10_1).f2))).heap[gb131]? = some (.cells #[.string ((rd_T37 l0 x10_1).f0), .string ((rd_T37 l0 x10_1).f1), .string ((rd_T37 l0 x10_1).f2)] 37 (0, 0))) := ⟨au5_0⟩
                      have n1_ : Aside0 (Below w.heap.size w (((w7.setCell ⟨gb131, 0, none⟩ (.string ((rd_T37 l0 x10_1).f0))).setCell ⟨gb131, 1, none⟩ (.string ((rd_T37 l0 x10_1).f1))).setCell ⟨gb131, 2, none⟩ (.string ((rd_T37 l0 x10_1).f2)))) := ⟨bl_⟩
                      (try clear BK131)
                      (try clear HB)
                      generalize (((w7.setCell ⟨gb131, 0, none⟩ (.string ((rd_T37 l0 x10_1).f0))).setCell ⟨gb131, 1, none⟩ (.string ((rd_T37 l0 x10_1).f1))).setCell ⟨gb131, 2, none⟩ (.string ((rd_T37 l0 x10_1).f2))) = w25 at n0_ n1_ ⊢
                      have BK131 := n0_
                      have HB := n1_
                      clear n0_ n1_
                      have n0_ := Aside0.mk (blk_drew BK131.out)
                      have n1_ := Aside0.mk (below_drew1 HB.out)
                      clear BK131
                      clear HB
                      have BK131 := n0_
                      have HB := n1_
                      clear n0_ n1_
                      refine start_ (n := 30) (S := fun w' => w'.cell? ⟨gb131, 0, none⟩ = some (.string ((rd_T37 l0 x10_1).f0)) ∧ w'.cell? ⟨gb131, 1, none⟩ = some (.string ((rd_T37 l0 x10_1).f1)) ∧ w'.cell? ⟨gb131, 2, none⟩ = some (.string ((rd_T37 l0 x10_1).f2))) (ds := []) (bs 30 0) (by kernel_rfl) rfl rfl ⟨(blk_cell BK131.out 0).trans rfl, (blk_cell BK131.out 1).trans rfl, (blk_cell BK131.out 2).trans rfl⟩ (fun hHeld => ?_); refine with_tabW impl_CrossRight.tab6 impl_CrossRight.bits6 (fun HT_ HW_ => ?_)
                      generalize w25.drew = w26 at BK131 HB hHeld ⊢
                      refine pu_ 0 15 (bs 30 1) HT_ ?_ rfl rfl
                      refine tk_ 1 16 (bs 30 3) HT_ HW_ hHeld au5_1 ?_ rfl rfl
                      refine one_ (i := 2) (N := some 17) (bs 30 7) rfl rfl (one_of HT_.out (by kernel_rfl)) (by decide) (fun K hK => ?_)
                      refine gr_ Try.func56 #[.string ((rd_T37 l0 x10_1).f0)] (by rfl) ?_ rfl rfl rfl
                      with_reducible refine (impl_isName.calls k1 ((rd_T37 l0 x10_1).f0) true _ A9.out).mono ?_
                      rintro e w' ⟨rfl, ⟨nd, rfl⟩⟩
                      refine ⟨_, rfl, ?_⟩
                      refine hK.out _ _ ⟨(blk_cell BK131.out 0).trans rfl, (blk_cell BK131.out 1).trans rfl, (blk_cell BK131.out 2).trans rfl⟩ (fun hHeld => ?_)
                      clear hK K
                      refine norm_ (a' := ?_) ?_ ?_
                      rotate_left
                      · show Act.put _ (some 17) _ = _
                        simp only [Act.put, List.setIfInBounds_toArray, List.set_cons_zero, List.set_cons_succ, i64_w, i32_w]
                        rfl
                      refine pu_ 3 18 (bs 30 15) HT_ ?_ rfl rfl
                      refine pu_ 4 19 (bs 30 31) HT_ ?_ rfl rfl
                      refine pu_ 5 20 (bs 30 63) HT_ ?_ rfl rfl
                      refine tk_ 6 21 (bs 30 127) HT_ HW_ hHeld au5_1 ?_ rfl rfl
                      refine one_ (i := 7) (N := some 22) (bs 30 255) rfl rfl (one_of HT_.out (by kernel_rfl)) (by decide) (fun K hK => ?_)
                      refine gr_ Try.func56 #[.string ((rd_T37 l0 x10_1).f1)] (by rfl) ?_ rfl rfl rfl
                      with_reducible refine (impl_isName.calls k1 ((rd_T37 l0 x10_1).f1) true _ A11.out).mono ?_
                      rintro e w' ⟨rfl, ⟨nd, rfl⟩⟩
                      refine ⟨_, rfl, ?_⟩
                      refine hK.out _ _ ⟨(blk_cell BK131.out 0).trans rfl, (blk_cell BK131.out 1).trans rfl, (blk_cell BK131.out 2).trans rfl⟩ (fun hHeld => ?_)
                      clear hK K
                      refine norm_ (a' := ?_) ?_ ?_
                      rotate_left
                      · show Act.put _ (some 22) _ = _
                        simp only [Act.put, List.setIfInBounds_toArray, List.set_cons_zero, List.set_cons_succ, i64_w, i32_w]
                        rfl
                      refine pu_ 8 23 (bs 30 511) HT_ ?_ rfl rfl
                      refine pu_ 9 24 (bs 30 1023) HT_ ?_ rfl rfl
                      refine pu_ 10 25 (bs 30 2047) HT_ ?_ rfl rfl
                      refine pu_ 11 26 (bs 30 4095) HT_ ?_ rfl rfl
                      refine tk_ 12 27 (bs 30 8191) HT_ HW_ hHeld au5_1 ?_ rfl rfl
                      refine one_ (i := 13) (N := some 28) (bs 30 16383) rfl rfl (one_of HT_.out (by kernel_rfl)) (by decide) (fun K hK => ?_)
                      refine gr_ Try.func56 #[.string ((rd_T37 l0 x10_1).f2)] (by rfl) ?_ rfl rfl rfl
                      with_reducible refine (impl_isName.calls k1 ((rd_T37 l0 x10_1).f2) false _ A13.out).mono ?_
                      rintro e w' ⟨rfl, ⟨nd, rfl⟩⟩
                      refine ⟨_, rfl, ?_⟩
                      refine hK.out _ _ ⟨(blk_cell BK131.out 0).trans rfl, (blk_cell BK131.out 1).trans rfl, (blk_cell BK131.out 2).trans rfl⟩ (fun hHeld => ?_)
                      clear hK K
                      refine norm_ (a' := ?_) ?_ ?_
                      rotate_left
                      · show Act.put _ (some 28) _ = _
                        simp only [Act.put, List.setIfInBounds_toArray, List.set_cons_zero, List.set_cons_succ, i64_w, i32_w]
                        rfl
                      refine pu_ 14 29 (bs 30 32767) HT_ ?_ rfl rfl
                      refine pu_ 15 30 (bs 30 65535) HT_ ?_ rfl rfl
                      refine pu_ 16 31 (bs 30 131071) HT_ ?_ rfl rfl
                      refine pv_ 17 32 (bs 30 262143) HT_ ?_ rfl rfl
                      refine pv_ 18 33 (bs 30 524287) HT_ ?_ rfl rfl
                      refine pv_ 19 34 (bs 30 1048575) HT_ ?_ rfl rfl
                      refine pv_ 20 35 (bs 30 2097151) HT_ ?_ rfl rfl
                      refine pv_ 21 36 (bs 30 4194303) HT_ ?_ rfl rfl
                      refine pv_ 22 37 (bs 30 8388607) HT_ ?_ rfl rfl
                      refine pv_ 23 38 (bs 30 16777215) HT_ ?_ rfl rfl
                      refine pv_ 24 39 (bs 30 33554431) HT_ ?_ rfl rfl
                      refine pv_ 25 40 (bs 30 67108863) HT_ ?_ rfl rfl
                      refine pv_ 26 41 (bs 30 134217727) HT_ ?_ rfl rfl
                      refine pv_ 27 42 (bs 30 268435455) HT_ ?_ rfl rfl
                      refine pv_ 28 43 (bs 30 536870911) HT_ ?_ rfl rfl
                      refine pu_ 29 44 (bs 30 1073741823) HT_ ?_ rfl rfl
                      refine done_ (done_of HT_.out (by kernel_rfl)) ?_
                      try go_wp2
                      go_meet
                      case rel => exact ⟨_, (true), er_, H', ⟨au5_4⟩, ⟨bk_ BK131⟩, ⟨bl_⟩⟩
                  · replace c12 := Bool.eq_false_iff.mpr c12
                    subst c12
                    have H1 : (impl_CrossRight.j1 k1 l0 x10_1 l0 (l0.length : Int) x10_1 true ((rd_T37 l0 x10_1).f0) ((rd_T37 l0 x10_1).f1) ((rd_T37 l0 x10_1).f2)) = some r := by rw [if_neg (show ¬ (false = true) by decide)] at H; exact H
                    clear H
                    have H := H1
                    clear H1
                    have H' := Aside0.mk H
                    clear H
                    try go_wp2
                    have n0_ : Aside0 ((((w7.setCell ⟨gb131, 0, none⟩ (.string ((rd_T37 l0 x10_1).f0))).setCell ⟨gb131, 1, none⟩ (.string ((rd_T37 l0 x10_1).f1))).setCell ⟨gb131, 2, none⟩ (.string ((rd_T37 l0 x10_1).f2))).heap[gb131]? = some (.cells #[.string ((rd_T37 l0 x10_1).f0), .string ((rd_T37 l0 x10_1).f1), .string ((rd_T37 l0 x10_1).f2)] 37 (0, 0))) := ⟨au5_0⟩
                    have n1_ : Aside0 (Below w.heap.size w (((w7.setCell ⟨gb131, 0, none⟩ (.string ((rd_T37 l0 x10_1).f0))).setCell ⟨gb131, 1, none⟩ (.string ((rd_T37 l0 x10_1).f1))).setCell ⟨gb131, 2, none⟩ (.string ((rd_T37 l0 x10_1).f2)))) := ⟨bl_⟩
                    (try clear BK131)
                    (try clear HB)
                    generalize (((w7.setCell ⟨gb131, 0, none⟩ (.string ((rd_T37 l0 x10_1).f0))).setCell ⟨gb131, 1, none⟩ (.string ((rd_T37 l0 x10_1).f1))).setCell ⟨gb131, 2, none⟩ (.string ((rd_T37 l0 x10_1).f2))) = w27 at n0_ n1_ ⊢
                    have BK131 := n0_
                    have HB := n1_
                    clear n0_ n1_
                    have n0_ := Aside0.mk (blk_drew BK131.out)
                    have n1_ := Aside0.mk (below_drew1 HB.out)
                    clear BK131
                    clear HB
                    have BK131 := n0_
                    have HB := n1_
                    clear n0_ n1_
                    refine start_ (n := 30) (S := fun w' => w'.cell? ⟨gb131, 0, none⟩ = some (.string ((rd_T37 l0 x10_1).f0)) ∧ w'.cell? ⟨gb131, 1, none⟩ = some (.string ((rd_T37 l0 x10_1).f1)) ∧ w'.cell? ⟨gb131, 2, none⟩ = some (.string ((rd_T37 l0 x10_1).f2))) (ds := []) (bs 30 0) (by kernel_rfl) rfl rfl ⟨(blk_cell BK131.out 0).trans rfl, (blk_cell BK131.out 1).trans rfl, (blk_cell BK131.out 2).trans rfl⟩ (fun hHeld => ?_); refine with_tabW impl_CrossRight.tab6 impl_CrossRight.bits6 (fun HT_ HW_ => ?_)
                    generalize w27.drew = w28 at BK131 HB hHeld ⊢
                    refine pu_ 0 15 (bs 30 1) HT_ ?_ rfl rfl
                    refine tk_ 1 16 (bs 30 3) HT_ HW_ hHeld au5_1 ?_ rfl rfl
                    refine one_ (i := 2) (N := some 17) (bs 30 7) rfl rfl (one_of HT_.out (by kernel_rfl)) (by decide) (fun K hK => ?_)
                    refine gr_ Try.func56 #[.string ((rd_T37 l0 x10_1).f0)] (by rfl) ?_ rfl rfl rfl
                    with_reducible refine (impl_isName.calls k1 ((rd_T37 l0 x10_1).f0) true _ A9.out).mono ?_
                    rintro e w' ⟨rfl, ⟨nd, rfl⟩⟩
                    refine ⟨_, rfl, ?_⟩
                    refine hK.out _ _ ⟨(blk_cell BK131.out 0).trans rfl, (blk_cell BK131.out 1).trans rfl, (blk_cell BK131.out 2).trans rfl⟩ (fun hHeld => ?_)
                    clear hK K
                    refine norm_ (a' := ?_) ?_ ?_
                    rotate_left
                    · show Act.put _ (some 17) _ = _
                      simp only [Act.put, List.setIfInBounds_toArray, List.set_cons_zero, List.set_cons_succ, i64_w, i32_w]
                      rfl
                    refine pu_ 3 18 (bs 30 15) HT_ ?_ rfl rfl
                    refine pu_ 4 19 (bs 30 31) HT_ ?_ rfl rfl
                    refine pu_ 5 20 (bs 30 63) HT_ ?_ rfl rfl
                    refine tk_ 6 21 (bs 30 127) HT_ HW_ hHeld au5_1 ?_ rfl rfl
                    refine one_ (i := 7) (N := some 22) (bs 30 255) rfl rfl (one_of HT_.out (by kernel_rfl)) (by decide) (fun K hK => ?_)
                    refine gr_ Try.func56 #[.string ((rd_T37 l0 x10_1).f1)] (by rfl) ?_ rfl rfl rfl
                    with_reducible refine (impl_isName.calls k1 ((rd_T37 l0 x10_1).f1) false _ A11.out).mono ?_
                    rintro e w' ⟨rfl, ⟨nd, rfl⟩⟩
                    refine ⟨_, rfl, ?_⟩
                    refine hK.out _ _ ⟨(blk_cell BK131.out 0).trans rfl, (blk_cell BK131.out 1).trans rfl, (blk_cell BK131.out 2).trans rfl⟩ (fun hHeld => ?_)
                    clear hK K
                    refine norm_ (a' := ?_) ?_ ?_
                    rotate_left
                    · show Act.put _ (some 22) _ = _
                      simp only [Act.put, List.setIfInBounds_toArray, List.set_cons_zero, List.set_cons_succ, i64_w, i32_w]
                      rfl
                    refine pu_ 8 23 (bs 30 511) HT_ ?_ rfl rfl
                    refine pu_ 9 24 (bs 30 1023) HT_ ?_ rfl rfl
                    refine pu_ 10 25 (bs 30 2047) HT_ ?_ rfl rfl
                    refine pv_ 11 26 (bs 30 4095) HT_ ?_ rfl rfl
                    refine pv_ 12 27 (bs 30 8191) HT_ ?_ rfl rfl
                    refine pv_ 13 28 (bs 30 16383) HT_ ?_ rfl rfl
                    refine pv_ 14 29 (bs 30 32767) HT_ ?_ rfl rfl
                    refine pu_ 15 30 (bs 30 65535) HT_ ?_ rfl rfl
                    refine pu_ 16 31 (bs 30 131071) HT_ ?_ rfl rfl
                    refine pv_ 17 32 (bs 30 262143) HT_ ?_ rfl rfl
                    refine pv_ 18 33 (bs 30 524287) HT_ ?_ rfl rfl
                    refine pv_ 19 34 (bs 30 1048575) HT_ ?_ rfl rfl
                    refine pv_ 20 35 (bs 30 2097151) HT_ ?_ rfl rfl
                    refine pv_ 21 36 (bs 30 4194303) HT_ ?_ rfl rfl
                    refine pv_ 22 37 (bs 30 8388607) HT_ ?_ rfl rfl
                    refine pv_ 23 38 (bs 30 16777215) HT_ ?_ rfl rfl
                    refine pv_ 24 39 (bs 30 33554431) HT_ ?_ rfl rfl
                    refine pv_ 25 40 (bs 30 67108863) HT_ ?_ rfl rfl
                    refine pv_ 26 41 (bs 30 134217727) HT_ ?_ rfl rfl
                    refine pv_ 27 42 (bs 30 268435455) HT_ ?_ rfl rfl
                    refine pv_ 28 43 (bs 30 536870911) HT_ ?_ rfl rfl
                    refine pu_ 29 44 (bs 30 1073741823) HT_ ?_ rfl rfl
                    refine done_ (done_of HT_.out (by kernel_rfl)) ?_
                    try go_wp2
                    go_meet
                    case rel => exact ⟨_, (true), er_, H', ⟨au5_4⟩, ⟨bk_ BK131⟩, ⟨bl_⟩⟩
                · replace c10 := Bool.eq_false_iff.mpr c10
                  subst c10
                  have H1 : (impl_CrossRight.j1 k1 l0 x10_1 l0 (l0.length : Int) x10_1 true ((rd_T37 l0 x10_1).f0) ((rd_T37 l0 x10_1).f1) ((rd_T37 l0 x10_1).f2)) = some r := by rw [if_neg (show ¬ (false = true) by decide)] at H; exact H
                  clear H
                  have H := H1
                  clear H1
                  have H' := Aside0.mk H
                  clear H
                  try go_wp2
                  have n0_ : Aside0 ((((w7.setCell ⟨gb131, 0, none⟩ (.string ((rd_T37 l0 x10_1).f0))).setCell ⟨gb131, 1, none⟩ (.string ((rd_T37 l0 x10_1).f1))).setCell ⟨gb131, 2, none⟩ (.string ((rd_T37 l0 x10_1).f2))).heap[gb131]? = some (.cells #[.string ((rd_T37 l0 x10_1).f0), .string ((rd_T37 l0 x10_1).f1), .string ((rd_T37 l0 x10_1).f2)] 37 (0, 0))) := ⟨au5_0⟩
                  have n1_ : Aside0 (Below w.heap.size w (((w7.setCell ⟨gb131, 0, none⟩ (.string ((rd_T37 l0 x10_1).f0))).setCell ⟨gb131, 1, none⟩ (.string ((rd_T37 l0 x10_1).f1))).setCell ⟨gb131, 2, none⟩ (.string ((rd_T37 l0 x10_1).f2)))) := ⟨bl_⟩
                  (try clear BK131)
                  (try clear HB)
                  generalize (((w7.setCell ⟨gb131, 0, none⟩ (.string ((rd_T37 l0 x10_1).f0))).setCell ⟨gb131, 1, none⟩ (.string ((rd_T37 l0 x10_1).f1))).setCell ⟨gb131, 2, none⟩ (.string ((rd_T37 l0 x10_1).f2))) = w29 at n0_ n1_ ⊢
                  have BK131 := n0_
                  have HB := n1_
                  clear n0_ n1_
                  have n0_ := Aside0.mk (blk_drew BK131.out)
                  have n1_ := Aside0.mk (below_drew1 HB.out)
                  clear BK131
                  clear HB
                  have BK131 := n0_
                  have HB := n1_
                  clear n0_ n1_
                  refine start_ (n := 30) (S := fun w' => w'.cell? ⟨gb131, 0, none⟩ = some (.string ((rd_T37 l0 x10_1).f0)) ∧ w'.cell? ⟨gb131, 1, none⟩ = some (.string ((rd_T37 l0 x10_1).f1)) ∧ w'.cell? ⟨gb131, 2, none⟩ = some (.string ((rd_T37 l0 x10_1).f2))) (ds := []) (bs 30 0) (by kernel_rfl) rfl rfl ⟨(blk_cell BK131.out 0).trans rfl, (blk_cell BK131.out 1).trans rfl, (blk_cell BK131.out 2).trans rfl⟩ (fun hHeld => ?_); refine with_tabW impl_CrossRight.tab6 impl_CrossRight.bits6 (fun HT_ HW_ => ?_)
                  generalize w29.drew = w30 at BK131 HB hHeld ⊢
                  refine pu_ 0 15 (bs 30 1) HT_ ?_ rfl rfl
                  refine tk_ 1 16 (bs 30 3) HT_ HW_ hHeld au5_1 ?_ rfl rfl
                  refine one_ (i := 2) (N := some 17) (bs 30 7) rfl rfl (one_of HT_.out (by kernel_rfl)) (by decide) (fun K hK => ?_)
                  refine gr_ Try.func56 #[.string ((rd_T37 l0 x10_1).f0)] (by rfl) ?_ rfl rfl rfl
                  with_reducible refine (impl_isName.calls k1 ((rd_T37 l0 x10_1).f0) false _ A9.out).mono ?_
                  rintro e w' ⟨rfl, ⟨nd, rfl⟩⟩
                  refine ⟨_, rfl, ?_⟩
                  refine hK.out _ _ ⟨(blk_cell BK131.out 0).trans rfl, (blk_cell BK131.out 1).trans rfl, (blk_cell BK131.out 2).trans rfl⟩ (fun hHeld => ?_)
                  clear hK K
                  refine norm_ (a' := ?_) ?_ ?_
                  rotate_left
                  · show Act.put _ (some 17) _ = _
                    simp only [Act.put, List.setIfInBounds_toArray, List.set_cons_zero, List.set_cons_succ, i64_w, i32_w]
                    rfl
                  refine pu_ 3 18 (bs 30 15) HT_ ?_ rfl rfl
                  refine pu_ 4 19 (bs 30 31) HT_ ?_ rfl rfl
                  refine pv_ 5 20 (bs 30 63) HT_ ?_ rfl rfl
                  refine pv_ 6 21 (bs 30 127) HT_ ?_ rfl rfl
                  refine pv_ 7 22 (bs 30 255) HT_ ?_ rfl rfl
                  refine pv_ 8 23 (bs 30 511) HT_ ?_ rfl rfl
                  refine pu_ 9 24 (bs 30 1023) HT_ ?_ rfl rfl
                  refine pu_ 10 25 (bs 30 2047) HT_ ?_ rfl rfl
                  refine pv_ 11 26 (bs 30 4095) HT_ ?_ rfl rfl
                  refine pv_ 12 27 (bs 30 8191) HT_ ?_ rfl rfl
                  refine pv_ 13 28 (bs 30 16383) HT_ ?_ rfl rfl
                  refine pv_ 14 29 (bs 30 32767) HT_ ?_ rfl rfl
                  refine pu_ 15 30 (bs 30 65535) HT_ ?_ rfl rfl
                  refine pu_ 16 31 (bs 30 131071) HT_ ?_ rfl rfl
                  refine pv_ 17 32 (bs 30 262143) HT_ ?_ rfl rfl
                  refine pv_ 18 33 (bs 30 524287) HT_ ?_ rfl rfl
                  refine pv_ 19 34 (bs 30 1048575) HT_ ?_ rfl rfl
                  refine pv_ 20 35 (bs 30 2097151) HT_ ?_ rfl rfl
                  refine pv_ 21 36 (bs 30 4194303) HT_ ?_ rfl rfl
                  refine pv_ 22 37 (bs 30 8388607) HT_ ?_ rfl rfl
                  refine pv_ 23 38 (bs 30 16777215) HT_ ?_ rfl rfl
                  refine pv_ 24 39 (bs 30 33554431) HT_ ?_ rfl rfl
                  refine pv_ 25 40 (bs 30 67108863) HT_ ?_ rfl rfl
                  refine pv_ 26 41 (bs 30 134217727) HT_ ?_ rfl rfl
                  refine pv_ 27 42 (bs 30 268435455) HT_ ?_ rfl rfl
                  refine pv_ 28 43 (bs 30 536870911) HT_ ?_ rfl rfl
                  refine pu_ 29 44 (bs 30 1073741823) HT_ ?_ rfl rfl
                  refine done_ (done_of HT_.out (by kernel_rfl)) ?_
                  try go_wp2
                  go_meet
                  case rel => exact ⟨_, (true), er_, H', ⟨au5_4⟩, ⟨bk_ BK131⟩, ⟨bl_⟩⟩
              case rest =>
                clear HC6
                try clear c1
                try clear p2
                try clear c5
                try clear c10
                try clear c12
                obtain ⟨kq, x44_5, rfl, HA, HJ5, BK131, HB⟩ := hcut
                cases kq with
                | zero => exact absurd HA.out (by simp [impl_CrossRight.j1])
                | succ kj5 =>
                  have H := HA.out
                  clear HA
                  simp only [impl_CrossRight.j1] at H
                  by_cases c31 : x44_5 = true
                  · subst c31
                    have H1 : (some false) = some r := by rw [if_pos rfl] at H; exact H
                    clear H
                    have H := H1
                    clear H1
                    obtain rfl := Option.some.inj H
                    go_wp2
                    go_ret
                    exact ⟨au5_2, bl_⟩
                  · replace c31 := Bool.eq_false_iff.mpr c31
                    subst c31
                    have H1 : (if 0 ≤ x10_1 then (if x10_1 ≤ (l0.length : Int) then ((impl_Cross_58__impl_CrossRight_1.f kj5 (l0.take (x10_1 : Int).toNat) ((rd_T37 l0 x10_1).f0) ((rd_T37 l0 x10_1).f1) ((rd_T37 l0 x10_1).f2)).bind fun t141 => (if t141 = true then (some false) else (impl_CrossRight.l0 kj5 l0 l0 (l0.length : Int) (wrap64 (x10_1 + 1))))) else (none)) else (none)) = some r := by rw [if_neg (show ¬ (false = true) by decide)] at H; exact H
                    clear H
                    have H := H1
                    clear H1
                    by_cases c32 : 0 ≤ x10_1
                    · rw [if_pos c32] at H
                      have c32b0 := eq_true c32
                      have c32b1 : decide (0 ≤ x10_1) = true := decide_eq_true c32
                      clear c32
                      by_cases c33 : x10_1 ≤ (l0.length : Int)
                      · rw [if_pos c33] at H
                        have c33b0 := eq_true c33
                        have c33b1 : decide (x10_1 ≤ (l0.length : Int)) = true := decide_eq_true c33
                        clear c33
                        obtain ⟨y137, hy137⟩ : ∃ y_ : List (S37), y_ = (l0.take (x10_1 : Int).toNat) := ⟨_, rfl⟩
                        replace H : ((impl_Cross_58__impl_CrossRight_1.f kj5 y137 ((rd_T37 l0 x10_1).f0) ((rd_T37 l0 x10_1).f1) ((rd_T37 l0 x10_1).f2)).bind fun t141 => (if t141 = true then (some false) else (impl_CrossRight.l0 kj5 l0 l0 (l0.length : Int) (wrap64 (x10_1 + 1))))) = some r := by first | (rw [hy137]; with_reducible exact H) | (have H2_ := (Option.bind_some _ _).symm.trans H; rw [hy137]; with_reducible exact H2_) | (have H2_ := (Option.bind_some _ _).symm.trans H; with_reducible exact H2_) | with_reducible exact H | (rw [hy137]; exact H) | exact H
                        have Ny137 := Aside0.mk hy137
                        clear hy137
                        replace H := Option.bind_eq_some_iff.mp H
                        obtain ⟨t141, A340, H⟩ := H
                        replace H : (if t141 = true then (some false) else (impl_CrossRight.l0 kj5 l0 l0 (l0.length : Int) (wrap64 (x10_1 + 1)))) = some r := H
                        have A34 := Aside0.mk A340
                        clear A340
                        by_cases c35 : t141 = true
                        · subst c35
                          have H1 : (some false) = some r := by rw [if_pos rfl] at H; exact H
                          clear H
                          have H := H1
                          clear H1
                          obtain rfl := Option.some.inj H
                          have q36 : (x10_1 : Int) ≤ ((l0.length : Int) : Int) := of_decide_eq_true as_
                          obtain ⟨i036, hi036, _, hsz36, _⟩ := info_parts info37
                          have hroom36 : l0.length ≤ c0 := HC0.out
                          have hC36 : Kd.C k37 _ (some ad130) l0.length l0 := HR0.out
                          have hcut36 := cut_to (P := Try.prog) 25 37 .i64 Try.underlying25 hi036 (some ad130) l0.length c0 x10_1 (of_decide_eq_true as_) q36 hroom36
                          have hr36 := Kd.C_take (m := (x10_1 : Int).toNat) hC36 (by omega)
                          have hy36 : y137.length = (x10_1 : Int).toNat := (by rw [Ny137.out, List.length_take]; omega)
                          rw [← Ny137.out] at hr36
                          rw [← hy36] at hcut36
                          have HR140 := Aside0.mk hr36
                          have HC140 := Aside0.mk (show y137.length ≤ c0 from by omega)
                          clear hr36 hC36 hroom36 hi036 hsz36
                          have KY36 := Aside0.mk hy36
                          clear hy36
                          replace q36 := eq_true q36
                          go_wp2_with (first | ((with_reducible refine gate_callee (f := 58) rfl ?_); refine gl_ 49 Try.func58 #[.slice (some ad130) y137.length c0, .func (.func 59) #[] #[.pointer (some ⟨gb131, 0, none⟩)]] ?_ rfl rfl rfl rfl; (with_reducible refine (impl_Cross_58__impl_CrossRight_1.calls kj5 _ _ y137 gb131 ((rd_T37 l0 x10_1).f0) ((rd_T37 l0 x10_1).f1) ((rd_T37 l0 x10_1).f2) true _ ?side1 ?side2 ?side3 A34.out).mono ?_); (case side1 => exact au5_5); (case side2 => exact HC140.out); (case side3 => exact (bk_ BK131)); rintro e w37 ⟨rfl, hb⟩; refine ⟨_, rfl, ?_⟩; have n0_ := Aside0.mk (blkb_ BK131 hb); have n1_ := Aside0.mk (below_step bl_ hb); clear BK131; clear HB; have BK131 := n0_; have HB := n1_; clear n0_ n1_; (try clear hb); (try clear hb2); (try clear hk); (try clear hi)))
                          go_ret
                          exact ⟨au5_2, bl_⟩
                        · replace c35 := Bool.eq_false_iff.mpr c35
                          subst c35
                          have H1 : (impl_CrossRight.l0 kj5 l0 l0 (l0.length : Int) (wrap64 (x10_1 + 1))) = some r := by rw [if_neg (show ¬ (false = true) by decide)] at H; exact H
                          clear H
                          have H := H1
                          clear H1
                          have H' := Aside0.mk H
                          clear H
                          have q38 : (x10_1 : Int) ≤ ((l0.length : Int) : Int) := of_decide_eq_true as_
                          obtain ⟨i038, hi038, _, hsz38, _⟩ := info_parts info37
                          have hroom38 : l0.length ≤ c0 := HC0.out
                          have hC38 : Kd.C k37 _ (some ad130) l0.length l0 := HR0.out
                          have hcut38 := cut_to (P := Try.prog) 25 37 .i64 Try.underlying25 hi038 (some ad130) l0.length c0 x10_1 (of_decide_eq_true as_) q38 hroom38
                          have hr38 := Kd.C_take (m := (x10_1 : Int).toNat) hC38 (by omega)
                          have hy38 : y137.length = (x10_1 : Int).toNat := (by rw [Ny137.out, List.length_take]; omega)
                          rw [← Ny137.out] at hr38
                          rw [← hy38] at hcut38
                          have HR140 := Aside0.mk hr38
                          have HC140 := Aside0.mk (show y137.length ≤ c0 from by omega)
                          clear hr38 hC38 hroom38 hi038 hsz38
                          have KY38 := Aside0.mk hy38
                          clear hy38
                          replace q38 := eq_true q38
                          go_wp2_with (first | ((with_reducible refine gate_callee (f := 58) rfl ?_); refine gl_ 49 Try.func58 #[.slice (some ad130) y137.length c0, .func (.func 59) #[] #[.pointer (some ⟨gb131, 0, none⟩)]] ?_ rfl rfl rfl rfl; (with_reducible refine (impl_Cross_58__impl_CrossRight_1.calls kj5 _ _ y137 gb131 ((rd_T37 l0 x10_1).f0) ((rd_T37 l0 x10_1).f1) ((rd_T37 l0 x10_1).f2) false _ ?side1 ?side2 ?side3 A34.out).mono ?_); (case side1 => exact au5_5); (case side2 => exact HC140.out); (case side3 => exact (bk_ BK131)); rintro e w39 ⟨rfl, hb⟩; refine ⟨_, rfl, ?_⟩; have n0_ := Aside0.mk (blkb_ BK131 hb); have n1_ := Aside0.mk (below_step bl_ hb); clear BK131; clear HB; have BK131 := n0_; have HB := n1_; clear n0_ n1_; (try clear hb); (try clear hb2); (try clear hk); (try clear hi)))
                          go_roundg kj5
                          case measure => have := HK1.out; have := HJ5.out; omega
                          case rel => exact ⟨(wrap64 (x10_1 + 1)), er_, H', ⟨by have := HK1.out; have := HJ5.out; omega⟩, ⟨bl_⟩⟩
                      · rw [if_neg c33] at H
                        exact absurd H (by simp)
                    · rw [if_neg c32] at H
                      exact absurd H (by simp)
            · rw [if_neg c5] at H
              exact absurd H (by simp)
          · rw [if_neg c4] at H
            exact absurd H (by simp)
        · rw [if_neg c3] at H
          have c3b0 : decide (x10_1 < (l0.length : Int)) = false := decide_eq_false c3
          clear c3
          obtain rfl := Option.some.inj H
          go_wp2
          go_ret
          exact ⟨au5_2, bl_⟩

end Go.Proofs.Ytjffakoifpldeaa.PFnCross
