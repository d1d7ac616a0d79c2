-- printed by a program of this session (wip/xp/xprint.py) out of the translation; Lean checks it
import Derived.Test.YtlghcbmkhdibdaaPFnExactParcelSamex0
import Derived.Test.YtlghcbmkhdibdaaPFnExactParcelSamex3
namespace Go.Proofs.Ytlghcbmkhdibdaa.PFnExactParcelSame
open Go.RowKit Go.Proofs.YtlghcbmkhdibdaaW.PrintWords Go.Proofs.YtlghcbmkhdibdaaW.PrintLast Go.Proofs.YtlghcbmkhdibdaaW.PrintMore
attribute [local go_sem] max2_int min2_int max_two min_two max_three min_three max_four min_four   -- for this text's walks alone
set_option linter.unusedVariables false
set_option linter.unusedSimpArgs false

theorem au4_0 {p : Prop} (h : p := by rintro w' ⟨s0, s1, s2, s3, s4, s5, s6, s7, s8, s9, s10, s11, s12, s13, s14, s15, s16, s17, s18, s19⟩; go_simp; with_reducible rfl) : p := h
theorem au4_1 {p : Prop} (h : p := by first | rfl | (simp [errW_none, errW_some] <;> rfl) | (simp [*, errW_none, errW_some] <;> rfl)) : p := h
theorem au4_2 {p : Prop} (h : p := by repeat (first | exact (Kd.C_below HR120_4.out HB.out) | (with_reducible refine Kd.C_alloc ?_ _) | (with_reducible refine Kd.C_drewN ?_ _) | (with_reducible refine Kd.C_drew ?_))) : p := h
theorem au4_3 {p : Prop} (h : p := by repeat (first | exact (Kd.C_below HR120_5.out HB.out) | (with_reducible refine Kd.C_alloc ?_ _) | (with_reducible refine Kd.C_drewN ?_ _) | (with_reducible refine Kd.C_drew ?_))) : p := h
theorem au4_4 {p : Prop} (h : p := by repeat (first | exact (Kd.C_below HR121_4.out HB.out) | (with_reducible refine Kd.C_alloc ?_ _) | (with_reducible refine Kd.C_drewN ?_ _) | (with_reducible refine Kd.C_drew ?_))) : p := h
theorem au4_5 {p : Prop} (h : p := by repeat (first | exact (Kd.C_below HR121_5.out HB.out) | (with_reducible refine Kd.C_alloc ?_ _) | (with_reducible refine Kd.C_drewN ?_ _) | (with_reducible refine Kd.C_drew ?_))) : p := h
theorem au4_6 {p : Prop} (h : p := by first | omega | exact Nat.le_refl _) : p := h

/-! ### spec_ParcelSame: function 14 -/
mutual
def spec_ParcelSame.j0 : Nat → Bool → ByteArray → ByteArray → Int → List (S30) → ByteArray → ByteArray → Int → List (S30) → Option (Bool)
  | 0, _, _, _, _, _, _, _, _, _ => none
  | k + 1, x33, x119000, x119001, x119002, x119003, x120000, x120001, x120002, x120003 => if x33 = true then (some false) else (spec_ParcelSame.l0 k 0 x119000 x119001 x119002 x119003 x120000 x120001 x120002 x120003)
def spec_ParcelSame.l0 : Nat → Int → ByteArray → ByteArray → Int → List (S30) → ByteArray → ByteArray → Int → List (S30) → Option (Bool)
  | 0, _, _, _, _, _, _, _, _, _ => none
  | k + 1, x5, x119000, x119001, x119002, x119003, x120000, x120001, x120002, x120003 => if x5 < (x119003.length : Int) then (if 0 ≤ x5 then (if x5 < (x120003.length : Int) then ((spec_PaperSame.f k ((rd_T30 x119003 x5).f0) ((rd_T30 x119003 x5).f1) ((rd_T30 x119003 x5).f2) ((rd_T30 x119003 x5).f3) ((rd_T30 x119003 x5).f4) ((rd_T30 x119003 x5).f5) ((rd_T30 x120003 x5).f0) ((rd_T30 x120003 x5).f1) ((rd_T30 x120003 x5).f2) ((rd_T30 x120003 x5).f3) ((rd_T30 x120003 x5).f4) ((rd_T30 x120003 x5).f5)).bind fun t122 => (if t122 = true then (spec_ParcelSame.l0 k (wrap64 (x5 + 1)) x119000 x119001 x119002 x119003 x120000 x120001 x120002 x120003) else (some false))) else (none)) else (none)) else (some true)
end
def spec_ParcelSame.f (k : Nat) (a0_0 : ByteArray) (a0_1 : ByteArray) (a0_2 : Int) (l0_3 : List (S30)) (a1_0 : ByteArray) (a1_1 : ByteArray) (a1_2 : Int) (l1_3 : List (S30)) : Option (Bool) := if a0_0.toList = a1_0.toList then (if a0_1.toList = a1_1.toList then (if a0_2 = a1_2 then (spec_ParcelSame.j0 k ((l0_3.length : Int) != (l1_3.length : Int)) a0_0 a0_1 a0_2 l0_3 a1_0 a1_1 a1_2 l1_3) else (spec_ParcelSame.j0 k true a0_0 a0_1 a0_2 l0_3 a1_0 a1_1 a1_2 l1_3)) else (spec_ParcelSame.j0 k true a0_0 a0_1 a0_2 l0_3 a1_0 a1_1 a1_2 l1_3)) else (spec_ParcelSame.j0 k true a0_0 a0_1 a0_2 l0_3 a1_0 a1_1 a1_2 l1_3)
theorem spec_ParcelSame.mono_l : ∀ k, (∀ y0 y1 y2 y3 y4 y5 y6 y7 y8, LeO (spec_ParcelSame.j0 k y0 y1 y2 y3 y4 y5 y6 y7 y8) (spec_ParcelSame.j0 (k + 1) y0 y1 y2 y3 y4 y5 y6 y7 y8)) ∧ (∀ y0 y1 y2 y3 y4 y5 y6 y7 y8, LeO (spec_ParcelSame.l0 k y0 y1 y2 y3 y4 y5 y6 y7 y8) (spec_ParcelSame.l0 (k + 1) y0 y1 y2 y3 y4 y5 y6 y7 y8))
  | 0 => ⟨fun _ _ _ _ _ _ _ _ _ r h => by simp [spec_ParcelSame.j0] at h, fun _ _ _ _ _ _ _ _ _ r h => by simp [spec_ParcelSame.l0] at h⟩
  | k + 1 => by
    obtain ⟨ih0, ih1⟩ := spec_ParcelSame.mono_l k
    refine ⟨?_, ?_⟩
    · intro y0 y1 y2 y3 y4 y5 y6 y7 y8
      unfold spec_ParcelSame.j0
      repeat' first
      | (with_reducible exact ih0 _ _ _ _ _ _ _ _ _)
      | (with_reducible exact ih1 _ _ _ _ _ _ _ _ _)
      | (with_reducible exact spec_PaperSame.mono _ _ _ _ _ _ _ _ _ _ _ _ _)
      | (with_reducible exact LeO.refl _)
      | (with_reducible exact LeO.none _)
      | (with_reducible refine LeO.ite ?_ ?_)
      | (with_reducible refine LeO.bind ?_ (fun _ => ?_))
      | exact ih0 _ _ _ _ _ _ _ _ _
      | exact ih1 _ _ _ _ _ _ _ _ _
      | exact spec_PaperSame.mono _ _ _ _ _ _ _ _ _ _ _ _ _
      | exact LeO.none _
      | refine LeO.ite ?_ ?_
      | refine LeO.bind ?_ (fun _ => ?_)
    · intro y0 y1 y2 y3 y4 y5 y6 y7 y8
      unfold spec_ParcelSame.l0
      repeat' first
      | (with_reducible exact ih0 _ _ _ _ _ _ _ _ _)
      | (with_reducible exact ih1 _ _ _ _ _ _ _ _ _)
      | (with_reducible exact spec_PaperSame.mono _ _ _ _ _ _ _ _ _ _ _ _ _)
      | (with_reducible exact LeO.refl _)
      | (with_reducible exact LeO.none _)
      | (with_reducible refine LeO.ite ?_ ?_)
      | (with_reducible refine LeO.bind ?_ (fun _ => ?_))
      | exact ih0 _ _ _ _ _ _ _ _ _
      | exact ih1 _ _ _ _ _ _ _ _ _
      | exact spec_PaperSame.mono _ _ _ _ _ _ _ _ _ _ _ _ _
      | exact LeO.none _
      | refine LeO.ite ?_ ?_
      | refine LeO.bind ?_ (fun _ => ?_)
theorem spec_ParcelSame.mono : ∀ a0 a1 a2 a3 a4 a5 a6 a7 k, LeO (spec_ParcelSame.f k a0 a1 a2 a3 a4 a5 a6 a7) (spec_ParcelSame.f (k + 1) a0 a1 a2 a3 a4 a5 a6 a7) := by
  intro a0 a1 a2 a3 a4 a5 a6 a7 k
  obtain ⟨ih0, ih1⟩ := spec_ParcelSame.mono_l k
  unfold spec_ParcelSame.f
  repeat' first
      | (with_reducible exact ih0 _ _ _ _ _ _ _ _ _)
      | (with_reducible exact ih1 _ _ _ _ _ _ _ _ _)
      | (with_reducible exact spec_PaperSame.mono _ _ _ _ _ _ _ _ _ _ _ _ _)
      | (with_reducible exact LeO.refl _)
      | (with_reducible exact LeO.none _)
      | (with_reducible refine LeO.ite ?_ ?_)
      | (with_reducible refine LeO.bind ?_ (fun _ => ?_))
      | exact ih0 _ _ _ _ _ _ _ _ _
      | exact ih1 _ _ _ _ _ _ _ _ _
      | exact spec_PaperSame.mono _ _ _ _ _ _ _ _ _ _ _ _ _
      | exact LeO.none _
      | refine LeO.ite ?_ ?_
      | refine LeO.bind ?_ (fun _ => ?_)
def spec_ParcelSame.T6 : Bool × List (List Nat × List Nat) := (true, [([], []), ([0], [0]), ([], []), ([1, 2], [1, 2]), ([3], [3]), ([], []), ([5], [5]), ([], []), ([6, 7], [6, 7]), ([8], [8]), ([4, 9], [4, 9]), ([10], [10])])
def spec_ParcelSame.B6 : List Nat := [0, 1, 0, 7, 15, 0, 32, 0, 224, 480, 1023, 2047]
theorem spec_ParcelSame.tab6 : rtab .any (opsOf Try.f14 6) = spec_ParcelSame.T6 := by kernel_rfl
theorem spec_ParcelSame.bits6 : waitsOk spec_ParcelSame.T6.2 spec_ParcelSame.B6 = true := by kernel_rfl
set_option maxHeartbeats 8000000 in
set_option maxRecDepth 100000 in
theorem spec_ParcelSame.calls (k : Nat) (a0_0 : ByteArray) (a0_1 : ByteArray) (a0_2 : Int) (A0_3 : Option Addr) (c0_3 : Nat) (l0_3 : List (S30)) (a1_0 : ByteArray) (a1_1 : ByteArray) (a1_2 : Int) (A1_3 : Option Addr) (c1_3 : Nat) (l1_3 : List (S30)) (r : Bool) (w : World) (hr0_3 : Kd.C k30 w A0_3 l0_3.length l0_3) (hc0_3 : l0_3.length ≤ c0_3) (hr1_3 : Kd.C k30 w A1_3 l1_3.length l1_3) (hc1_3 : l1_3.length ≤ c1_3) (h : spec_ParcelSame.f k a0_0 a0_1 a0_2 l0_3 a1_0 a1_1 a1_2 l1_3 = some r) :
    Calls Try.prog 14 #[.agg #[.string a0_0, .string a0_1, .int .i64 a0_2, .slice A0_3 l0_3.length c0_3], .agg #[.string a1_0, .string a1_1, .int .i64 a1_2, .slice A1_3 l1_3.length c1_3]] w fun e w' => e = .returned (.bool r) ∧ Below w.heap.size w w' := by
  have hu40 := Try.underlying40
  have hu30 := Try.underlying30
  have HR0_3 := Aside0.mk hr0_3
  have HC0_3 := Aside0.mk hc0_3
  clear hr0_3 hc0_3
  have HR1_3 := Aside0.mk hr1_3
  have HC1_3 := Aside0.mk hc1_3
  clear hr1_3 hc1_3
  have HB := Aside0.mk (Below.refl w.heap.size w)
  have H : (if a0_0.toList = a1_0.toList then (if a0_1.toList = a1_1.toList then (if a0_2 = a1_2 then (spec_ParcelSame.j0 k ((l0_3.length : Int) != (l1_3.length : Int)) a0_0 a0_1 a0_2 l0_3 a1_0 a1_1 a1_2 l1_3) else (spec_ParcelSame.j0 k true a0_0 a0_1 a0_2 l0_3 a1_0 a1_1 a1_2 l1_3)) else (spec_ParcelSame.j0 k true a0_0 a0_1 a0_2 l0_3 a1_0 a1_1 a1_2 l1_3)) else (spec_ParcelSame.j0 k true a0_0 a0_1 a0_2 l0_3 a1_0 a1_1 a1_2 l1_3)) = some r := h
  clear h
  have HC3 := Aside0.mk H
  clear H
  go_enter Try.func14, Try.ntmps14
  go_upto_region 1 with (first | ((with_reducible refine gate_dst (N := 2) rfl ?_); (try (refine gate_guard (by rfl) ?_; dsimp only)); refine box_event ?hg (N := 2) ?hd (cs := #[.string a0_0, .string a0_1, .int .i64 a0_2, .slice A0_3 l0_3.length c0_3]) (t := 40) ?hr ?_; (case hd => rfl); (case hg => rfl); (case hr => exact hr_); intro gb118 hg w4 hbox hb; have n0_ := Aside0.mk (below_step bl_ hb); have n1_ := Aside0.mk (hbox); have n2_ := Aside0.mk (gw_ hg bl_); have n3_ := Aside0.mk (gw_ hg bl_); clear HB; have HB := n0_; have BK118 := n1_; have GW118 := n2_; have GE118 := n3_; clear n0_ n1_ n2_ n3_; clear hb hbox hg) | ((with_reducible refine gate_dst (N := 3) rfl ?_); (try (refine gate_guard (by rfl) ?_; dsimp only)); refine box_event ?hg (N := 3) ?hd (cs := #[.string a1_0, .string a1_1, .int .i64 a1_2, .slice A1_3 l1_3.length c1_3]) (t := 40) ?hr ?_; (case hd => rfl); (case hg => rfl); (case hr => exact hr_); intro gb119 hg w5 hbox hb; have n0_ := Aside0.mk (blkb_ BK118 hb); have n1_ := Aside0.mk (below_step bl_ hb); have n2_ := Aside0.mk (hbox); have n3_ := Aside0.mk (gw_ hg bl_); have n4_ := Aside0.mk (gw_ hg bl_); have n5_ := Aside0.mk (gn_ hg (blkl_ BK118)); have n6_ := Aside0.mk (gm_ hg (blkl_ BK118)); clear BK118; clear HB; have BK118 := n0_; have HB := n1_; have BK119 := n2_; have GW119 := n3_; have GE119 := n4_; have NB118_119 := n5_; have NB119_118 := n6_; clear n0_ n1_ n2_ n3_ n4_ n5_ n6_; clear hb hbox hg))
  (try simp only [Act.put, List.setIfInBounds_toArray, List.set_cons_zero, List.set_cons_succ])
  go_cut [33] (fun v33 wc => ∃ (kq : Nat) (x33_2 : Bool), v33 = .bool x33_2 ∧ Aside0 (spec_ParcelSame.j0 kq x33_2 a0_0 a0_1 a0_2 l0_3 a1_0 a1_1 a1_2 l1_3 = some r) ∧ Aside0 (kq ≤ k) ∧ Aside0 (wc.heap[gb118]? = some (.cells #[.string a0_0, .string a0_1, .int .i64 a0_2, (.slice A0_3 l0_3.length c0_3)] 40 (0, 0))) ∧ Aside0 (wc.heap[gb119]? = some (.cells #[.string a1_0, .string a1_1, .int .i64 a1_2, (.slice A1_3 l1_3.length c1_3)] 40 (0, 0))) ∧ Aside0 (Below w.heap.size w wc))
  case first =>
    have H := HC3.out
    clear HC3
    by_cases c6 : a0_0.toList = a1_0.toList
    · rw [if_pos c6] at H
      have c6b0 : (a0_0.toList == a1_0.toList) = true := beq_iff_eq.mpr c6
      have c6b1 : (a0_0.toList != a1_0.toList) = false := bne_eq_false_iff_eq.mpr c6
      clear c6
      (first | rw [c6b0] | (simp only [i64_w, i32_w]; rw [c6b0]) | skip)
      by_cases c7 : a0_1.toList = a1_1.toList
      · rw [if_pos c7] at H
        have c7b0 : (a0_1.toList == a1_1.toList) = true := beq_iff_eq.mpr c7
        have c7b1 : (a0_1.toList != a1_1.toList) = false := bne_eq_false_iff_eq.mpr c7
        clear c7
        by_cases c8 : a0_2 = a1_2
        · rw [if_pos c8] at H
          have c8b0 : (a0_2 == a1_2) = true := beq_iff_eq.mpr c8
          have c8b1 : (a0_2 != a1_2) = false := bne_eq_false_iff_eq.mpr c8
          clear c8
          have H' := Aside0.mk H
          clear H
          have hnb9 := NB118_119.out
          have hnc9 := NB119_118.out
          obtain ⟨hcz10_0, hcz10_1, hcz10_2, hcz10_3, hfz10_0, hfz10_1, hfz10_2, hfz10_3⟩ := cellsF4 BK118.out
          obtain ⟨hcz11_0, hcz11_1, hcz11_2, hcz11_3, hfz11_0, hfz11_1, hfz11_2, hfz11_3⟩ := cellsF4 BK119.out
          go_wp2
          go_meet
          case rel => exact ⟨_, (((l0_3.length : Int) != (l1_3.length : Int))), er_, H', ⟨au4_6⟩, ⟨bk_ BK118⟩, ⟨bk_ BK119⟩, ⟨bl_⟩⟩
        · rw [if_neg c8] at H
          have c8b0 : (a0_2 == a1_2) = false := beq_eq_false_iff_ne.mpr c8
          have c8b1 : (a0_2 != a1_2) = true := bne_iff_ne.mpr c8
          have H' := Aside0.mk H
          clear H
          have hnb12 := NB118_119.out
          have hnc12 := NB119_118.out
          obtain ⟨hcz13_0, hcz13_1, hcz13_2, hcz13_3, hfz13_0, hfz13_1, hfz13_2, hfz13_3⟩ := cellsF4 BK118.out
          obtain ⟨hcz14_0, hcz14_1, hcz14_2, hcz14_3, hfz14_0, hfz14_1, hfz14_2, hfz14_3⟩ := cellsF4 BK119.out
          go_wp2
          go_meet
          case rel => exact ⟨_, (true), er_, H', ⟨au4_6⟩, ⟨bk_ BK118⟩, ⟨bk_ BK119⟩, ⟨bl_⟩⟩
      · rw [if_neg c7] at H
        have c7b0 : (a0_1.toList == a1_1.toList) = false := beq_eq_false_iff_ne.mpr c7
        have c7b1 : (a0_1.toList != a1_1.toList) = true := bne_iff_ne.mpr c7
        have H' := Aside0.mk H
        clear H
        have hnb15 := NB118_119.out
        have hnc15 := NB119_118.out
        obtain ⟨hcz16_0, hcz16_1, hcz16_2, hcz16_3, hfz16_0, hfz16_1, hfz16_2, hfz16_3⟩ := cellsF4 BK118.out
        obtain ⟨hcz17_0, hcz17_1, hcz17_2, hcz17_3, hfz17_0, hfz17_1, hfz17_2, hfz17_3⟩ := cellsF4 BK119.out
        go_wp2
        go_meet
        case rel => exact ⟨_, (true), er_, H', ⟨au4_6⟩, ⟨bk_ BK118⟩, ⟨bk_ BK119⟩, ⟨bl_⟩⟩
    · rw [if_neg c6] at H
      have c6b0 : (a0_0.toList == a1_0.toList) = false := beq_eq_false_iff_ne.mpr c6
      have c6b1 : (a0_0.toList != a1_0.toList) = true := bne_iff_ne.mpr c6
      (first | rw [c6b0] | (simp only [i64_w, i32_w]; rw [c6b0]) | skip)
      have H' := Aside0.mk H
      clear H
      have hnb18 := NB118_119.out
      have hnc18 := NB119_118.out
      obtain ⟨hcz19_0, hcz19_1, hcz19_2, hcz19_3, hfz19_0, hfz19_1, hfz19_2, hfz19_3⟩ := cellsF4 BK118.out
      obtain ⟨hcz20_0, hcz20_1, hcz20_2, hcz20_3, hfz20_0, hfz20_1, hfz20_2, hfz20_3⟩ := cellsF4 BK119.out
      go_wp2
      go_meet
      case rel => exact ⟨_, (true), er_, H', ⟨au4_6⟩, ⟨bk_ BK118⟩, ⟨bk_ BK119⟩, ⟨bl_⟩⟩
  case rest =>
    clear HC3
    try clear c1
    try clear p2
    try clear c6
    try clear c6b0
    try clear c6b1
    try clear c7
    try clear c7b0
    try clear c7b1
    try clear c8
    try clear c8b0
    try clear c8b1
    try clear c9
    try clear c12
    try clear c14
    try clear c15
    try clear c18
    try clear hcz10_0
    try clear hcz10_1
    try clear hcz10_2
    try clear hcz10_3
    try clear hcz11_0
    try clear hcz11_1
    try clear hcz11_2
    try clear hcz11_3
    try clear hcz13_0
    try clear hcz13_1
    try clear hcz13_2
    try clear hcz13_3
    try clear hcz14_0
    try clear hcz14_1
    try clear hcz14_2
    try clear hcz14_3
    try clear hcz16_0
    try clear hcz16_1
    try clear hcz16_2
    try clear hcz16_3
    try clear hcz17_0
    try clear hcz17_1
    try clear hcz17_2
    try clear hcz17_3
    try clear hcz19_0
    try clear hcz19_1
    try clear hcz19_2
    try clear hcz19_3
    try clear hcz20_0
    try clear hcz20_1
    try clear hcz20_2
    try clear hcz20_3
    try clear hfz10_0
    try clear hfz10_1
    try clear hfz10_2
    try clear hfz10_3
    try clear hfz11_0
    try clear hfz11_1
    try clear hfz11_2
    try clear hfz11_3
    try clear hfz13_0
    try clear hfz13_1
    try clear hfz13_2
    try clear hfz13_3
    try clear hfz14_0
    try clear hfz14_1
    try clear hfz14_2
    try clear hfz14_3
    try clear hfz16_0
    try clear hfz16_1
    try clear hfz16_2
    try clear hfz16_3
    try clear hfz17_0
    try clear hfz17_1
    try clear hfz17_2
    try clear hfz17_3
    try clear hfz19_0
    try clear hfz19_1
    try clear hfz19_2
    try clear hfz19_3
    try clear hfz20_0
    try clear hfz20_1
    try clear hfz20_2
    try clear hfz20_3
    obtain ⟨kq, x33_2, rfl, HA, HJ2, BK118, BK119, HB⟩ := hcut
    cases kq with
    | zero => exact absurd HA.out (by simp [spec_ParcelSame.j0])
    | succ kj2 =>
      have H := HA.out
      clear HA
      simp only [spec_ParcelSame.j0] at H
      by_cases c21 : x33_2 = true
      · subst c21
        have H1 : (some false) = some r := by rw [if_pos rfl] at H; exact H
        clear H
        have H := H1
        clear H1
        obtain rfl := Option.some.inj H
        go_wp2
        go_ret
        exact ⟨au4_1, bl_⟩
      · replace c21 := Bool.eq_false_iff.mpr c21
        subst c21
        have H1 : (spec_ParcelSame.l0 kj2 0 a0_0 a0_1 a0_2 l0_3 a1_0 a1_1 a1_2 l1_3) = some r := by rw [if_neg (show ¬ (false = true) by decide)] at H; exact H
        clear H
        have H := H1
        clear H1
        have H' := Aside0.mk H
        clear H
        go_wp2
        go_loopg [5] kj2 (fun kq v5 w' => ∃ (x5_2 : Int), v5 = .int .i64 x5_2 ∧ Aside0 (spec_ParcelSame.l0 kq x5_2 a0_0 a0_1 a0_2 l0_3 a1_0 a1_1 a1_2 l1_3 = some r) ∧ Aside0 (kq ≤ kj2) ∧ Aside0 (w'.heap[gb118]? = some (.cells #[.string a0_0, .string a0_1, .int .i64 a0_2, (.slice A0_3 l0_3.length c0_3)] 40 (0, 0))) ∧ Aside0 (w'.heap[gb119]? = some (.cells #[.string a1_0, .string a1_1, .int .i64 a1_2, (.slice A1_3 l1_3.length c1_3)] 40 (0, 0))) ∧ Aside0 (Below w.heap.size w w'))
        case atStart => exact ⟨(0), er_, H', ⟨Nat.le_refl _⟩, ⟨bk_ BK118⟩, ⟨bk_ BK119⟩, ⟨bl_⟩⟩
        case round =>
          clear H'
          try clear c1
          try clear c2
          try clear p2
          try clear c6
          try clear c6b0
          try clear c6b1
          try clear c7
          try clear c7b0
          try clear c7b1
          try clear c8
          try clear c8b0
          try clear c8b1
          try clear c9
          try clear c12
          try clear c14
          try clear c15
          try clear c18
          try clear c21
          try clear hcz10_0
          try clear hcz10_1
          try clear hcz10_2
          try clear hcz10_3
          try clear hcz11_0
          try clear hcz11_1
          try clear hcz11_2
          try clear hcz11_3
          try clear hcz13_0
          try clear hcz13_1
          try clear hcz13_2
          try clear hcz13_3
          try clear hcz14_0
          try clear hcz14_1
          try clear hcz14_2
          try clear hcz14_3
          try clear hcz16_0
          try clear hcz16_1
          try clear hcz16_2
          try clear hcz16_3
          try clear hcz17_0
          try clear hcz17_1
          try clear hcz17_2
          try clear hcz17_3
          try clear hcz19_0
          try clear hcz19_1
          try clear hcz19_2
          try clear hcz19_3
          try clear hcz20_0
          try clear hcz20_1
          try clear hcz20_2
          try clear hcz20_3
          try clear hfz10_0
          try clear hfz10_1
          try clear hfz10_2
          try clear hfz10_3
          try clear hfz11_0
          try clear hfz11_1
          try clear hfz11_2
          try clear hfz11_3
          try clear hfz13_0
          try clear hfz13_1
          try clear hfz13_2
          try clear hfz13_3
          try clear hfz14_0
          try clear hfz14_1
          try clear hfz14_2
          try clear hfz14_3
          try clear hfz16_0
          try clear hfz16_1
          try clear hfz16_2
          try clear hfz16_3
          try clear hfz17_0
          try clear hfz17_1
          try clear hfz17_2
          try clear hfz17_3
          try clear hfz19_0
          try clear hfz19_1
          try clear hfz19_2
          try clear hfz19_3
          try clear hfz20_0
          try clear hfz20_1
          try clear hfz20_2
          try clear hfz20_3
          try clear p2
          obtain ⟨x5_2, rfl, HA, HK2, BK118, BK119, HB⟩ := hrel
          cases gk with
          | zero => exact absurd HA.out (by simp [spec_ParcelSame.l0])
          | succ k2 =>
            have H := HA.out
            clear HA
            simp only [spec_ParcelSame.l0] at H
            by_cases c22 : x5_2 < (l0_3.length : Int)
            · rw [if_pos c22] at H
              have c22b0 : decide (x5_2 < (l0_3.length : Int)) = true := decide_eq_true c22
              clear c22
              by_cases c23 : 0 ≤ x5_2
              · rw [if_pos c23] at H
                have c23b0 : decide (0 ≤ x5_2) = true := decide_eq_true c23
                clear c23
                by_cases c24 : x5_2 < (l1_3.length : Int)
                · rw [if_pos c24] at H
                  have c24b0 : decide (x5_2 < (l1_3.length : Int)) = true := decide_eq_true c24
                  clear c24
                  replace H := Option.bind_eq_some_iff.mp H
                  obtain ⟨t122, A250, H⟩ := H
                  replace H : (if t122 = true then (spec_ParcelSame.l0 k2 (wrap64 (x5_2 + 1)) a0_0 a0_1 a0_2 l0_3 a1_0 a1_1 a1_2 l1_3) else (some false)) = some r := H
                  have A25 := Aside0.mk A250
                  clear A250
                  by_cases c26 : t122 = true
                  · subst c26
                    have H1 : (spec_ParcelSame.l0 k2 (wrap64 (x5_2 + 1)) a0_0 a0_1 a0_2 l0_3 a1_0 a1_1 a1_2 l1_3) = some r := by rw [if_pos rfl] at H; exact H
                    clear H
                    have H := H1
                    clear H1
                    have H' := Aside0.mk H
                    clear H
                    have hnb27 := NB118_119.out
                    have hnc27 := NB119_118.out
                    obtain ⟨hcz28_0, hcz28_1, hcz28_2, hcz28_3, hfz28_0, hfz28_1, hfz28_2, hfz28_3⟩ := cellsF4 BK118.out
                    try go_wp2
                    have n0_ := Aside0.mk (blk_drew BK118.out)
                    have n1_ := Aside0.mk (blk_drew BK119.out)
                    have n2_ := Aside0.mk (below_drew1 HB.out)
                    clear BK118
                    clear BK119
                    clear HB
                    have BK118 := n0_
                    have BK119 := n1_
                    have HB := n2_
                    clear n0_ n1_ n2_
                    have p120 : 0 ≤ (x5_2 : Int) := of_decide_eq_true as_
                    have q120 : x5_2 < (l0_3.length : Int) := of_decide_eq_true as_
                    obtain ⟨ad120, A120_4, c120_4, A120_5, c120_5, e120, hx120_0, hx120_1, hx120_2, hx120_3, hx120_4, hx120_5, hl120_4, hi120_4, hl120_5, hi120_5⟩ := at_T30 HR0_3.out x5_2 p120 q120
                    have hw120_5 := hx120_5
                    have hw120_4 := hx120_4
                    have hw120_3 := hx120_3
                    have hw120_2 := hx120_2
                    have hw120_1 := hx120_1
                    have hw120_0 := hx120_0
                    cases e120
                    replace hx120_0 := (HB.out.cell (World.block_lt_of_cell? _ _ hx120_0)).trans hx120_0
                    replace hx120_1 := (HB.out.cell (World.block_lt_of_cell? _ _ hx120_1)).trans hx120_1
                    replace hx120_2 := (HB.out.cell (World.block_lt_of_cell? _ _ hx120_2)).trans hx120_2
                    replace hx120_3 := (HB.out.cell (World.block_lt_of_cell? _ _ hx120_3)).trans hx120_3
                    replace hx120_4 := (HB.out.cell (World.block_lt_of_cell? _ _ hx120_4)).trans hx120_4
                    replace hx120_5 := (HB.out.cell (World.block_lt_of_cell? _ _ hx120_5)).trans hx120_5
                    have HR120_4 := Aside0.mk hi120_4
                    have HC120_4 := Aside0.mk hl120_4
                    clear hi120_4 hl120_4
                    have HR120_5 := Aside0.mk hi120_5
                    have HC120_5 := Aside0.mk hl120_5
                    clear hi120_5 hl120_5
                    replace p120 := eq_true p120
                    replace q120 := eq_true q120
                    have p121 : 0 ≤ (x5_2 : Int) := of_decide_eq_true as_
                    have q121 : x5_2 < (l1_3.length : Int) := of_decide_eq_true as_
                    obtain ⟨ad121, A121_4, c121_4, A121_5, c121_5, e121, hx121_0, hx121_1, hx121_2, hx121_3, hx121_4, hx121_5, hl121_4, hi121_4, hl121_5, hi121_5⟩ := at_T30 HR1_3.out x5_2 p121 q121
                    have hw121_5 := hx121_5
                    have hw121_4 := hx121_4
                    have hw121_3 := hx121_3
                    have hw121_2 := hx121_2
                    have hw121_1 := hx121_1
                    have hw121_0 := hx121_0
                    cases e121
                    replace hx121_0 := (HB.out.cell (World.block_lt_of_cell? _ _ hx121_0)).trans hx121_0
                    replace hx121_1 := (HB.out.cell (World.block_lt_of_cell? _ _ hx121_1)).trans hx121_1
                    replace hx121_2 := (HB.out.cell (World.block_lt_of_cell? _ _ hx121_2)).trans hx121_2
                    replace hx121_3 := (HB.out.cell (World.block_lt_of_cell? _ _ hx121_3)).trans hx121_3
                    replace hx121_4 := (HB.out.cell (World.block_lt_of_cell? _ _ hx121_4)).trans hx121_4
                    replace hx121_5 := (HB.out.cell (World.block_lt_of_cell? _ _ hx121_5)).trans hx121_5
                    have HR121_4 := Aside0.mk hi121_4
                    have HC121_4 := Aside0.mk hl121_4
                    clear hi121_4 hl121_4
                    have HR121_5 := Aside0.mk hi121_5
                    have HC121_5 := Aside0.mk hl121_5
                    clear hi121_5 hl121_5
                    replace p121 := eq_true p121
                    replace q121 := eq_true q121
                    refine start_ (n := 12) (S := fun w' => w'.cell? ⟨gb118, 0, none⟩ = some (.string a0_0) ∧ w'.cell? ⟨gb118, 1, none⟩ = some (.string a0_1) ∧ w'.cell? ⟨gb118, 2, none⟩ = some (.int .i64 a0_2) ∧ w'.cell? ⟨gb118, 3, none⟩ = some (.slice (some ad120) l0_3.length c0_3) ∧ w'.cell? ⟨gb119, 0, none⟩ = some (.string a1_0) ∧ w'.cell? ⟨gb119, 1, none⟩ = some (.string a1_1) ∧ w'.cell? ⟨gb119, 2, none⟩ = some (.int .i64 a1_2) ∧ w'.cell? ⟨gb119, 3, none⟩ = some (.slice (some ad121) l1_3.length c1_3) ∧ w'.cell? (ad120.add ((x5_2).toNat * 6)) = some (.int .i64 ((rd_T30 l0_3 x5_2).f0)) ∧ w'.cell? ⟨(ad120.add ((x5_2).toNat * 6)).block, (ad120.add ((x5_2).toNat * 6)).off + 1, none⟩ = some (.string ((rd_T30 l0_3 x5_2).f1)) ∧ w'.cell? ⟨(ad120.add ((x5_2).toNat * 6)).block, (ad120.add ((x5_2).toNat * 6)).off + 2, none⟩ = some (.string ((rd_T30 l0_3 x5_2).f2)) ∧ w'.cell? ⟨(ad120.add ((x5_2).toNat * 6)).block, (ad120.add ((x5_2).toNat * 6)).off + 3, none⟩ = some (.int .i64 ((rd_T30 l0_3 x5_2).f3)) ∧ w'.cell? ⟨(ad120.add ((x5_2).toNat * 6)).block, (ad120.add ((x5_2).toNat * 6)).off + 4, none⟩ = some (.slice A120_4 ((rd_T30 l0_3 x5_2).f4).length c120_4) ∧ w'.cell? ⟨(ad120.add ((x5_2).toNat * 6)).block, (ad120.add ((x5_2).toNat * 6)).off + 5, none⟩ = some (.slice A120_5 ((rd_T30 l0_3 x5_2).f5).length c120_5) ∧ w'.cell? (ad121.add ((x5_2).toNat * 6)) = some (.int .i64 ((rd_T30 l1_3 x5_2).f0)) ∧ w'.cell? ⟨(ad121.add ((x5_2).toNat * 6)).block, (ad121.add ((x5_2).toNat * 6)).off + 1, none⟩ = some (.string ((rd_T30 l1_3 x5_2).f1)) ∧ w'.cell? ⟨(ad121.add ((x5_2).toNat * 6)).block, (ad121.add ((x5_2).toNat * 6)).off + 2, none⟩ = some (.string ((rd_T30 l1_3 x5_2).f2)) ∧ w'.cell? ⟨(ad121.add ((x5_2).toNat * 6)).block, (ad121.add ((x5_2).toNat * 6)).off + 3, none⟩ = some (.int .i64 ((rd_T30 l1_3 x5_2).f3)) ∧ w'.cell? ⟨(ad121.add ((x5_2).toNat * 6)).block, (ad121.add ((x5_2).toNat * 6)).off + 4, none⟩ = some (.slice A121_4 ((rd_T30 l1_3 x5_2).f4).length c121_4) ∧ w'.cell? ⟨(ad121.add ((x5_2).toNat * 6)).block, (ad121.add ((x5_2).toNat * 6)).off + 5, none⟩ = some (.slice A121_5 ((rd_T30 l1_3 x5_2).f5).length c121_5)) (ds := []) (bs 12 0) (by kernel_rfl) rfl rfl ⟨(blk_cell BK118.out 0).trans rfl, (blk_cell BK118.out 1).trans rfl, (blk_cell BK118.out 2).trans rfl, (blk_cell BK118.out 3).trans rfl, (blk_cell BK119.out 0).trans rfl, (blk_cell BK119.out 1).trans rfl, (blk_cell BK119.out 2).trans rfl, (blk_cell BK119.out 3).trans rfl, ((HB.out.cell (World.block_lt_of_cell? _ _ hw120_0)).trans hw120_0), ((HB.out.cell (World.block_lt_of_cell? _ _ hw120_1)).trans hw120_1), ((HB.out.cell (World.block_lt_of_cell? _ _ hw120_2)).trans hw120_2), ((HB.out.cell (World.block_lt_of_cell? _ _ hw120_3)).trans hw120_3), ((HB.out.cell (World.block_lt_of_cell? _ _ hw120_4)).trans hw120_4), ((HB.out.cell (World.block_lt_of_cell? _ _ hw120_5)).trans hw120_5), ((HB.out.cell (World.block_lt_of_cell? _ _ hw121_0)).trans hw121_0), ((HB.out.cell (World.block_lt_of_cell? _ _ hw121_1)).trans hw121_1), ((HB.out.cell (World.block_lt_of_cell? _ _ hw121_2)).trans hw121_2), ((HB.out.cell (World.block_lt_of_cell? _ _ hw121_3)).trans hw121_3), ((HB.out.cell (World.block_lt_of_cell? _ _ hw121_4)).trans hw121_4), ((HB.out.cell (World.block_lt_of_cell? _ _ hw121_5)).trans hw121_5)⟩ (fun hHeld => ?_); refine with_tabW spec_ParcelSame.tab6 spec_ParcelSame.bits6 (fun HT_ HW_ => ?_)
                    generalize wr.drew = w29 at BK118 BK119 HB HR120_4 HR120_5 HR121_4 HR121_5 hx120_0 hx120_1 hx120_2 hx120_3 hx120_4 hx120_5 hx121_0 hx121_1 hx121_2 hx121_3 hx121_4 hx121_5 hHeld ⊢
                    refine pu_ 0 41 (bs 12 1) HT_ ?_ rfl rfl
                    refine pu_ 2 43 (bs 12 5) HT_ ?_ rfl rfl
                    refine pu_ 5 46 (bs 12 37) HT_ ?_ rfl rfl
                    refine pu_ 7 48 (bs 12 165) HT_ ?_ rfl rfl
                    refine tk_ 1 42 (bs 12 167) HT_ HW_ hHeld au4_0 ?_ rfl rfl
                    refine pu_ 3 44 (bs 12 175) HT_ ?_ rfl rfl
                    refine tk_ 4 45 (bs 12 191) HT_ HW_ hHeld au4_0 ?_ rfl rfl
                    refine tk_ 6 47 (bs 12 255) HT_ HW_ hHeld au4_0 ?_ rfl rfl
                    refine pu_ 8 49 (bs 12 511) HT_ ?_ rfl rfl
                    refine tk_ 9 50 (bs 12 1023) HT_ HW_ hHeld au4_0 ?_ rfl rfl
                    refine one_ (i := 10) (N := some 51) (bs 12 2047) rfl rfl (one_of HT_.out (by kernel_rfl)) (by decide) (fun K hK => ?_)
                    refine gr_ Try.func9 #[.agg #[.int .i64 ((rd_T30 l0_3 x5_2).f0), .string ((rd_T30 l0_3 x5_2).f1), .string ((rd_T30 l0_3 x5_2).f2), .int .i64 ((rd_T30 l0_3 x5_2).f3), .slice A120_4 ((rd_T30 l0_3 x5_2).f4).length c120_4, .slice A120_5 ((rd_T30 l0_3 x5_2).f5).length c120_5], .agg #[.int .i64 ((rd_T30 l1_3 x5_2).f0), .string ((rd_T30 l1_3 x5_2).f1), .string ((rd_T30 l1_3 x5_2).f2), .int .i64 ((rd_T30 l1_3 x5_2).f3), .slice A121_4 ((rd_T30 l1_3 x5_2).f4).length c121_4, .slice A121_5 ((rd_T30 l1_3 x5_2).f5).length c121_5]] (by rfl) ?_ rfl rfl rfl
                    with_reducible refine (spec_PaperSame.calls k2 ((rd_T30 l0_3 x5_2).f0) ((rd_T30 l0_3 x5_2).f1) ((rd_T30 l0_3 x5_2).f2) ((rd_T30 l0_3 x5_2).f3) _ _ ((rd_T30 l0_3 x5_2).f4) _ _ ((rd_T30 l0_3 x5_2).f5) ((rd_T30 l1_3 x5_2).f0) ((rd_T30 l1_3 x5_2).f1) ((rd_T30 l1_3 x5_2).f2) ((rd_T30 l1_3 x5_2).f3) _ _ ((rd_T30 l1_3 x5_2).f4) _ _ ((rd_T30 l1_3 x5_2).f5) true _ ?side1 ?side2 ?side3 ?side4 ?side5 ?side6 ?side7 ?side8 A25.out).mono ?_
                    (case side1 => exact au4_2)
                    (case side2 => exact HC120_4.out)
                    (case side3 => exact au4_3)
                    (case side4 => exact HC120_5.out)
                    (case side5 => exact au4_4)
                    (case side6 => exact HC121_4.out)
                    (case side7 => exact au4_5)
                    (case side8 => exact HC121_5.out)
                    rintro e w30 ⟨rfl, hb⟩
                    refine ⟨_, rfl, ?_⟩
                    have n0_ := Aside0.mk (blkb_ BK118 hb)
                    have n1_ := Aside0.mk (blkb_ BK119 hb)
                    have n2_ := Aside0.mk (below_step bl_ hb)
                    clear BK118
                    clear BK119
                    clear HB
                    have BK118 := n0_
                    have BK119 := n1_
                    have HB := n2_
                    clear n0_ n1_ n2_
                    (try clear hb)
                    (try clear hb2)
                    (try clear hk)
                    (try clear hi)
                    refine hK.out _ _ ⟨(blk_cell BK118.out 0).trans rfl, (blk_cell BK118.out 1).trans rfl, (blk_cell BK118.out 2).trans rfl, (blk_cell BK118.out 3).trans rfl, (blk_cell BK119.out 0).trans rfl, (blk_cell BK119.out 1).trans rfl, (blk_cell BK119.out 2).trans rfl, (blk_cell BK119.out 3).trans rfl, ((HB.out.cell (World.block_lt_of_cell? _ _ hw120_0)).trans hw120_0), ((HB.out.cell (World.block_lt_of_cell? _ _ hw120_1)).trans hw120_1), ((HB.out.cell (World.block_lt_of_cell? _ _ hw120_2)).trans hw120_2), ((HB.out.cell (World.block_lt_of_cell? _ _ hw120_3)).trans hw120_3), ((HB.out.cell (World.block_lt_of_cell? _ _ hw120_4)).trans hw120_4), ((HB.out.cell (World.block_lt_of_cell? _ _ hw120_5)).trans hw120_5), ((HB.out.cell (World.block_lt_of_cell? _ _ hw121_0)).trans hw121_0), ((HB.out.cell (World.block_lt_of_cell? _ _ hw121_1)).trans hw121_1), ((HB.out.cell (World.block_lt_of_cell? _ _ hw121_2)).trans hw121_2), ((HB.out.cell (World.block_lt_of_cell? _ _ hw121_3)).trans hw121_3), ((HB.out.cell (World.block_lt_of_cell? _ _ hw121_4)).trans hw121_4), ((HB.out.cell (World.block_lt_of_cell? _ _ hw121_5)).trans hw121_5)⟩ (fun hHeld => ?_)
                    clear hK K
                    refine norm_ (a' := ?_) ?_ ?_
                    rotate_left
                    · show Act.put _ (some 51) _ = _
                      simp only [Act.put, List.setIfInBounds_toArray, List.set_cons_zero, List.set_cons_succ, i64_w, i32_w]
                      rfl
                    refine pu_ 11 52 (bs 12 4095) HT_ ?_ rfl rfl
                    refine done_ (done_of HT_.out (by kernel_rfl)) ?_
                    try go_wp2
                    go_roundg k2
                    case measure => have := HJ2.out; have := HK2.out; omega
                    case rel => exact ⟨(wrap64 (x5_2 + 1)), er_, H', ⟨by have := HJ2.out; have := HK2.out; omega⟩, ⟨bk_ BK118⟩, ⟨bk_ BK119⟩, ⟨bl_⟩⟩
                  · replace c26 := Bool.eq_false_iff.mpr c26
                    subst c26
                    have H1 : (some false) = some r := by rw [if_neg (show ¬ (false = true) by decide)] at H; exact H
                    clear H
                    have H := H1
                    clear H1
                    obtain rfl := Option.some.inj H
                    have hnb31 := NB118_119.out
                    have hnc31 := NB119_118.out
                    obtain ⟨hcz32_0, hcz32_1, hcz32_2, hcz32_3, hfz32_0, hfz32_1, hfz32_2, hfz32_3⟩ := cellsF4 BK118.out
                    try go_wp2
                    have n0_ := Aside0.mk (blk_drew BK118.out)
                    have n1_ := Aside0.mk (blk_drew BK119.out)
                    have n2_ := Aside0.mk (below_drew1 HB.out)
                    clear BK118
                    clear BK119
                    clear HB
                    have BK118 := n0_
                    have BK119 := n1_
                    have HB := n2_
                    clear n0_ n1_ n2_
                    have p120 : 0 ≤ (x5_2 : Int) := of_decide_eq_true as_
                    have q120 : x5_2 < (l0_3.length : Int) := of_decide_eq_true as_
                    obtain ⟨ad120, A120_4, c120_4, A120_5, c120_5, e120, hx120_0, hx120_1, hx120_2, hx120_3, hx120_4, hx120_5, hl120_4, hi120_4, hl120_5, hi120_5⟩ := at_T30 HR0_3.out x5_2 p120 q120
                    have hw120_5 := hx120_5
                    have hw120_4 := hx120_4
                    have hw120_3 := hx120_3
                    have hw120_2 := hx120_2
                    have hw120_1 := hx120_1
                    have hw120_0 := hx120_0
                    cases e120
                    replace hx120_0 := (HB.out.cell (World.block_lt_of_cell? _ _ hx120_0)).trans hx120_0
                    replace hx120_1 := (HB.out.cell (World.block_lt_of_cell? _ _ hx120_1)).trans hx120_1
                    replace hx120_2 := (HB.out.cell (World.block_lt_of_cell? _ _ hx120_2)).trans hx120_2
                    replace hx120_3 := (HB.out.cell (World.block_lt_of_cell? _ _ hx120_3)).trans hx120_3
                    replace hx120_4 := (HB.out.cell (World.block_lt_of_cell? _ _ hx120_4)).trans hx120_4
                    replace hx120_5 := (HB.out.cell (World.block_lt_of_cell? _ _ hx120_5)).trans hx120_5
                    have HR120_4 := Aside0.mk hi120_4
                    have HC120_4 := Aside0.mk hl120_4
                    clear hi120_4 hl120_4
                    have HR120_5 := Aside0.mk hi120_5
                    have HC120_5 := Aside0.mk hl120_5
                    clear hi120_5 hl120_5
                    replace p120 := eq_true p120
                    replace q120 := eq_true q120
                    have p121 : 0 ≤ (x5_2 : Int) := of_decide_eq_true as_
                    have q121 : x5_2 < (l1_3.length : Int) := of_decide_eq_true as_
                    obtain ⟨ad121, A121_4, c121_4, A121_5, c121_5, e121, hx121_0, hx121_1, hx121_2, hx121_3, hx121_4, hx121_5, hl121_4, hi121_4, hl121_5, hi121_5⟩ := at_T30 HR1_3.out x5_2 p121 q121
                    have hw121_5 := hx121_5
                    have hw121_4 := hx121_4
                    have hw121_3 := hx121_3
                    have hw121_2 := hx121_2
                    have hw121_1 := hx121_1
                    have hw121_0 := hx121_0
                    cases e121
                    replace hx121_0 := (HB.out.cell (World.block_lt_of_cell? _ _ hx121_0)).trans hx121_0
                    replace hx121_1 := (HB.out.cell (World.block_lt_of_cell? _ _ hx121_1)).trans hx121_1
                    replace hx121_2 := (HB.out.cell (World.block_lt_of_cell? _ _ hx121_2)).trans hx121_2
                    replace hx121_3 := (HB.out.cell (World.block_lt_of_cell? _ _ hx121_3)).trans hx121_3
                    replace hx121_4 := (HB.out.cell (World.block_lt_of_cell? _ _ hx121_4)).trans hx121_4
                    replace hx121_5 := (HB.out.cell (World.block_lt_of_cell? _ _ hx121_5)).trans hx121_5
                    have HR121_4 := Aside0.mk hi121_4
                    have HC121_4 := Aside0.mk hl121_4
                    clear hi121_4 hl121_4
                    have HR121_5 := Aside0.mk hi121_5
                    have HC121_5 := Aside0.mk hl121_5
                    clear hi121_5 hl121_5
                    replace p121 := eq_true p121
                    replace q121 := eq_true q121
                    refine start_ (n := 12) (S := fun w' => w'.cell? ⟨gb118, 0, none⟩ = some (.string a0_0) ∧ w'.cell? ⟨gb118, 1, none⟩ = some (.string a0_1) ∧ w'.cell? ⟨gb118, 2, none⟩ = some (.int .i64 a0_2) ∧ w'.cell? ⟨gb118, 3, none⟩ = some (.slice (some ad120) l0_3.length c0_3) ∧ w'.cell? ⟨gb119, 0, none⟩ = some (.string a1_0) ∧ w'.cell? ⟨gb119, 1, none⟩ = some (.string a1_1) ∧ w'.cell? ⟨gb119, 2, none⟩ = some (.int .i64 a1_2) ∧ w'.cell? ⟨gb119, 3, none⟩ = some (.slice (some ad121) l1_3.length c1_3) ∧ w'.cell? (ad120.add ((x5_2).toNat * 6)) = some (.int .i64 ((rd_T30 l0_3 x5_2).f0)) ∧ w'.cell? ⟨(ad120.add ((x5_2).toNat * 6)).block, (ad120.add ((x5_2).toNat * 6)).off + 1, none⟩ = some (.string ((rd_T30 l0_3 x5_2).f1)) ∧ w'.cell? ⟨(ad120.add ((x5_2).toNat * 6)).block, (ad120.add ((x5_2).toNat * 6)).off + 2, none⟩ = some (.string ((rd_T30 l0_3 x5_2).f2)) ∧ w'.cell? ⟨(ad120.add ((x5_2).toNat * 6)).block, (ad120.add ((x5_2).toNat * 6)).off + 3, none⟩ = some (.int .i64 ((rd_T30 l0_3 x5_2).f3)) ∧ w'.cell? ⟨(ad120.add ((x5_2).toNat * 6)).block, (ad120.add ((x5_2).toNat * 6)).off + 4, none⟩ = some (.slice A120_4 ((rd_T30 l0_3 x5_2).f4).length c120_4) ∧ w'.cell? ⟨(ad120.add ((x5_2).toNat * 6)).block, (ad120.add ((x5_2).toNat * 6)).off + 5, none⟩ = some (.slice A120_5 ((rd_T30 l0_3 x5_2).f5).length c120_5) ∧ w'.cell? (ad121.add ((x5_2).toNat * 6)) = some (.int .i64 ((rd_T30 l1_3 x5_2).f0)) ∧ w'.cell? ⟨(ad121.add ((x5_2).toNat * 6)).block, (ad121.add ((x5_2).toNat * 6)).off + 1, none⟩ = some (.string ((rd_T30 l1_3 x5_2).f1)) ∧ w'.cell? ⟨(ad121.add ((x5_2).toNat * 6)).block, (ad121.add ((x5_2).toNat * 6)).off + 2, none⟩ = some (.string ((rd_T30 l1_3 x5_2).f2)) ∧ w'.cell? ⟨(ad121.add ((x5_2).toNat * 6)).block, (ad121.add ((x5_2).toNat * 6)).off + 3, none⟩ = some (.int .i64 ((rd_T30 l1_3 x5_2).f3)) ∧ w'.cell? ⟨(ad121.add ((x5_2).toNat * 6)).block, (ad121.add ((x5_2).toNat * 6)).off + 4, none⟩ = some (.slice A121_4 ((rd_T30 l1_3 x5_2).f4).length c121_4) ∧ w'.cell? ⟨(ad121.add ((x5_2).toNat * 6)).block, (ad121.add ((x5_2).toNat * 6)).off + 5, none⟩ = some (.slice A121_5 ((rd_T30 l1_3 x5_2).f5).length c121_5)) (ds := []) (bs 12 0) (by kernel_rfl) rfl rfl ⟨(blk_cell BK118.out 0).trans rfl, (blk_cell BK118.out 1).trans rfl, (blk_cell BK118.out 2).trans rfl, (blk_cell BK118.out 3).trans rfl, (blk_cell BK119.out 0).trans rfl, (blk_cell BK119.out 1).trans rfl, (blk_cell BK119.out 2).trans rfl, (blk_cell BK119.out 3).trans rfl, ((HB.out.cell (World.block_lt_of_cell? _ _ hw120_0)).trans hw120_0), ((HB.out.cell (World.block_lt_of_cell? _ _ hw120_1)).trans hw120_1), ((HB.out.cell (World.block_lt_of_cell? _ _ hw120_2)).trans hw120_2), ((HB.out.cell (World.block_lt_of_cell? _ _ hw120_3)).trans hw120_3), ((HB.out.cell (World.block_lt_of_cell? _ _ hw120_4)).trans hw120_4), ((HB.out.cell (World.block_lt_of_cell? _ _ hw120_5)).trans hw120_5), ((HB.out.cell (World.block_lt_of_cell? _ _ hw121_0)).trans hw121_0), ((HB.out.cell (World.block_lt_of_cell? _ _ hw121_1)).trans hw121_1), ((HB.out.cell (World.block_lt_of_cell? _ _ hw121_2)).trans hw121_2), ((HB.out.cell (World.block_lt_of_cell? _ _ hw121_3)).trans hw121_3), ((HB.out.cell (World.block_lt_of_cell? _ _ hw121_4)).trans hw121_4), ((HB.out.cell (World.block_lt_of_cell? _ _ hw121_5)).trans hw121_5)⟩ (fun hHeld => ?_); refine with_tabW spec_ParcelSame.tab6 spec_ParcelSame.bits6 (fun HT_ HW_ => ?_)
                    generalize wr.drew = w33 at BK118 BK119 HB HR120_4 HR120_5 HR121_4 HR121_5 hx120_0 hx120_1 hx120_2 hx120_3 hx120_4 hx120_5 hx121_0 hx121_1 hx121_2 hx121_3 hx121_4 hx121_5 hHeld ⊢
                    refine pu_ 0 41 (bs 12 1) HT_ ?_ rfl rfl
                    refine pu_ 2 43 (bs 12 5) HT_ ?_ rfl rfl
                    refine pu_ 5 46 (bs 12 37) HT_ ?_ rfl rfl
                    refine pu_ 7 48 (bs 12 165) HT_ ?_ rfl rfl
                    refine tk_ 1 42 (bs 12 167) HT_ HW_ hHeld au4_0 ?_ rfl rfl
                    refine pu_ 3 44 (bs 12 175) HT_ ?_ rfl rfl
                    refine tk_ 4 45 (bs 12 191) HT_ HW_ hHeld au4_0 ?_ rfl rfl
                    refine tk_ 6 47 (bs 12 255) HT_ HW_ hHeld au4_0 ?_ rfl rfl
                    refine pu_ 8 49 (bs 12 511) HT_ ?_ rfl rfl
                    refine tk_ 9 50 (bs 12 1023) HT_ HW_ hHeld au4_0 ?_ rfl rfl
                    refine one_ (i := 10) (N := some 51) (bs 12 2047) rfl rfl (one_of HT_.out (by kernel_rfl)) (by decide) (fun K hK => ?_)
                    refine gr_ Try.func9 #[.agg #[.int .i64 ((rd_T30 l0_3 x5_2).f0), .string ((rd_T30 l0_3 x5_2).f1), .string ((rd_T30 l0_3 x5_2).f2), .int .i64 ((rd_T30 l0_3 x5_2).f3), .slice A120_4 ((rd_T30 l0_3 x5_2).f4).length c120_4, .slice A120_5 ((rd_T30 l0_3 x5_2).f5).length c120_5], .agg #[.int .i64 ((rd_T30 l1_3 x5_2).f0), .string ((rd_T30 l1_3 x5_2).f1), .string ((rd_T30 l1_3 x5_2).f2), .int .i64 ((rd_T30 l1_3 x5_2).f3), .slice A121_4 ((rd_T30 l1_3 x5_2).f4).length c121_4, .slice A121_5 ((rd_T30 l1_3 x5_2).f5).length c121_5]] (by rfl) ?_ rfl rfl rfl
                    with_reducible refine (spec_PaperSame.calls k2 ((rd_T30 l0_3 x5_2).f0) ((rd_T30 l0_3 x5_2).f1) ((rd_T30 l0_3 x5_2).f2) ((rd_T30 l0_3 x5_2).f3) _ _ ((rd_T30 l0_3 x5_2).f4) _ _ ((rd_T30 l0_3 x5_2).f5) ((rd_T30 l1_3 x5_2).f0) ((rd_T30 l1_3 x5_2).f1) ((rd_T30 l1_3 x5_2).f2) ((rd_T30 l1_3 x5_2).f3) _ _ ((rd_T30 l1_3 x5_2).f4) _ _ ((rd_T30 l1_3 x5_2).f5) false _ ?side1 ?side2 ?side3 ?side4 ?side5 ?side6 ?side7 ?side8 A25.out).mono ?_
                    (case side1 => exact au4_2)
                    (case side2 => exact HC120_4.out)
                    (case side3 => exact au4_3)
                    (case side4 => exact HC120_5.out)
                    (case side5 => exact au4_4)
                    (case side6 => exact HC121_4.out)
                    (case side7 => exact au4_5)
                    (case side8 => exact HC121_5.out)
                    rintro e w34 ⟨rfl, hb⟩
                    refine ⟨_, rfl, ?_⟩
                    have n0_ := Aside0.mk (blkb_ BK118 hb)
                    have n1_ := Aside0.mk (blkb_ BK119 hb)
                    have n2_ := Aside0.mk (below_step bl_ hb)
                    clear BK118
                    clear BK119
                    clear HB
                    have BK118 := n0_
                    have BK119 := n1_
                    have HB := n2_
                    clear n0_ n1_ n2_
                    (try clear hb)
                    (try clear hb2)
                    (try clear hk)
                    (try clear hi)
                    refine hK.out _ _ ⟨(blk_cell BK118.out 0).trans rfl, (blk_cell BK118.out 1).trans rfl, (blk_cell BK118.out 2).trans rfl, (blk_cell BK118.out 3).trans rfl, (blk_cell BK119.out 0).trans rfl, (blk_cell BK119.out 1).trans rfl, (blk_cell BK119.out 2).trans rfl, (blk_cell BK119.out 3).trans rfl, ((HB.out.cell (World.block_lt_of_cell? _ _ hw120_0)).trans hw120_0), ((HB.out.cell (World.block_lt_of_cell? _ _ hw120_1)).trans hw120_1), ((HB.out.cell (World.block_lt_of_cell? _ _ hw120_2)).trans hw120_2), ((HB.out.cell (World.block_lt_of_cell? _ _ hw120_3)).trans hw120_3), ((HB.out.cell (World.block_lt_of_cell? _ _ hw120_4)).trans hw120_4), ((HB.out.cell (World.block_lt_of_cell? _ _ hw120_5)).trans hw120_5), ((HB.out.cell (World.block_lt_of_cell? _ _ hw121_0)).trans hw121_0), ((HB.out.cell (World.block_lt_of_cell? _ _ hw121_1)).trans hw121_1), ((HB.out.cell (World.block_lt_of_cell? _ _ hw121_2)).trans hw121_2), ((HB.out.cell (World.block_lt_of_cell? _ _ hw121_3)).trans hw121_3), ((HB.out.cell (World.block_lt_of_cell? _ _ hw121_4)).trans hw121_4), ((HB.out.cell (World.block_lt_of_cell? _ _ hw121_5)).trans hw121_5)⟩ (fun hHeld => ?_)
                    clear hK K
                    refine norm_ (a' := ?_) ?_ ?_
                    rotate_left
                    · show Act.put _ (some 51) _ = _
                      simp only [Act.put, List.setIfInBounds_toArray, List.set_cons_zero, List.set_cons_succ, i64_w, i32_w]
                      rfl
                    refine pu_ 11 52 (bs 12 4095) HT_ ?_ rfl rfl
                    refine done_ (done_of HT_.out (by kernel_rfl)) ?_
                    try go_wp2
                    go_ret
                    exact ⟨au4_1, bl_⟩
                · rw [if_neg c24] at H
                  exact absurd H (by simp)
              · rw [if_neg c23] at H
                exact absurd H (by simp)
            · rw [if_neg c22] at H
              have c22b0 : decide (x5_2 < (l0_3.length : Int)) = false := decide_eq_false c22
              clear c22
              obtain rfl := Option.some.inj H
              have hnb35 := NB118_119.out
              have hnc35 := NB119_118.out
              obtain ⟨hcz36_0, hcz36_1, hcz36_2, hcz36_3, hfz36_0, hfz36_1, hfz36_2, hfz36_3⟩ := cellsF4 BK118.out
              go_wp2
              go_ret
              exact ⟨au4_1, bl_⟩

end Go.Proofs.Ytlghcbmkhdibdaa.PFnExactParcelSame
