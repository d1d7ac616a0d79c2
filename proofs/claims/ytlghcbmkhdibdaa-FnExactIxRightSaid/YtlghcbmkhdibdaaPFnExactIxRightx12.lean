-- printed by a program of this session (wip/xp/xprint.py) out of the translation; Lean checks it
import Derived.Test.YtlghcbmkhdibdaaPFnExactIxRightx0
import Derived.Test.YtlghcbmkhdibdaaPFnExactIxRightx11
namespace Go.Proofs.Ytlghcbmkhdibdaa.PFnExactIxRight
open Go.RowKit Go.Proofs.YtlghcbmkhdibdaaW.PrintWords Go.Proofs.YtlghcbmkhdibdaaW.PrintLast Go.Proofs.YtlghcbmkhdibdaaW.PrintMore
attribute [local go_sem] max2_int min2_int max_two min_two max_three min_three max_four min_four   -- for this text's walks alone
set_option linter.unusedVariables false
set_option linter.unusedSimpArgs false

theorem au12_0 {p : Prop} (h : p := by first | rfl | (simp [errW_none, errW_some] <;> rfl) | (simp [*, errW_none, errW_some] <;> rfl)) : p := h
theorem au12_1 {p : Prop} (h : p := by rintro w' ⟨s0, s1, s2, s3, s4, s5⟩; go_simp; with_reducible rfl) : p := h
theorem au12_2 {p : Prop} (h : p := by repeat (first | exact (Kd.C_below HR297_2.out HB.out) | (with_reducible refine Kd.C_alloc ?_ _) | (with_reducible refine Kd.C_drewN ?_ _) | (with_reducible refine Kd.C_drew ?_))) : p := h
theorem au12_3 {p : Prop} (h : p := by repeat (first | exact (Kd.C_below HR298_2.out HB.out) | (with_reducible refine Kd.C_alloc ?_ _) | (with_reducible refine Kd.C_drewN ?_ _) | (with_reducible refine Kd.C_drew ?_))) : p := h
theorem au12_4 {p : Prop} (h : p := by repeat (first | exact (Kd.C_below HR0_2.out HB.out) | (with_reducible refine Kd.C_alloc ?_ _) | (with_reducible refine Kd.C_drewN ?_ _) | (with_reducible refine Kd.C_drew ?_))) : p := h
theorem au12_5 {p : Prop} (h : p := by repeat (first | exact (Kd.C_below HR1_2.out HB.out) | (with_reducible refine Kd.C_alloc ?_ _) | (with_reducible refine Kd.C_drewN ?_ _) | (with_reducible refine Kd.C_drew ?_))) : p := h
theorem au12_6 {p : Prop} (h : p := by repeat (first | exact (Kd.C_below HR0_3.out HB.out) | (with_reducible refine Kd.C_alloc ?_ _) | (with_reducible refine Kd.C_drewN ?_ _) | (with_reducible refine Kd.C_drew ?_))) : p := h
theorem au12_7 {p : Prop} (h : p := by repeat (first | exact (Kd.C_below HR1_3.out HB.out) | (with_reducible refine Kd.C_alloc ?_ _) | (with_reducible refine Kd.C_drewN ?_ _) | (with_reducible refine Kd.C_drew ?_))) : p := h

/-! ### laws_eqBundle: function 101 -/
def laws_eqBundle.f (k : Nat) (a0_0 : Int) (a0_1 : Int) (l0_2 : List (S104)) (a1_0 : Int) (a1_1 : Int) (l1_2 : List (S104)) : Option (Bool) := if a0_0 = a1_0 then (if a0_1 = a1_1 then ((laws_eqMessageS.f k l0_2 l1_2).bind fun t296 => (if t296 = true then (some true) else (some false))) else (some false)) else (some false)
theorem laws_eqBundle.mono : ∀ a0 a1 a2 a3 a4 a5 k, LeO (laws_eqBundle.f k a0 a1 a2 a3 a4 a5) (laws_eqBundle.f (k + 1) a0 a1 a2 a3 a4 a5) := by
  intro a0 a1 a2 a3 a4 a5 k
  unfold laws_eqBundle.f
  repeat' first
      | (with_reducible exact laws_eqMessageS.mono _ _ _)
      | (with_reducible exact LeO.refl _)
      | (with_reducible exact LeO.none _)
      | (with_reducible refine LeO.ite ?_ ?_)
      | (with_reducible refine LeO.bind ?_ (fun _ => ?_))
      | exact laws_eqMessageS.mono _ _ _
      | exact LeO.none _
      | refine LeO.ite ?_ ?_
      | refine LeO.bind ?_ (fun _ => ?_)
set_option maxHeartbeats 8000000 in
set_option maxRecDepth 100000 in
theorem laws_eqBundle.calls (k : Nat) (a0_0 : Int) (a0_1 : Int) (A0_2 : Option Addr) (c0_2 : Nat) (l0_2 : List (S104)) (a1_0 : Int) (a1_1 : Int) (A1_2 : Option Addr) (c1_2 : Nat) (l1_2 : List (S104)) (r : Bool) (w : World) (hr0_2 : Kd.C k104 w A0_2 l0_2.length l0_2) (hc0_2 : l0_2.length ≤ c0_2) (hr1_2 : Kd.C k104 w A1_2 l1_2.length l1_2) (hc1_2 : l1_2.length ≤ c1_2) (h : laws_eqBundle.f k a0_0 a0_1 l0_2 a1_0 a1_1 l1_2 = some r) :
    Calls Try.prog 101 #[.agg #[.int .i64 a0_0, .int .i64 a0_1, .slice A0_2 l0_2.length c0_2], .agg #[.int .i64 a1_0, .int .i64 a1_1, .slice A1_2 l1_2.length c1_2]] w fun e w' => e = .returned (.bool r) ∧ Below w.heap.size w w' := by
  have hu102 := Try.underlying102
  have HR0_2 := Aside0.mk hr0_2
  have HC0_2 := Aside0.mk hc0_2
  clear hr0_2 hc0_2
  have HR1_2 := Aside0.mk hr1_2
  have HC1_2 := Aside0.mk hc1_2
  clear hr1_2 hc1_2
  have HB := Aside0.mk (Below.refl w.heap.size w)
  have H : (if a0_0 = a1_0 then (if a0_1 = a1_1 then ((laws_eqMessageS.f k l0_2 l1_2).bind fun t296 => (if t296 = true then (some true) else (some false))) else (some false)) else (some false)) = some r := h
  clear h
  by_cases c3 : a0_0 = a1_0
  · rw [if_pos c3] at H
    have c3b0 : (a0_0 == a1_0) = true := beq_iff_eq.mpr c3
    have c3b1 : (a0_0 != a1_0) = false := bne_eq_false_iff_eq.mpr c3
    clear c3
    by_cases c4 : a0_1 = a1_1
    · rw [if_pos c4] at H
      have c4b0 : (a0_1 == a1_1) = true := beq_iff_eq.mpr c4
      have c4b1 : (a0_1 != a1_1) = false := bne_eq_false_iff_eq.mpr c4
      clear c4
      replace H := Option.bind_eq_some_iff.mp H
      obtain ⟨t296, A50, H⟩ := H
      replace H : (if t296 = true then (some true) else (some false)) = some r := H
      have A5 := Aside0.mk A50
      clear A50
      by_cases c6 : t296 = true
      · subst c6
        have H1 : (some true) = some r := by rw [if_pos rfl] at H; exact H
        clear H
        have H := H1
        clear H1
        obtain rfl := Option.some.inj H
        go_enter Try.func101, Try.ntmps101
        go_wp2_with (first | ((with_reducible refine gate_dst (N := 2) rfl ?_); refine box_event ?hg (N := 2) ?hd (cs := #[.int .i64 a0_0, .int .i64 a0_1, .slice A0_2 l0_2.length c0_2]) (t := 102) ?hr ?_; (case hd => rfl); (case hg => rfl); (case hr => exact hr_); intro gb294 hg w7 hbox hb; have n0_ := Aside0.mk (below_step bl_ hb); have n1_ := Aside0.mk (hbox); have n2_ := Aside0.mk (gw_ hg bl_); have n3_ := Aside0.mk (gw_ hg bl_); clear HB; have HB := n0_; have BK294 := n1_; have GW294 := n2_; have GE294 := n3_; clear n0_ n1_ n2_ n3_; clear hb hbox hg) | ((with_reducible refine gate_dst (N := 3) rfl ?_); refine box_event ?hg (N := 3) ?hd (cs := #[.int .i64 a1_0, .int .i64 a1_1, .slice A1_2 l1_2.length c1_2]) (t := 102) ?hr ?_; (case hd => rfl); (case hg => rfl); (case hr => exact hr_); intro gb295 hg w8 hbox hb; have n0_ := Aside0.mk (blkb_ BK294 hb); have n1_ := Aside0.mk (below_step bl_ hb); have n2_ := Aside0.mk (hbox); have n3_ := Aside0.mk (gw_ hg bl_); have n4_ := Aside0.mk (gw_ hg bl_); have n5_ := Aside0.mk (gn_ hg (blkl_ BK294)); have n6_ := Aside0.mk (gm_ hg (blkl_ BK294)); clear BK294; clear HB; have BK294 := n0_; have HB := n1_; have BK295 := n2_; have GW295 := n3_; have GE295 := n4_; have NB294_295 := n5_; have NB295_294 := n6_; clear n0_ n1_ n2_ n3_ n4_ n5_ n6_; clear hb hbox hg; have hnb9 := NB294_295.out; have hnc9 := NB295_294.out; obtain ⟨hcz10_0, hcz10_1, hcz10_2, hfz10_0, hfz10_1, hfz10_2⟩ := cellsF3 BK294.out; obtain ⟨hcz11_0, hcz11_1, hcz11_2, hfz11_0, hfz11_1, hfz11_2⟩ := cellsF3 BK295.out) | ((with_reducible refine gate_callee (f := 118) rfl ?_); refine gl_ 19 Try.func118 #[.slice A0_2 l0_2.length c0_2, .slice A1_2 l1_2.length c1_2] ?_ rfl rfl rfl rfl; (with_reducible refine (laws_eqMessageS.calls k _ _ l0_2 _ _ l1_2 true _ ?side1 ?side2 ?side3 ?side4 A5.out).mono ?_); (case side1 => exact au12_4); (case side2 => exact HC0_2.out); (case side3 => exact au12_5); (case side4 => exact HC1_2.out); rintro e w12 ⟨rfl, hb⟩; refine ⟨_, rfl, ?_⟩; have n0_ := Aside0.mk (blkb_ BK294 hb); have n1_ := Aside0.mk (blkb_ BK295 hb); have n2_ := Aside0.mk (below_step bl_ hb); clear BK294; clear BK295; clear HB; have BK294 := n0_; have BK295 := n1_; have HB := n2_; clear n0_ n1_ n2_; (try clear hb); (try clear hb2); (try clear hk); (try clear hi)))
        go_ret
        exact ⟨au12_0, bl_⟩
      · replace c6 := Bool.eq_false_iff.mpr c6
        subst c6
        have H1 : (some false) = some r := by rw [if_neg (show ¬ (false = true) by decide)] at H; exact H
        clear H
        have H := H1
        clear H1
        obtain rfl := Option.some.inj H
        go_enter Try.func101, Try.ntmps101
        go_wp2_with (first | ((with_reducible refine gate_dst (N := 2) rfl ?_); refine box_event ?hg (N := 2) ?hd (cs := #[.int .i64 a0_0, .int .i64 a0_1, .slice A0_2 l0_2.length c0_2]) (t := 102) ?hr ?_; (case hd => rfl); (case hg => rfl); (case hr => exact hr_); intro gb294 hg w13 hbox hb; have n0_ := Aside0.mk (below_step bl_ hb); have n1_ := Aside0.mk (hbox); have n2_ := Aside0.mk (gw_ hg bl_); have n3_ := Aside0.mk (gw_ hg bl_); clear HB; have HB := n0_; have BK294 := n1_; have GW294 := n2_; have GE294 := n3_; clear n0_ n1_ n2_ n3_; clear hb hbox hg) | ((with_reducible refine gate_dst (N := 3) rfl ?_); refine box_event ?hg (N := 3) ?hd (cs := #[.int .i64 a1_0, .int .i64 a1_1, .slice A1_2 l1_2.length c1_2]) (t := 102) ?hr ?_; (case hd => rfl); (case hg => rfl); (case hr => exact hr_); intro gb295 hg w14 hbox hb; have n0_ := Aside0.mk (blkb_ BK294 hb); have n1_ := Aside0.mk (below_step bl_ hb); have n2_ := Aside0.mk (hbox); have n3_ := Aside0.mk (gw_ hg bl_); have n4_ := Aside0.mk (gw_ hg bl_); have n5_ := Aside0.mk (gn_ hg (blkl_ BK294)); have n6_ := Aside0.mk (gm_ hg (blkl_ BK294)); clear BK294; clear HB; have BK294 := n0_; have HB := n1_; have BK295 := n2_; have GW295 := n3_; have GE295 := n4_; have NB294_295 := n5_; have NB295_294 := n6_; clear n0_ n1_ n2_ n3_ n4_ n5_ n6_; clear hb hbox hg; have hnb15 := NB294_295.out; have hnc15 := NB295_294.out; obtain ⟨hcz16_0, hcz16_1, hcz16_2, hfz16_0, hfz16_1, hfz16_2⟩ := cellsF3 BK294.out; obtain ⟨hcz17_0, hcz17_1, hcz17_2, hfz17_0, hfz17_1, hfz17_2⟩ := cellsF3 BK295.out) | ((with_reducible refine gate_callee (f := 118) rfl ?_); refine gl_ 19 Try.func118 #[.slice A0_2 l0_2.length c0_2, .slice A1_2 l1_2.length c1_2] ?_ rfl rfl rfl rfl; (with_reducible refine (laws_eqMessageS.calls k _ _ l0_2 _ _ l1_2 false _ ?side1 ?side2 ?side3 ?side4 A5.out).mono ?_); (case side1 => exact au12_4); (case side2 => exact HC0_2.out); (case side3 => exact au12_5); (case side4 => exact HC1_2.out); rintro e w18 ⟨rfl, hb⟩; refine ⟨_, rfl, ?_⟩; have n0_ := Aside0.mk (blkb_ BK294 hb); have n1_ := Aside0.mk (blkb_ BK295 hb); have n2_ := Aside0.mk (below_step bl_ hb); clear BK294; clear BK295; clear HB; have BK294 := n0_; have BK295 := n1_; have HB := n2_; clear n0_ n1_ n2_; (try clear hb); (try clear hb2); (try clear hk); (try clear hi)))
        go_ret
        exact ⟨au12_0, bl_⟩
    · rw [if_neg c4] at H
      have c4b0 : (a0_1 == a1_1) = false := beq_eq_false_iff_ne.mpr c4
      have c4b1 : (a0_1 != a1_1) = true := bne_iff_ne.mpr c4
      obtain rfl := Option.some.inj H
      go_enter Try.func101, Try.ntmps101
      go_wp2_with (first | ((with_reducible refine gate_dst (N := 2) rfl ?_); refine box_event ?hg (N := 2) ?hd (cs := #[.int .i64 a0_0, .int .i64 a0_1, .slice A0_2 l0_2.length c0_2]) (t := 102) ?hr ?_; (case hd => rfl); (case hg => rfl); (case hr => exact hr_); intro gb294 hg w19 hbox hb; have n0_ := Aside0.mk (below_step bl_ hb); have n1_ := Aside0.mk (hbox); have n2_ := Aside0.mk (gw_ hg bl_); have n3_ := Aside0.mk (gw_ hg bl_); clear HB; have HB := n0_; have BK294 := n1_; have GW294 := n2_; have GE294 := n3_; clear n0_ n1_ n2_ n3_; clear hb hbox hg) | ((with_reducible refine gate_dst (N := 3) rfl ?_); refine box_event ?hg (N := 3) ?hd (cs := #[.int .i64 a1_0, .int .i64 a1_1, .slice A1_2 l1_2.length c1_2]) (t := 102) ?hr ?_; (case hd => rfl); (case hg => rfl); (case hr => exact hr_); intro gb295 hg w20 hbox hb; have n0_ := Aside0.mk (blkb_ BK294 hb); have n1_ := Aside0.mk (below_step bl_ hb); have n2_ := Aside0.mk (hbox); have n3_ := Aside0.mk (gw_ hg bl_); have n4_ := Aside0.mk (gw_ hg bl_); have n5_ := Aside0.mk (gn_ hg (blkl_ BK294)); have n6_ := Aside0.mk (gm_ hg (blkl_ BK294)); clear BK294; clear HB; have BK294 := n0_; have HB := n1_; have BK295 := n2_; have GW295 := n3_; have GE295 := n4_; have NB294_295 := n5_; have NB295_294 := n6_; clear n0_ n1_ n2_ n3_ n4_ n5_ n6_; clear hb hbox hg; have hnb21 := NB294_295.out; have hnc21 := NB295_294.out; obtain ⟨hcz22_0, hcz22_1, hcz22_2, hfz22_0, hfz22_1, hfz22_2⟩ := cellsF3 BK294.out; obtain ⟨hcz23_0, hcz23_1, hcz23_2, hfz23_0, hfz23_1, hfz23_2⟩ := cellsF3 BK295.out))
      go_ret
      exact ⟨au12_0, bl_⟩
  · rw [if_neg c3] at H
    have c3b0 : (a0_0 == a1_0) = false := beq_eq_false_iff_ne.mpr c3
    have c3b1 : (a0_0 != a1_0) = true := bne_iff_ne.mpr c3
    obtain rfl := Option.some.inj H
    go_enter Try.func101, Try.ntmps101
    go_wp2_with (first | ((with_reducible refine gate_dst (N := 2) rfl ?_); refine box_event ?hg (N := 2) ?hd (cs := #[.int .i64 a0_0, .int .i64 a0_1, .slice A0_2 l0_2.length c0_2]) (t := 102) ?hr ?_; (case hd => rfl); (case hg => rfl); (case hr => exact hr_); intro gb294 hg w24 hbox hb; have n0_ := Aside0.mk (below_step bl_ hb); have n1_ := Aside0.mk (hbox); have n2_ := Aside0.mk (gw_ hg bl_); have n3_ := Aside0.mk (gw_ hg bl_); clear HB; have HB := n0_; have BK294 := n1_; have GW294 := n2_; have GE294 := n3_; clear n0_ n1_ n2_ n3_; clear hb hbox hg) | ((with_reducible refine gate_dst (N := 3) rfl ?_); refine box_event ?hg (N := 3) ?hd (cs := #[.int .i64 a1_0, .int .i64 a1_1, .slice A1_2 l1_2.length c1_2]) (t := 102) ?hr ?_; (case hd => rfl); (case hg => rfl); (case hr => exact hr_); intro gb295 hg w25 hbox hb; have n0_ := Aside0.mk (blkb_ BK294 hb); have n1_ := Aside0.mk (below_step bl_ hb); have n2_ := Aside0.mk (hbox); have n3_ := Aside0.mk (gw_ hg bl_); have n4_ := Aside0.mk (gw_ hg bl_); have n5_ := Aside0.mk (gn_ hg (blkl_ BK294)); have n6_ := Aside0.mk (gm_ hg (blkl_ BK294)); clear BK294; clear HB; have BK294 := n0_; have HB := n1_; have BK295 := n2_; have GW295 := n3_; have GE295 := n4_; have NB294_295 := n5_; have NB295_294 := n6_; clear n0_ n1_ n2_ n3_ n4_ n5_ n6_; clear hb hbox hg; have hnb26 := NB294_295.out; have hnc26 := NB295_294.out; obtain ⟨hcz27_0, hcz27_1, hcz27_2, hfz27_0, hfz27_1, hfz27_2⟩ := cellsF3 BK294.out; obtain ⟨hcz28_0, hcz28_1, hcz28_2, hfz28_0, hfz28_1, hfz28_2⟩ := cellsF3 BK295.out))
    go_ret
    exact ⟨au12_0, bl_⟩

/-! ### laws_eqBundleS: function 65 -/
def laws_eqBundleS.l0 : Nat → List (S102) → List (S102) → Int → Option (Bool)
  | 0, _, _, _ => none
  | k + 1, x0, x1, x5 => if x5 < (x0.length : Int) then (if 0 ≤ x5 then (if x5 < (x1.length : Int) then ((laws_eqBundle.f k ((rd_T102 x0 x5).f0) ((rd_T102 x0 x5).f1) ((rd_T102 x0 x5).f2) ((rd_T102 x1 x5).f0) ((rd_T102 x1 x5).f1) ((rd_T102 x1 x5).f2)).bind fun t299 => (if t299 = true then (laws_eqBundleS.l0 k x0 x1 (wrap64 (x5 + 1))) else (some false))) else (none)) else (none)) else (some true)
def laws_eqBundleS.f (k : Nat) (l0 : List (S102)) (l1 : List (S102)) : Option (Bool) := if (l0.length : Int) = (l1.length : Int) then (laws_eqBundleS.l0 k l0 l1 0) else (some false)
theorem laws_eqBundleS.mono_l : ∀ k, (∀ y0 y1 y2, LeO (laws_eqBundleS.l0 k y0 y1 y2) (laws_eqBundleS.l0 (k + 1) y0 y1 y2))
  | 0 => fun _ _ _ r h => by simp [laws_eqBundleS.l0] at h
  | k + 1 => by
    have ih0 := laws_eqBundleS.mono_l k
    · intro y0 y1 y2
      unfold laws_eqBundleS.l0
      repeat' first
      | (with_reducible exact ih0 _ _ _)
      | (with_reducible exact laws_eqBundle.mono _ _ _ _ _ _ _)
      | (with_reducible exact LeO.refl _)
      | (with_reducible exact LeO.none _)
      | (with_reducible refine LeO.ite ?_ ?_)
      | (with_reducible refine LeO.bind ?_ (fun _ => ?_))
      | exact ih0 _ _ _
      | exact laws_eqBundle.mono _ _ _ _ _ _ _
      | exact LeO.none _
      | refine LeO.ite ?_ ?_
      | refine LeO.bind ?_ (fun _ => ?_)
theorem laws_eqBundleS.mono : ∀ a0 a1 k, LeO (laws_eqBundleS.f k a0 a1) (laws_eqBundleS.f (k + 1) a0 a1) := by
  intro a0 a1 k
  have ih0 := laws_eqBundleS.mono_l k
  unfold laws_eqBundleS.f
  repeat' first
      | (with_reducible exact ih0 _ _ _)
      | (with_reducible exact laws_eqBundle.mono _ _ _ _ _ _ _)
      | (with_reducible exact LeO.refl _)
      | (with_reducible exact LeO.none _)
      | (with_reducible refine LeO.ite ?_ ?_)
      | (with_reducible refine LeO.bind ?_ (fun _ => ?_))
      | exact ih0 _ _ _
      | exact laws_eqBundle.mono _ _ _ _ _ _ _
      | exact LeO.none _
      | refine LeO.ite ?_ ?_
      | refine LeO.bind ?_ (fun _ => ?_)
def laws_eqBundleS.T6 : Bool × List (List Nat × List Nat) := (true, [([], []), ([], []), ([0, 1], [0, 1]), ([2], [2]), ([], []), ([], []), ([4, 5], [4, 5]), ([6], [6]), ([3, 7], [3, 7]), ([8], [8])])
def laws_eqBundleS.B6 : List Nat := [0, 0, 3, 7, 0, 0, 48, 112, 255, 511]
theorem laws_eqBundleS.tab6 : rtab .any (opsOf Try.f65 6) = laws_eqBundleS.T6 := by kernel_rfl
theorem laws_eqBundleS.bits6 : waitsOk laws_eqBundleS.T6.2 laws_eqBundleS.B6 = true := by kernel_rfl
set_option maxHeartbeats 8000000 in
set_option maxRecDepth 100000 in
theorem laws_eqBundleS.calls (k : Nat) (A0 : Option Addr) (c0 : Nat) (l0 : List (S102)) (A1 : Option Addr) (c1 : Nat) (l1 : List (S102)) (r : Bool) (w : World) (hr0 : Kd.C k102 w A0 l0.length l0) (hc0 : l0.length ≤ c0) (hr1 : Kd.C k102 w A1 l1.length l1) (hc1 : l1.length ≤ c1) (h : laws_eqBundleS.f k l0 l1 = some r) :
    Calls Try.prog 65 #[.slice A0 l0.length c0, .slice A1 l1.length c1] w fun e w' => e = .returned (.bool r) ∧ Below w.heap.size w w' := by
  have hu102 := Try.underlying102
  have HR0 := Aside0.mk hr0
  have HC0 := Aside0.mk hc0
  clear hr0 hc0
  have HR1 := Aside0.mk hr1
  have HC1 := Aside0.mk hc1
  clear hr1 hc1
  have HB := Aside0.mk (Below.refl w.heap.size w)
  have H : (if (l0.length : Int) = (l1.length : Int) then (laws_eqBundleS.l0 k l0 l1 0) else (some false)) = some r := h
  clear h
  by_cases c3 : (l0.length : Int) = (l1.length : Int)
  · rw [if_pos c3] at H
    have c3b0 : ((l0.length : Int) == (l1.length : Int)) = true := beq_iff_eq.mpr c3
    have c3b1 : ((l0.length : Int) != (l1.length : Int)) = false := bne_eq_false_iff_eq.mpr c3
    have c3b2 : (l0.length == l1.length) = true := by first | simpa using c3 | (simp at c3 ⊢; omega)
    clear c3
    have H' := Aside0.mk H
    clear H
    go_enter Try.func65, Try.ntmps65
    go_wp2
    go_loopg [5] k (fun kq v5 w' => ∃ (x5_1 : Int), v5 = .int .i64 x5_1 ∧ Aside0 (laws_eqBundleS.l0 kq l0 l1 x5_1 = some r) ∧ Aside0 (kq ≤ k) ∧ Aside0 (Below w.heap.size w w'))
    case atStart => exact ⟨(0), er_, H', ⟨Nat.le_refl _⟩, ⟨bl_⟩⟩
    case round =>
      clear H'
      try clear c1
      try clear p2
      try clear c3
      try clear c3b0
      try clear c3b1
      try clear c3b2
      obtain ⟨x5_1, rfl, HA, HK1, HB⟩ := hrel
      cases gk with
      | zero => exact absurd HA.out (by simp [laws_eqBundleS.l0])
      | succ k1 =>
        have H := HA.out
        clear HA
        simp only [laws_eqBundleS.l0] at H
        by_cases c4 : x5_1 < (l0.length : Int)
        · rw [if_pos c4] at H
          have c4b0 : decide (x5_1 < (l0.length : Int)) = true := decide_eq_true c4
          clear c4
          by_cases c5 : 0 ≤ x5_1
          · rw [if_pos c5] at H
            have c5b0 : decide (0 ≤ x5_1) = true := decide_eq_true c5
            clear c5
            by_cases c6 : x5_1 < (l1.length : Int)
            · rw [if_pos c6] at H
              have c6b0 : decide (x5_1 < (l1.length : Int)) = true := decide_eq_true c6
              clear c6
              replace H := Option.bind_eq_some_iff.mp H
              obtain ⟨t299, A70, H⟩ := H
              replace H : (if t299 = true then (laws_eqBundleS.l0 k1 l0 l1 (wrap64 (x5_1 + 1))) else (some false)) = some r := H
              have A7 := Aside0.mk A70
              clear A70
              by_cases c8 : t299 = true
              · subst c8
                have H1 : (laws_eqBundleS.l0 k1 l0 l1 (wrap64 (x5_1 + 1))) = some r := by rw [if_pos rfl] at H; exact H
                clear H
                have H := H1
                clear H1
                have H' := Aside0.mk H
                clear H
                try go_wp2
                have n0_ := Aside0.mk (below_drew1 HB.out)
                clear HB
                have HB := n0_
                clear n0_
                have p297 : 0 ≤ (x5_1 : Int) := of_decide_eq_true as_
                have q297 : x5_1 < (l0.length : Int) := of_decide_eq_true as_
                obtain ⟨ad297, A297_2, c297_2, e297, hx297_0, hx297_1, hx297_2, hl297_2, hi297_2⟩ := at_T102 HR0.out x5_1 p297 q297
                have hw297_2 := hx297_2
                have hw297_1 := hx297_1
                have hw297_0 := hx297_0
                cases e297
                replace hx297_0 := (HB.out.cell (World.block_lt_of_cell? _ _ hx297_0)).trans hx297_0
                replace hx297_1 := (HB.out.cell (World.block_lt_of_cell? _ _ hx297_1)).trans hx297_1
                replace hx297_2 := (HB.out.cell (World.block_lt_of_cell? _ _ hx297_2)).trans hx297_2
                have HR297_2 := Aside0.mk hi297_2
                have HC297_2 := Aside0.mk hl297_2
                clear hi297_2 hl297_2
                replace p297 := eq_true p297
                replace q297 := eq_true q297
                have p298 : 0 ≤ (x5_1 : Int) := of_decide_eq_true as_
                have q298 : x5_1 < (l1.length : Int) := of_decide_eq_true as_
                obtain ⟨ad298, A298_2, c298_2, e298, hx298_0, hx298_1, hx298_2, hl298_2, hi298_2⟩ := at_T102 HR1.out x5_1 p298 q298
                have hw298_2 := hx298_2
                have hw298_1 := hx298_1
                have hw298_0 := hx298_0
                cases e298
                replace hx298_0 := (HB.out.cell (World.block_lt_of_cell? _ _ hx298_0)).trans hx298_0
                replace hx298_1 := (HB.out.cell (World.block_lt_of_cell? _ _ hx298_1)).trans hx298_1
                replace hx298_2 := (HB.out.cell (World.block_lt_of_cell? _ _ hx298_2)).trans hx298_2
                have HR298_2 := Aside0.mk hi298_2
                have HC298_2 := Aside0.mk hl298_2
                clear hi298_2 hl298_2
                replace p298 := eq_true p298
                replace q298 := eq_true q298
                refine start_ (n := 10) (S := fun w' => w'.cell? (ad297.add ((x5_1).toNat * 3)) = some (.int .i64 ((rd_T102 l0 x5_1).f0)) ∧ w'.cell? ⟨(ad297.add ((x5_1).toNat * 3)).block, (ad297.add ((x5_1).toNat * 3)).off + 1, none⟩ = some (.int .i64 ((rd_T102 l0 x5_1).f1)) ∧ w'.cell? ⟨(ad297.add ((x5_1).toNat * 3)).block, (ad297.add ((x5_1).toNat * 3)).off + 2, none⟩ = some (.slice A297_2 ((rd_T102 l0 x5_1).f2).length c297_2) ∧ w'.cell? (ad298.add ((x5_1).toNat * 3)) = some (.int .i64 ((rd_T102 l1 x5_1).f0)) ∧ w'.cell? ⟨(ad298.add ((x5_1).toNat * 3)).block, (ad298.add ((x5_1).toNat * 3)).off + 1, none⟩ = some (.int .i64 ((rd_T102 l1 x5_1).f1)) ∧ w'.cell? ⟨(ad298.add ((x5_1).toNat * 3)).block, (ad298.add ((x5_1).toNat * 3)).off + 2, none⟩ = some (.slice A298_2 ((rd_T102 l1 x5_1).f2).length c298_2)) (ds := []) (bs 10 0) (by kernel_rfl) rfl rfl ⟨((HB.out.cell (World.block_lt_of_cell? _ _ hw297_0)).trans hw297_0), ((HB.out.cell (World.block_lt_of_cell? _ _ hw297_1)).trans hw297_1), ((HB.out.cell (World.block_lt_of_cell? _ _ hw297_2)).trans hw297_2), ((HB.out.cell (World.block_lt_of_cell? _ _ hw298_0)).trans hw298_0), ((HB.out.cell (World.block_lt_of_cell? _ _ hw298_1)).trans hw298_1), ((HB.out.cell (World.block_lt_of_cell? _ _ hw298_2)).trans hw298_2)⟩ (fun hHeld => ?_); refine with_tabW laws_eqBundleS.tab6 laws_eqBundleS.bits6 (fun HT_ HW_ => ?_)
                generalize wr.drew = w9 at HB HR297_2 HR298_2 hx297_0 hx297_1 hx297_2 hx298_0 hx298_1 hx298_2 hHeld ⊢
                refine pu_ 0 17 (bs 10 1) HT_ ?_ rfl rfl
                refine pu_ 1 18 (bs 10 3) HT_ ?_ rfl rfl
                refine pu_ 2 19 (bs 10 7) HT_ ?_ rfl rfl
                refine pu_ 4 21 (bs 10 23) HT_ ?_ rfl rfl
                refine pu_ 5 22 (bs 10 55) HT_ ?_ rfl rfl
                refine pu_ 6 23 (bs 10 119) HT_ ?_ rfl rfl
                refine tk_ 3 20 (bs 10 127) HT_ HW_ hHeld au12_1 ?_ rfl rfl
                refine tk_ 7 24 (bs 10 255) HT_ HW_ hHeld au12_1 ?_ rfl rfl
                refine one_ (i := 8) (N := some 25) (bs 10 511) rfl rfl (one_of HT_.out (by kernel_rfl)) (by decide) (fun K hK => ?_)
                refine gr_ Try.func101 #[.agg #[.int .i64 ((rd_T102 l0 x5_1).f0), .int .i64 ((rd_T102 l0 x5_1).f1), .slice A297_2 ((rd_T102 l0 x5_1).f2).length c297_2], .agg #[.int .i64 ((rd_T102 l1 x5_1).f0), .int .i64 ((rd_T102 l1 x5_1).f1), .slice A298_2 ((rd_T102 l1 x5_1).f2).length c298_2]] (by rfl) ?_ rfl rfl rfl
                with_reducible refine (laws_eqBundle.calls k1 ((rd_T102 l0 x5_1).f0) ((rd_T102 l0 x5_1).f1) _ _ ((rd_T102 l0 x5_1).f2) ((rd_T102 l1 x5_1).f0) ((rd_T102 l1 x5_1).f1) _ _ ((rd_T102 l1 x5_1).f2) true _ ?side1 ?side2 ?side3 ?side4 A7.out).mono ?_
                (case side1 => exact au12_2)
                (case side2 => exact HC297_2.out)
                (case side3 => exact au12_3)
                (case side4 => exact HC298_2.out)
                rintro e w10 ⟨rfl, hb⟩
                refine ⟨_, rfl, ?_⟩
                have n0_ := Aside0.mk (below_step bl_ hb)
                clear HB
                have HB := n0_
                clear n0_
                (try clear hb)
                (try clear hb2)
                (try clear hk)
                (try clear hi)
                refine hK.out _ _ ⟨((HB.out.cell (World.block_lt_of_cell? _ _ hw297_0)).trans hw297_0), ((HB.out.cell (World.block_lt_of_cell? _ _ hw297_1)).trans hw297_1), ((HB.out.cell (World.block_lt_of_cell? _ _ hw297_2)).trans hw297_2), ((HB.out.cell (World.block_lt_of_cell? _ _ hw298_0)).trans hw298_0), ((HB.out.cell (World.block_lt_of_cell? _ _ hw298_1)).trans hw298_1), ((HB.out.cell (World.block_lt_of_cell? _ _ hw298_2)).trans hw298_2)⟩ (fun hHeld => ?_)
                clear hK K
                refine norm_ (a' := ?_) ?_ ?_
                rotate_left
                · show Act.put _ (some 25) _ = _
                  simp only [Act.put, List.setIfInBounds_toArray, List.set_cons_zero, List.set_cons_succ, i64_w, i32_w]
                  rfl
                refine pu_ 9 26 (bs 10 1023) HT_ ?_ rfl rfl
                refine done_ (done_of HT_.out (by kernel_rfl)) ?_
                try go_wp2
                go_roundg k1
                case measure => have := HK1.out; omega
                case rel => exact ⟨(wrap64 (x5_1 + 1)), er_, H', ⟨by have := HK1.out; omega⟩, ⟨bl_⟩⟩
              · replace c8 := Bool.eq_false_iff.mpr c8
                subst c8
                have H1 : (some false) = some r := by rw [if_neg (show ¬ (false = true) by decide)] at H; exact H
                clear H
                have H := H1
                clear H1
                obtain rfl := Option.some.inj H
                try go_wp2
                have n0_ := Aside0.mk (below_drew1 HB.out)
                clear HB
                have HB := n0_
                clear n0_
                have p297 : 0 ≤ (x5_1 : Int) := of_decide_eq_true as_
                have q297 : x5_1 < (l0.length : Int) := of_decide_eq_true as_
                obtain ⟨ad297, A297_2, c297_2, e297, hx297_0, hx297_1, hx297_2, hl297_2, hi297_2⟩ := at_T102 HR0.out x5_1 p297 q297
                have hw297_2 := hx297_2
                have hw297_1 := hx297_1
                have hw297_0 := hx297_0
                cases e297
                replace hx297_0 := (HB.out.cell (World.block_lt_of_cell? _ _ hx297_0)).trans hx297_0
                replace hx297_1 := (HB.out.cell (World.block_lt_of_cell? _ _ hx297_1)).trans hx297_1
                replace hx297_2 := (HB.out.cell (World.block_lt_of_cell? _ _ hx297_2)).trans hx297_2
                have HR297_2 := Aside0.mk hi297_2
                have HC297_2 := Aside0.mk hl297_2
                clear hi297_2 hl297_2
                replace p297 := eq_true p297
                replace q297 := eq_true q297
                have p298 : 0 ≤ (x5_1 : Int) := of_decide_eq_true as_
                have q298 : x5_1 < (l1.length : Int) := of_decide_eq_true as_
                obtain ⟨ad298, A298_2, c298_2, e298, hx298_0, hx298_1, hx298_2, hl298_2, hi298_2⟩ := at_T102 HR1.out x5_1 p298 q298
                have hw298_2 := hx298_2
                have hw298_1 := hx298_1
                have hw298_0 := hx298_0
                cases e298
                replace hx298_0 := (HB.out.cell (World.block_lt_of_cell? _ _ hx298_0)).trans hx298_0
                replace hx298_1 := (HB.out.cell (World.block_lt_of_cell? _ _ hx298_1)).trans hx298_1
                replace hx298_2 := (HB.out.cell (World.block_lt_of_cell? _ _ hx298_2)).trans hx298_2
                have HR298_2 := Aside0.mk hi298_2
                have HC298_2 := Aside0.mk hl298_2
                clear hi298_2 hl298_2
                replace p298 := eq_true p298
                replace q298 := eq_true q298
                refine start_ (n := 10) (S := fun w' => w'.cell? (ad297.add ((x5_1).toNat * 3)) = some (.int .i64 ((rd_T102 l0 x5_1).f0)) ∧ w'.cell? ⟨(ad297.add ((x5_1).toNat * 3)).block, (ad297.add ((x5_1).toNat * 3)).off + 1, none⟩ = some (.int .i64 ((rd_T102 l0 x5_1).f1)) ∧ w'.cell? ⟨(ad297.add ((x5_1).toNat * 3)).block, (ad297.add ((x5_1).toNat * 3)).off + 2, none⟩ = some (.slice A297_2 ((rd_T102 l0 x5_1).f2).length c297_2) ∧ w'.cell? (ad298.add ((x5_1).toNat * 3)) = some (.int .i64 ((rd_T102 l1 x5_1).f0)) ∧ w'.cell? ⟨(ad298.add ((x5_1).toNat * 3)).block, (ad298.add ((x5_1).toNat * 3)).off + 1, none⟩ = some (.int .i64 ((rd_T102 l1 x5_1).f1)) ∧ w'.cell? ⟨(ad298.add ((x5_1).toNat * 3)).block, (ad298.add ((x5_1).toNat * 3)).off + 2, none⟩ = some (.slice A298_2 ((rd_T102 l1 x5_1).f2).length c298_2)) (ds := []) (bs 10 0) (by kernel_rfl) rfl rfl ⟨((HB.out.cell (World.block_lt_of_cell? _ _ hw297_0)).trans hw297_0), ((HB.out.cell (World.block_lt_of_cell? _ _ hw297_1)).trans hw297_1), ((HB.out.cell (World.block_lt_of_cell? _ _ hw297_2)).trans hw297_2), ((HB.out.cell (World.block_lt_of_cell? _ _ hw298_0)).trans hw298_0), ((HB.out.cell (World.block_lt_of_cell? _ _ hw298_1)).trans hw298_1), ((HB.out.cell (World.block_lt_of_cell? _ _ hw298_2)).trans hw298_2)⟩ (fun hHeld => ?_); refine with_tabW laws_eqBundleS.tab6 laws_eqBundleS.bits6 (fun HT_ HW_ => ?_)
                generalize wr.drew = w11 at HB HR297_2 HR298_2 hx297_0 hx297_1 hx297_2 hx298_0 hx298_1 hx298_2 hHeld ⊢
                refine pu_ 0 17 (bs 10 1) HT_ ?_ rfl rfl
                refine pu_ 1 18 (bs 10 3) HT_ ?_ rfl rfl
                refine pu_ 2 19 (bs 10 7) HT_ ?_ rfl rfl
                refine pu_ 4 21 (bs 10 23) HT_ ?_ rfl rfl
                refine pu_ 5 22 (bs 10 55) HT_ ?_ rfl rfl
                refine pu_ 6 23 (bs 10 119) HT_ ?_ rfl rfl
                refine tk_ 3 20 (bs 10 127) HT_ HW_ hHeld au12_1 ?_ rfl rfl
                refine tk_ 7 24 (bs 10 255) HT_ HW_ hHeld au12_1 ?_ rfl rfl
                refine one_ (i := 8) (N := some 25) (bs 10 511) rfl rfl (one_of HT_.out (by kernel_rfl)) (by decide) (fun K hK => ?_)
                refine gr_ Try.func101 #[.agg #[.int .i64 ((rd_T102 l0 x5_1).f0), .int .i64 ((rd_T102 l0 x5_1).f1), .slice A297_2 ((rd_T102 l0 x5_1).f2).length c297_2], .agg #[.int .i64 ((rd_T102 l1 x5_1).f0), .int .i64 ((rd_T102 l1 x5_1).f1), .slice A298_2 ((rd_T102 l1 x5_1).f2).length c298_2]] (by rfl) ?_ rfl rfl rfl
                with_reducible refine (laws_eqBundle.calls k1 ((rd_T102 l0 x5_1).f0) ((rd_T102 l0 x5_1).f1) _ _ ((rd_T102 l0 x5_1).f2) ((rd_T102 l1 x5_1).f0) ((rd_T102 l1 x5_1).f1) _ _ ((rd_T102 l1 x5_1).f2) false _ ?side1 ?side2 ?side3 ?side4 A7.out).mono ?_
                (case side1 => exact au12_2)
                (case side2 => exact HC297_2.out)
                (case side3 => exact au12_3)
                (case side4 => exact HC298_2.out)
                rintro e w12 ⟨rfl, hb⟩
                refine ⟨_, rfl, ?_⟩
                have n0_ := Aside0.mk (below_step bl_ hb)
                clear HB
                have HB := n0_
                clear n0_
                (try clear hb)
                (try clear hb2)
                (try clear hk)
                (try clear hi)
                refine hK.out _ _ ⟨((HB.out.cell (World.block_lt_of_cell? _ _ hw297_0)).trans hw297_0), ((HB.out.cell (World.block_lt_of_cell? _ _ hw297_1)).trans hw297_1), ((HB.out.cell (World.block_lt_of_cell? _ _ hw297_2)).trans hw297_2), ((HB.out.cell (World.block_lt_of_cell? _ _ hw298_0)).trans hw298_0), ((HB.out.cell (World.block_lt_of_cell? _ _ hw298_1)).trans hw298_1), ((HB.out.cell (World.block_lt_of_cell? _ _ hw298_2)).trans hw298_2)⟩ (fun hHeld => ?_)
                clear hK K
                refine norm_ (a' := ?_) ?_ ?_
                rotate_left
                · show Act.put _ (some 25) _ = _
                  simp only [Act.put, List.setIfInBounds_toArray, List.set_cons_zero, List.set_cons_succ, i64_w, i32_w]
                  rfl
                refine pu_ 9 26 (bs 10 1023) HT_ ?_ rfl rfl
                refine done_ (done_of HT_.out (by kernel_rfl)) ?_
                try go_wp2
                go_ret
                exact ⟨au12_0, bl_⟩
            · rw [if_neg c6] at H
              exact absurd H (by simp)
          · rw [if_neg c5] at H
            exact absurd H (by simp)
        · rw [if_neg c4] at H
          have c4b0 : decide (x5_1 < (l0.length : Int)) = false := decide_eq_false c4
          clear c4
          obtain rfl := Option.some.inj H
          go_wp2
          go_ret
          exact ⟨au12_0, bl_⟩
  · rw [if_neg c3] at H
    have c3b0 : ((l0.length : Int) == (l1.length : Int)) = false := beq_eq_false_iff_ne.mpr c3
    have c3b1 : ((l0.length : Int) != (l1.length : Int)) = true := bne_iff_ne.mpr c3
    have c3b2 : (l0.length == l1.length) = false := by first | simpa using c3 | (simp at c3 ⊢; omega)
    obtain rfl := Option.some.inj H
    go_enter Try.func65, Try.ntmps65
    go_wp2
    go_ret
    exact ⟨au12_0, bl_⟩

/-! ### laws_eqInterchange: function 28 -/
def laws_eqInterchange.f (k : Nat) (a0_0 : ByteArray) (a0_1 : ByteArray) (a0_2 : Int) (l0_3 : List (S102)) (a1_0 : ByteArray) (a1_1 : ByteArray) (a1_2 : Int) (l1_3 : List (S102)) : Option (Bool) := if a0_0.toList = a1_0.toList then (if a0_1.toList = a1_1.toList then (if a0_2 = a1_2 then ((laws_eqBundleS.f k l0_3 l1_3).bind fun t302 => (if t302 = true then (some true) else (some false))) else (some false)) else (some false)) else (some false)
theorem laws_eqInterchange.mono : ∀ a0 a1 a2 a3 a4 a5 a6 a7 k, LeO (laws_eqInterchange.f k a0 a1 a2 a3 a4 a5 a6 a7) (laws_eqInterchange.f (k + 1) a0 a1 a2 a3 a4 a5 a6 a7) := by
  intro a0 a1 a2 a3 a4 a5 a6 a7 k
  unfold laws_eqInterchange.f
  repeat' first
      | (with_reducible exact laws_eqBundleS.mono _ _ _)
      | (with_reducible exact LeO.refl _)
      | (with_reducible exact LeO.none _)
      | (with_reducible refine LeO.ite ?_ ?_)
      | (with_reducible refine LeO.bind ?_ (fun _ => ?_))
      | exact laws_eqBundleS.mono _ _ _
      | exact LeO.none _
      | refine LeO.ite ?_ ?_
      | refine LeO.bind ?_ (fun _ => ?_)
set_option maxHeartbeats 8000000 in
set_option maxRecDepth 100000 in
theorem laws_eqInterchange.calls (k : Nat) (a0_0 : ByteArray) (a0_1 : ByteArray) (a0_2 : Int) (A0_3 : Option Addr) (c0_3 : Nat) (l0_3 : List (S102)) (a1_0 : ByteArray) (a1_1 : ByteArray) (a1_2 : Int) (A1_3 : Option Addr) (c1_3 : Nat) (l1_3 : List (S102)) (r : Bool) (w : World) (hr0_3 : Kd.C k102 w A0_3 l0_3.length l0_3) (hc0_3 : l0_3.length ≤ c0_3) (hr1_3 : Kd.C k102 w A1_3 l1_3.length l1_3) (hc1_3 : l1_3.length ≤ c1_3) (h : laws_eqInterchange.f k a0_0 a0_1 a0_2 l0_3 a1_0 a1_1 a1_2 l1_3 = some r) :
    Calls Try.prog 28 #[.agg #[.string a0_0, .string a0_1, .int .i64 a0_2, .slice A0_3 l0_3.length c0_3], .agg #[.string a1_0, .string a1_1, .int .i64 a1_2, .slice A1_3 l1_3.length c1_3]] w fun e w' => e = .returned (.bool r) ∧ Below w.heap.size w w' := by
  have hu64 := Try.underlying64
  have HR0_3 := Aside0.mk hr0_3
  have HC0_3 := Aside0.mk hc0_3
  clear hr0_3 hc0_3
  have HR1_3 := Aside0.mk hr1_3
  have HC1_3 := Aside0.mk hc1_3
  clear hr1_3 hc1_3
  have HB := Aside0.mk (Below.refl w.heap.size w)
  have H : (if a0_0.toList = a1_0.toList then (if a0_1.toList = a1_1.toList then (if a0_2 = a1_2 then ((laws_eqBundleS.f k l0_3 l1_3).bind fun t302 => (if t302 = true then (some true) else (some false))) else (some false)) else (some false)) else (some false)) = some r := h
  clear h
  by_cases c3 : a0_0.toList = a1_0.toList
  · rw [if_pos c3] at H
    have c3b0 : (a0_0.toList == a1_0.toList) = true := beq_iff_eq.mpr c3
    have c3b1 : (a0_0.toList != a1_0.toList) = false := bne_eq_false_iff_eq.mpr c3
    clear c3
    by_cases c4 : a0_1.toList = a1_1.toList
    · rw [if_pos c4] at H
      have c4b0 : (a0_1.toList == a1_1.toList) = true := beq_iff_eq.mpr c4
      have c4b1 : (a0_1.toList != a1_1.toList) = false := bne_eq_false_iff_eq.mpr c4
      clear c4
      by_cases c5 : a0_2 = a1_2
      · rw [if_pos c5] at H
        have c5b0 : (a0_2 == a1_2) = true := beq_iff_eq.mpr c5
        have c5b1 : (a0_2 != a1_2) = false := bne_eq_false_iff_eq.mpr c5
        clear c5
        replace H := Option.bind_eq_some_iff.mp H
        obtain ⟨t302, A60, H⟩ := H
        replace H : (if t302 = true then (some true) else (some false)) = some r := H
        have A6 := Aside0.mk A60
        clear A60
        by_cases c7 : t302 = true
        · subst c7
          have H1 : (some true) = some r := by rw [if_pos rfl] at H; exact H
          clear H
          have H := H1
          clear H1
          obtain rfl := Option.some.inj H
          go_enter Try.func28, Try.ntmps28
          go_wp2_with (first | ((with_reducible refine gate_dst (N := 2) rfl ?_); refine box_event ?hg (N := 2) ?hd (cs := #[.string a0_0, .string a0_1, .int .i64 a0_2, .slice A0_3 l0_3.length c0_3]) (t := 64) ?hr ?_; (case hd => rfl); (case hg => rfl); (case hr => exact hr_); intro gb300 hg w8 hbox hb; have n0_ := Aside0.mk (below_step bl_ hb); have n1_ := Aside0.mk (hbox); have n2_ := Aside0.mk (gw_ hg bl_); have n3_ := Aside0.mk (gw_ hg bl_); clear HB; have HB := n0_; have BK300 := n1_; have GW300 := n2_; have GE300 := n3_; clear n0_ n1_ n2_ n3_; clear hb hbox hg) | ((with_reducible refine gate_dst (N := 3) rfl ?_); refine box_event ?hg (N := 3) ?hd (cs := #[.string a1_0, .string a1_1, .int .i64 a1_2, .slice A1_3 l1_3.length c1_3]) (t := 64) ?hr ?_; (case hd => rfl); (case hg => rfl); (case hr => exact hr_); intro gb301 hg w9 hbox hb; have n0_ := Aside0.mk (blkb_ BK300 hb); have n1_ := Aside0.mk (below_step bl_ hb); have n2_ := Aside0.mk (hbox); have n3_ := Aside0.mk (gw_ hg bl_); have n4_ := Aside0.mk (gw_ hg bl_); have n5_ := Aside0.mk (gn_ hg (blkl_ BK300)); have n6_ := Aside0.mk (gm_ hg (blkl_ BK300)); clear BK300; clear HB; have BK300 := n0_; have HB := n1_; have BK301 := n2_; have GW301 := n3_; have GE301 := n4_; have NB300_301 := n5_; have NB301_300 := n6_; clear n0_ n1_ n2_ n3_ n4_ n5_ n6_; clear hb hbox hg; have hnb10 := NB300_301.out; have hnc10 := NB301_300.out; obtain ⟨hcz11_0, hcz11_1, hcz11_2, hcz11_3, hfz11_0, hfz11_1, hfz11_2, hfz11_3⟩ := cellsF4 BK300.out; obtain ⟨hcz12_0, hcz12_1, hcz12_2, hcz12_3, hfz12_0, hfz12_1, hfz12_2, hfz12_3⟩ := cellsF4 BK301.out) | ((with_reducible refine gate_callee (f := 65) rfl ?_); refine gl_ 24 Try.func65 #[.slice A0_3 l0_3.length c0_3, .slice A1_3 l1_3.length c1_3] ?_ rfl rfl rfl rfl; (with_reducible refine (laws_eqBundleS.calls k _ _ l0_3 _ _ l1_3 true _ ?side1 ?side2 ?side3 ?side4 A6.out).mono ?_); (case side1 => exact au12_6); (case side2 => exact HC0_3.out); (case side3 => exact au12_7); (case side4 => exact HC1_3.out); rintro e w13 ⟨rfl, hb⟩; refine ⟨_, rfl, ?_⟩; have n0_ := Aside0.mk (blkb_ BK300 hb); have n1_ := Aside0.mk (blkb_ BK301 hb); have n2_ := Aside0.mk (below_step bl_ hb); clear BK300; clear BK301; clear HB; have BK300 := n0_; have BK301 := n1_; have HB := n2_; clear n0_ n1_ n2_; (try clear hb); (try clear hb2); (try clear hk); (try clear hi)))
          go_ret
          exact ⟨au12_0, bl_⟩
        · replace c7 := Bool.eq_false_iff.mpr c7
          subst c7
          have H1 : (some false) = some r := by rw [if_neg (show ¬ (false = true) by decide)] at H; exact H
          clear H
          have H := H1
          clear H1
          obtain rfl := Option.some.inj H
          go_enter Try.func28, Try.ntmps28
          go_wp2_with (first | ((with_reducible refine gate_dst (N := 2) rfl ?_); refine box_event ?hg (N := 2) ?hd (cs := #[.string a0_0, .string a0_1, .int .i64 a0_2, .slice A0_3 l0_3.length c0_3]) (t := 64) ?hr ?_; (case hd => rfl); (case hg => rfl); (case hr => exact hr_); intro gb300 hg w14 hbox hb; have n0_ := Aside0.mk (below_step bl_ hb); have n1_ := Aside0.mk (hbox); have n2_ := Aside0.mk (gw_ hg bl_); have n3_ := Aside0.mk (gw_ hg bl_); clear HB; have HB := n0_; have BK300 := n1_; have GW300 := n2_; have GE300 := n3_; clear n0_ n1_ n2_ n3_; clear hb hbox hg) | ((with_reducible refine gate_dst (N := 3) rfl ?_); refine box_event ?hg (N := 3) ?hd (cs := #[.string a1_0, .string a1_1, .int .i64 a1_2, .slice A1_3 l1_3.length c1_3]) (t := 64) ?hr ?_; (case hd => rfl); (case hg => rfl); (case hr => exact hr_); intro gb301 hg w15 hbox hb; have n0_ := Aside0.mk (blkb_ BK300 hb); have n1_ := Aside0.mk (below_step bl_ hb); have n2_ := Aside0.mk (hbox); have n3_ := Aside0.mk (gw_ hg bl_); have n4_ := Aside0.mk (gw_ hg bl_); have n5_ := Aside0.mk (gn_ hg (blkl_ BK300)); have n6_ := Aside0.mk (gm_ hg (blkl_ BK300)); clear BK300; clear HB; have BK300 := n0_; have HB := n1_; have BK301 := n2_; have GW301 := n3_; have GE301 := n4_; have NB300_301 := n5_; have NB301_300 := n6_; clear n0_ n1_ n2_ n3_ n4_ n5_ n6_; clear hb hbox hg; have hnb16 := NB300_301.out; have hnc16 := NB301_300.out; obtain ⟨hcz17_0, hcz17_1, hcz17_2, hcz17_3, hfz17_0, hfz17_1, hfz17_2, hfz17_3⟩ := cellsF4 BK300.out; obtain ⟨hcz18_0, hcz18_1, hcz18_2, hcz18_3, hfz18_0, hfz18_1, hfz18_2, hfz18_3⟩ := cellsF4 BK301.out) | ((with_reducible refine gate_callee (f := 65) rfl ?_); refine gl_ 24 Try.func65 #[.slice A0_3 l0_3.length c0_3, .slice A1_3 l1_3.length c1_3] ?_ rfl rfl rfl rfl; (with_reducible refine (laws_eqBundleS.calls k _ _ l0_3 _ _ l1_3 false _ ?side1 ?side2 ?side3 ?side4 A6.out).mono ?_); (case side1 => exact au12_6); (case side2 => exact HC0_3.out); (case side3 => exact au12_7); (case side4 => exact HC1_3.out); rintro e w19 ⟨rfl, hb⟩; refine ⟨_, rfl, ?_⟩; have n0_ := Aside0.mk (blkb_ BK300 hb); have n1_ := Aside0.mk (blkb_ BK301 hb); have n2_ := Aside0.mk (below_step bl_ hb); clear BK300; clear BK301; clear HB; have BK300 := n0_; have BK301 := n1_; have HB := n2_; clear n0_ n1_ n2_; (try clear hb); (try clear hb2); (try clear hk); (try clear hi)))
          go_ret
          exact ⟨au12_0, bl_⟩
      · rw [if_neg c5] at H
        have c5b0 : (a0_2 == a1_2) = false := beq_eq_false_iff_ne.mpr c5
        have c5b1 : (a0_2 != a1_2) = true := bne_iff_ne.mpr c5
        obtain rfl := Option.some.inj H
        go_enter Try.func28, Try.ntmps28
        go_wp2_with (first | ((with_reducible refine gate_dst (N := 2) rfl ?_); refine box_event ?hg (N := 2) ?hd (cs := #[.string a0_0, .string a0_1, .int .i64 a0_2, .slice A0_3 l0_3.length c0_3]) (t := 64) ?hr ?_; (case hd => rfl); (case hg => rfl); (case hr => exact hr_); intro gb300 hg w20 hbox hb; have n0_ := Aside0.mk (below_step bl_ hb); have n1_ := Aside0.mk (hbox); have n2_ := Aside0.mk (gw_ hg bl_); have n3_ := Aside0.mk (gw_ hg bl_); clear HB; have HB := n0_; have BK300 := n1_; have GW300 := n2_; have GE300 := n3_; clear n0_ n1_ n2_ n3_; clear hb hbox hg) | ((with_reducible refine gate_dst (N := 3) rfl ?_); refine box_event ?hg (N := 3) ?hd (cs := #[.string a1_0, .string a1_1, .int .i64 a1_2, .slice A1_3 l1_3.length c1_3]) (t := 64) ?hr ?_; (case hd => rfl); (case hg => rfl); (case hr => exact hr_); intro gb301 hg w21 hbox hb; have n0_ := Aside0.mk (blkb_ BK300 hb); have n1_ := Aside0.mk (below_step bl_ hb); have n2_ := Aside0.mk (hbox); have n3_ := Aside0.mk (gw_ hg bl_); have n4_ := Aside0.mk (gw_ hg bl_); have n5_ := Aside0.mk (gn_ hg (blkl_ BK300)); have n6_ := Aside0.mk (gm_ hg (blkl_ BK300)); clear BK300; clear HB; have BK300 := n0_; have HB := n1_; have BK301 := n2_; have GW301 := n3_; have GE301 := n4_; have NB300_301 := n5_; have NB301_300 := n6_; clear n0_ n1_ n2_ n3_ n4_ n5_ n6_; clear hb hbox hg; have hnb22 := NB300_301.out; have hnc22 := NB301_300.out; obtain ⟨hcz23_0, hcz23_1, hcz23_2, hcz23_3, hfz23_0, hfz23_1, hfz23_2, hfz23_3⟩ := cellsF4 BK300.out; obtain ⟨hcz24_0, hcz24_1, hcz24_2, hcz24_3, hfz24_0, hfz24_1, hfz24_2, hfz24_3⟩ := cellsF4 BK301.out))
        go_ret
        exact ⟨au12_0, bl_⟩
    · rw [if_neg c4] at H
      have c4b0 : (a0_1.toList == a1_1.toList) = false := beq_eq_false_iff_ne.mpr c4
      have c4b1 : (a0_1.toList != a1_1.toList) = true := bne_iff_ne.mpr c4
      obtain rfl := Option.some.inj H
      go_enter Try.func28, Try.ntmps28
      go_wp2_with (first | ((with_reducible refine gate_dst (N := 2) rfl ?_); refine box_event ?hg (N := 2) ?hd (cs := #[.string a0_0, .string a0_1, .int .i64 a0_2, .slice A0_3 l0_3.length c0_3]) (t := 64) ?hr ?_; (case hd => rfl); (case hg => rfl); (case hr => exact hr_); intro gb300 hg w25 hbox hb; have n0_ := Aside0.mk (below_step bl_ hb); have n1_ := Aside0.mk (hbox); have n2_ := Aside0.mk (gw_ hg bl_); have n3_ := Aside0.mk (gw_ hg bl_); clear HB; have HB := n0_; have BK300 := n1_; have GW300 := n2_; have GE300 := n3_; clear n0_ n1_ n2_ n3_; clear hb hbox hg) | ((with_reducible refine gate_dst (N := 3) rfl ?_); refine box_event ?hg (N := 3) ?hd (cs := #[.string a1_0, .string a1_1, .int .i64 a1_2, .slice A1_3 l1_3.length c1_3]) (t := 64) ?hr ?_; (case hd => rfl); (case hg => rfl); (case hr => exact hr_); intro gb301 hg w26 hbox hb; have n0_ := Aside0.mk (blkb_ BK300 hb); have n1_ := Aside0.mk (below_step bl_ hb); have n2_ := Aside0.mk (hbox); have n3_ := Aside0.mk (gw_ hg bl_); have n4_ := Aside0.mk (gw_ hg bl_); have n5_ := Aside0.mk (gn_ hg (blkl_ BK300)); have n6_ := Aside0.mk (gm_ hg (blkl_ BK300)); clear BK300; clear HB; have BK300 := n0_; have HB := n1_; have BK301 := n2_; have GW301 := n3_; have GE301 := n4_; have NB300_301 := n5_; have NB301_300 := n6_; clear n0_ n1_ n2_ n3_ n4_ n5_ n6_; clear hb hbox hg; have hnb27 := NB300_301.out; have hnc27 := NB301_300.out; obtain ⟨hcz28_0, hcz28_1, hcz28_2, hcz28_3, hfz28_0, hfz28_1, hfz28_2, hfz28_3⟩ := cellsF4 BK300.out; obtain ⟨hcz29_0, hcz29_1, hcz29_2, hcz29_3, hfz29_0, hfz29_1, hfz29_2, hfz29_3⟩ := cellsF4 BK301.out))
      go_ret
      exact ⟨au12_0, bl_⟩
  · rw [if_neg c3] at H
    have c3b0 : (a0_0.toList == a1_0.toList) = false := beq_eq_false_iff_ne.mpr c3
    have c3b1 : (a0_0.toList != a1_0.toList) = true := bne_iff_ne.mpr c3
    obtain rfl := Option.some.inj H
    go_enter Try.func28, Try.ntmps28
    go_wp2_with (first | ((with_reducible refine gate_dst (N := 2) rfl ?_); refine box_event ?hg (N := 2) ?hd (cs := #[.string a0_0, .string a0_1, .int .i64 a0_2, .slice A0_3 l0_3.length c0_3]) (t := 64) ?hr ?_; (case hd => rfl); (case hg => rfl); (case hr => exact hr_); intro gb300 hg w30 hbox hb; have n0_ := Aside0.mk (below_step bl_ hb); have n1_ := Aside0.mk (hbox); have n2_ := Aside0.mk (gw_ hg bl_); have n3_ := Aside0.mk (gw_ hg bl_); clear HB; have HB := n0_; have BK300 := n1_; have GW300 := n2_; have GE300 := n3_; clear n0_ n1_ n2_ n3_; clear hb hbox hg) | ((with_reducible refine gate_dst (N := 3) rfl ?_); refine box_event ?hg (N := 3) ?hd (cs := #[.string a1_0, .string a1_1, .int .i64 a1_2, .slice A1_3 l1_3.length c1_3]) (t := 64) ?hr ?_; (case hd => rfl); (case hg => rfl); (case hr => exact hr_); intro gb301 hg w31 hbox hb; have n0_ := Aside0.mk (blkb_ BK300 hb); have n1_ := Aside0.mk (below_step bl_ hb); have n2_ := Aside0.mk (hbox); have n3_ := Aside0.mk (gw_ hg bl_); have n4_ := Aside0.mk (gw_ hg bl_); have n5_ := Aside0.mk (gn_ hg (blkl_ BK300)); have n6_ := Aside0.mk (gm_ hg (blkl_ BK300)); clear BK300; clear HB; have BK300 := n0_; have HB := n1_; have BK301 := n2_; have GW301 := n3_; have GE301 := n4_; have NB300_301 := n5_; have NB301_300 := n6_; clear n0_ n1_ n2_ n3_ n4_ n5_ n6_; clear hb hbox hg; have hnb32 := NB300_301.out; have hnc32 := NB301_300.out; obtain ⟨hcz33_0, hcz33_1, hcz33_2, hcz33_3, hfz33_0, hfz33_1, hfz33_2, hfz33_3⟩ := cellsF4 BK300.out; obtain ⟨hcz34_0, hcz34_1, hcz34_2, hcz34_3, hfz34_0, hfz34_1, hfz34_2, hfz34_3⟩ := cellsF4 BK301.out))
    go_ret
    exact ⟨au12_0, bl_⟩

end Go.Proofs.Ytlghcbmkhdibdaa.PFnExactIxRight
