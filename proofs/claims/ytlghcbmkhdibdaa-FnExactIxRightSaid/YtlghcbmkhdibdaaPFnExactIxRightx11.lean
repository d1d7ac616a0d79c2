-- printed by a program of this session (wip/xp/xprint.py) out of the translation; Lean checks it
import Derived.Test.YtlghcbmkhdibdaaPFnExactIxRightx0
import Derived.Test.YtlghcbmkhdibdaaPFnExactIxRightx10
namespace Go.Proofs.Ytlghcbmkhdibdaa.PFnExactIxRight
open Go.RowKit Go.Proofs.YtlghcbmkhdibdaaW.PrintWords Go.Proofs.YtlghcbmkhdibdaaW.PrintLast Go.Proofs.YtlghcbmkhdibdaaW.PrintMore
attribute [local go_sem] max2_int min2_int max_two min_two max_three min_three max_four min_four   -- for this text's walks alone
set_option linter.unusedVariables false
set_option linter.unusedSimpArgs false

theorem au11_0 {p : Prop} (h : p := by first | rfl | (simp [errW_none, errW_some] <;> rfl) | (simp [*, errW_none, errW_some] <;> rfl)) : p := h
theorem au11_1 {p : Prop} (h : p := by rintro w' ⟨s0, s1, s2, s3⟩; go_simp; with_reducible rfl) : p := h
theorem au11_2 {p : Prop} (h : p := by repeat (first | exact (Kd.C_below HR285_1.out HB.out) | (with_reducible refine Kd.C_alloc ?_ _) | (with_reducible refine Kd.C_drewN ?_ _) | (with_reducible refine Kd.C_drew ?_))) : p := h
theorem au11_3 {p : Prop} (h : p := by repeat (first | exact (Kd.C_below HR286_1.out HB.out) | (with_reducible refine Kd.C_alloc ?_ _) | (with_reducible refine Kd.C_drewN ?_ _) | (with_reducible refine Kd.C_drew ?_))) : p := h
theorem au11_4 {p : Prop} (h : p := by repeat (first | exact (Kd.C_below HR291_1.out HB.out) | (with_reducible refine Kd.C_alloc ?_ _) | (with_reducible refine Kd.C_drewN ?_ _) | (with_reducible refine Kd.C_drew ?_))) : p := h
theorem au11_5 {p : Prop} (h : p := by repeat (first | exact (Kd.C_below HR292_1.out HB.out) | (with_reducible refine Kd.C_alloc ?_ _) | (with_reducible refine Kd.C_drewN ?_ _) | (with_reducible refine Kd.C_drew ?_))) : p := h
theorem au11_6 {p : Prop} (h : p := by repeat (first | exact (Kd.C_below HR0_1.out HB.out) | (with_reducible refine Kd.C_alloc ?_ _) | (with_reducible refine Kd.C_drewN ?_ _) | (with_reducible refine Kd.C_drew ?_))) : p := h
theorem au11_7 {p : Prop} (h : p := by repeat (first | exact (Kd.C_below HR1_1.out HB.out) | (with_reducible refine Kd.C_alloc ?_ _) | (with_reducible refine Kd.C_drewN ?_ _) | (with_reducible refine Kd.C_drew ?_))) : p := h

/-! ### laws_eqSegmentS: function 132 -/
def laws_eqSegmentS.l0 : Nat → List (S88) → List (S88) → Int → Option (Bool)
  | 0, _, _, _ => none
  | k + 1, x0, x1, x5 => if x5 < (x0.length : Int) then (if 0 ≤ x5 then (if x5 < (x1.length : Int) then ((laws_eqSegment.f k ((rd_T88 x0 x5).f0) ((rd_T88 x0 x5).f1) ((rd_T88 x1 x5).f0) ((rd_T88 x1 x5).f1)).bind fun t287 => (if t287 = true then (laws_eqSegmentS.l0 k x0 x1 (wrap64 (x5 + 1))) else (some false))) else (none)) else (none)) else (some true)
def laws_eqSegmentS.f (k : Nat) (l0 : List (S88)) (l1 : List (S88)) : Option (Bool) := if (l0.length : Int) = (l1.length : Int) then (laws_eqSegmentS.l0 k l0 l1 0) else (some false)
theorem laws_eqSegmentS.mono_l : ∀ k, (∀ y0 y1 y2, LeO (laws_eqSegmentS.l0 k y0 y1 y2) (laws_eqSegmentS.l0 (k + 1) y0 y1 y2))
  | 0 => fun _ _ _ r h => by simp [laws_eqSegmentS.l0] at h
  | k + 1 => by
    have ih0 := laws_eqSegmentS.mono_l k
    · intro y0 y1 y2
      unfold laws_eqSegmentS.l0
      repeat' first
      | (with_reducible exact ih0 _ _ _)
      | (with_reducible exact laws_eqSegment.mono _ _ _ _ _)
      | (with_reducible exact LeO.refl _)
      | (with_reducible exact LeO.none _)
      | (with_reducible refine LeO.ite ?_ ?_)
      | (with_reducible refine LeO.bind ?_ (fun _ => ?_))
      | exact ih0 _ _ _
      | exact laws_eqSegment.mono _ _ _ _ _
      | exact LeO.none _
      | refine LeO.ite ?_ ?_
      | refine LeO.bind ?_ (fun _ => ?_)
theorem laws_eqSegmentS.mono : ∀ a0 a1 k, LeO (laws_eqSegmentS.f k a0 a1) (laws_eqSegmentS.f (k + 1) a0 a1) := by
  intro a0 a1 k
  have ih0 := laws_eqSegmentS.mono_l k
  unfold laws_eqSegmentS.f
  repeat' first
      | (with_reducible exact ih0 _ _ _)
      | (with_reducible exact laws_eqSegment.mono _ _ _ _ _)
      | (with_reducible exact LeO.refl _)
      | (with_reducible exact LeO.none _)
      | (with_reducible refine LeO.ite ?_ ?_)
      | (with_reducible refine LeO.bind ?_ (fun _ => ?_))
      | exact ih0 _ _ _
      | exact laws_eqSegment.mono _ _ _ _ _
      | exact LeO.none _
      | refine LeO.ite ?_ ?_
      | refine LeO.bind ?_ (fun _ => ?_)
def laws_eqSegmentS.T6 : Bool × List (List Nat × List Nat) := (true, [([], []), ([], []), ([0, 1], [0, 1]), ([2], [2]), ([], []), ([], []), ([4, 5], [4, 5]), ([6], [6]), ([3, 7], [3, 7]), ([8], [8])])
def laws_eqSegmentS.B6 : List Nat := [0, 0, 3, 7, 0, 0, 48, 112, 255, 511]
theorem laws_eqSegmentS.tab6 : rtab .any (opsOf Try.f132 6) = laws_eqSegmentS.T6 := by kernel_rfl
theorem laws_eqSegmentS.bits6 : waitsOk laws_eqSegmentS.T6.2 laws_eqSegmentS.B6 = true := by kernel_rfl
set_option maxHeartbeats 8000000 in
set_option maxRecDepth 100000 in
theorem laws_eqSegmentS.calls (k : Nat) (A0 : Option Addr) (c0 : Nat) (l0 : List (S88)) (A1 : Option Addr) (c1 : Nat) (l1 : List (S88)) (r : Bool) (w : World) (hr0 : Kd.C k88 w A0 l0.length l0) (hc0 : l0.length ≤ c0) (hr1 : Kd.C k88 w A1 l1.length l1) (hc1 : l1.length ≤ c1) (h : laws_eqSegmentS.f k l0 l1 = some r) :
    Calls Try.prog 132 #[.slice A0 l0.length c0, .slice A1 l1.length c1] w fun e w' => e = .returned (.bool r) ∧ Below w.heap.size w w' := by
  have hu88 := Try.underlying88
  have HR0 := Aside0.mk hr0
  have HC0 := Aside0.mk hc0
  clear hr0 hc0
  have HR1 := Aside0.mk hr1
  have HC1 := Aside0.mk hc1
  clear hr1 hc1
  have HB := Aside0.mk (Below.refl w.heap.size w)
  have H : (if (l0.length : Int) = (l1.length : Int) then (laws_eqSegmentS.l0 k l0 l1 0) else (some false)) = some r := h
  clear h
  by_cases c3 : (l0.length : Int) = (l1.length : Int)
  · rw [if_pos c3] at H
    have c3b0 : ((l0.length : Int) == (l1.length : Int)) = true := beq_iff_eq.mpr c3
    have c3b1 : ((l0.length : Int) != (l1.length : Int)) = false := bne_eq_false_iff_eq.mpr c3
    have c3b2 : (l0.length == l1.length) = true := by first | simpa using c3 | (simp at c3 ⊢; omega)
    clear c3
    have H' := Aside0.mk H
    clear H
    go_enter Try.func132, Try.ntmps132
    go_wp2
    go_loopg [5] k (fun kq v5 w' => ∃ (x5_1 : Int), v5 = .int .i64 x5_1 ∧ Aside0 (laws_eqSegmentS.l0 kq l0 l1 x5_1 = some r) ∧ Aside0 (kq ≤ k) ∧ Aside0 (Below w.heap.size w w'))
    case atStart => exact ⟨(0), er_, H', ⟨Nat.le_refl _⟩, ⟨bl_⟩⟩
    case round =>
      clear H'
      try clear c1
      try clear p2
      try clear c3
      try clear c3b0
      try clear c3b1
      try clear c3b2
      obtain ⟨x5_1, rfl, HA, HK1, HB⟩ := hrel
      cases gk with
      | zero => exact absurd HA.out (by simp [laws_eqSegmentS.l0])
      | succ k1 =>
        have H := HA.out
        clear HA
        simp only [laws_eqSegmentS.l0] at H
        by_cases c4 : x5_1 < (l0.length : Int)
        · rw [if_pos c4] at H
          have c4b0 : decide (x5_1 < (l0.length : Int)) = true := decide_eq_true c4
          clear c4
          by_cases c5 : 0 ≤ x5_1
          · rw [if_pos c5] at H
            have c5b0 : decide (0 ≤ x5_1) = true := decide_eq_true c5
            clear c5
            by_cases c6 : x5_1 < (l1.length : Int)
            · rw [if_pos c6] at H
              have c6b0 : decide (x5_1 < (l1.length : Int)) = true := decide_eq_true c6
              clear c6
              replace H := Option.bind_eq_some_iff.mp H
              obtain ⟨t287, A70, H⟩ := H
              replace H : (if t287 = true then (laws_eqSegmentS.l0 k1 l0 l1 (wrap64 (x5_1 + 1))) else (some false)) = some r := H
              have A7 := Aside0.mk A70
              clear A70
              by_cases c8 : t287 = true
              · subst c8
                have H1 : (laws_eqSegmentS.l0 k1 l0 l1 (wrap64 (x5_1 + 1))) = some r := by rw [if_pos rfl] at H; exact H
                clear H
                have H := H1
                clear H1
                have H' := Aside0.mk H
                clear H
                try go_wp2
                have n0_ := Aside0.mk (below_drew1 HB.out)
                clear HB
                have HB := n0_
                clear n0_
                have p285 : 0 ≤ (x5_1 : Int) := of_decide_eq_true as_
                have q285 : x5_1 < (l0.length : Int) := of_decide_eq_true as_
                obtain ⟨ad285, A285_1, c285_1, e285, hx285_0, hx285_1, hl285_1, hi285_1⟩ := at_T88 HR0.out x5_1 p285 q285
                have hw285_1 := hx285_1
                have hw285_0 := hx285_0
                cases e285
                replace hx285_0 := (HB.out.cell (World.block_lt_of_cell? _ _ hx285_0)).trans hx285_0
                replace hx285_1 := (HB.out.cell (World.block_lt_of_cell? _ _ hx285_1)).trans hx285_1
                have HR285_1 := Aside0.mk hi285_1
                have HC285_1 := Aside0.mk hl285_1
                clear hi285_1 hl285_1
                replace p285 := eq_true p285
                replace q285 := eq_true q285
                have p286 : 0 ≤ (x5_1 : Int) := of_decide_eq_true as_
                have q286 : x5_1 < (l1.length : Int) := of_decide_eq_true as_
                obtain ⟨ad286, A286_1, c286_1, e286, hx286_0, hx286_1, hl286_1, hi286_1⟩ := at_T88 HR1.out x5_1 p286 q286
                have hw286_1 := hx286_1
                have hw286_0 := hx286_0
                cases e286
                replace hx286_0 := (HB.out.cell (World.block_lt_of_cell? _ _ hx286_0)).trans hx286_0
                replace hx286_1 := (HB.out.cell (World.block_lt_of_cell? _ _ hx286_1)).trans hx286_1
                have HR286_1 := Aside0.mk hi286_1
                have HC286_1 := Aside0.mk hl286_1
                clear hi286_1 hl286_1
                replace p286 := eq_true p286
                replace q286 := eq_true q286
                refine start_ (n := 10) (S := fun w' => w'.cell? (ad285.add ((x5_1).toNat * 2)) = some (.string ((rd_T88 l0 x5_1).f0)) ∧ w'.cell? ⟨(ad285.add ((x5_1).toNat * 2)).block, (ad285.add ((x5_1).toNat * 2)).off + 1, none⟩ = some (.slice A285_1 ((rd_T88 l0 x5_1).f1).length c285_1) ∧ w'.cell? (ad286.add ((x5_1).toNat * 2)) = some (.string ((rd_T88 l1 x5_1).f0)) ∧ w'.cell? ⟨(ad286.add ((x5_1).toNat * 2)).block, (ad286.add ((x5_1).toNat * 2)).off + 1, none⟩ = some (.slice A286_1 ((rd_T88 l1 x5_1).f1).length c286_1)) (ds := []) (bs 10 0) (by kernel_rfl) rfl rfl ⟨((HB.out.cell (World.block_lt_of_cell? _ _ hw285_0)).trans hw285_0), ((HB.out.cell (World.block_lt_of_cell? _ _ hw285_1)).trans hw285_1), ((HB.out.cell (World.block_lt_of_cell? _ _ hw286_0)).trans hw286_0), ((HB.out.cell (World.block_lt_of_cell? _ _ hw286_1)).trans hw286_1)⟩ (fun hHeld => ?_); refine with_tabW laws_eqSegmentS.tab6 laws_eqSegmentS.bits6 (fun HT_ HW_ => ?_)
                generalize wr.drew = w9 at HB HR285_1 HR286_1 hx285_0 hx285_1 hx286_0 hx286_1 hHeld ⊢
                refine pu_ 0 17 (bs 10 1) HT_ ?_ rfl rfl
                refine pu_ 1 18 (bs 10 3) HT_ ?_ rfl rfl
                refine pu_ 2 19 (bs 10 7) HT_ ?_ rfl rfl
                refine pu_ 4 21 (bs 10 23) HT_ ?_ rfl rfl
                refine pu_ 5 22 (bs 10 55) HT_ ?_ rfl rfl
                refine pu_ 6 23 (bs 10 119) HT_ ?_ rfl rfl
                refine tk_ 3 20 (bs 10 127) HT_ HW_ hHeld au11_1 ?_ rfl rfl
                refine tk_ 7 24 (bs 10 255) HT_ HW_ hHeld au11_1 ?_ rfl rfl
                refine one_ (i := 8) (N := some 25) (bs 10 511) rfl rfl (one_of HT_.out (by kernel_rfl)) (by decide) (fun K hK => ?_)
                refine gr_ Try.func135 #[.agg #[.string ((rd_T88 l0 x5_1).f0), .slice A285_1 ((rd_T88 l0 x5_1).f1).length c285_1], .agg #[.string ((rd_T88 l1 x5_1).f0), .slice A286_1 ((rd_T88 l1 x5_1).f1).length c286_1]] (by rfl) ?_ rfl rfl rfl
                with_reducible refine (laws_eqSegment.calls k1 ((rd_T88 l0 x5_1).f0) _ _ ((rd_T88 l0 x5_1).f1) ((rd_T88 l1 x5_1).f0) _ _ ((rd_T88 l1 x5_1).f1) true _ ?side1 ?side2 ?side3 ?side4 A7.out).mono ?_
                (case side1 => exact au11_2)
                (case side2 => exact HC285_1.out)
                (case side3 => exact au11_3)
                (case side4 => exact HC286_1.out)
                rintro e w10 ⟨rfl, hb⟩
                refine ⟨_, rfl, ?_⟩
                have n0_ := Aside0.mk (below_step bl_ hb)
                clear HB
                have HB := n0_
                clear n0_
                (try clear hb)
                (try clear hb2)
                (try clear hk)
                (try clear hi)
                refine hK.out _ _ ⟨((HB.out.cell (World.block_lt_of_cell? _ _ hw285_0)).trans hw285_0), ((HB.out.cell (World.block_lt_of_cell? _ _ hw285_1)).trans hw285_1), ((HB.out.cell (World.block_lt_of_cell? _ _ hw286_0)).trans hw286_0), ((HB.out.cell (World.block_lt_of_cell? _ _ hw286_1)).trans hw286_1)⟩ (fun hHeld => ?_)
                clear hK K
                refine norm_ (a' := ?_) ?_ ?_
                rotate_left
                · show Act.put _ (some 25) _ = _
                  simp only [Act.put, List.setIfInBounds_toArray, List.set_cons_zero, List.set_cons_succ, i64_w, i32_w]
                  rfl
                refine pu_ 9 26 (bs 10 1023) HT_ ?_ rfl rfl
                refine done_ (done_of HT_.out (by kernel_rfl)) ?_
                try go_wp2
                go_roundg k1
                case measure => have := HK1.out; omega
                case rel => exact ⟨(wrap64 (x5_1 + 1)), er_, H', ⟨by have := HK1.out; omega⟩, ⟨bl_⟩⟩
              · replace c8 := Bool.eq_false_iff.mpr c8
                subst c8
                have H1 : (some false) = some r := by rw [if_neg (show ¬ (false = true) by decide)] at H; exact H
                clear H
                have H := H1
                clear H1
                obtain rfl := Option.some.inj H
                try go_wp2
                have n0_ := Aside0.mk (below_drew1 HB.out)
                clear HB
                have HB := n0_
                clear n0_
                have p285 : 0 ≤ (x5_1 : Int) := of_decide_eq_true as_
                have q285 : x5_1 < (l0.length : Int) := of_decide_eq_true as_
                obtain ⟨ad285, A285_1, c285_1, e285, hx285_0, hx285_1, hl285_1, hi285_1⟩ := at_T88 HR0.out x5_1 p285 q285
                have hw285_1 := hx285_1
                have hw285_0 := hx285_0
                cases e285
                replace hx285_0 := (HB.out.cell (World.block_lt_of_cell? _ _ hx285_0)).trans hx285_0
                replace hx285_1 := (HB.out.cell (World.block_lt_of_cell? _ _ hx285_1)).trans hx285_1
                have HR285_1 := Aside0.mk hi285_1
                have HC285_1 := Aside0.mk hl285_1
                clear hi285_1 hl285_1
                replace p285 := eq_true p285
                replace q285 := eq_true q285
                have p286 : 0 ≤ (x5_1 : Int) := of_decide_eq_true as_
                have q286 : x5_1 < (l1.length : Int) := of_decide_eq_true as_
                obtain ⟨ad286, A286_1, c286_1, e286, hx286_0, hx286_1, hl286_1, hi286_1⟩ := at_T88 HR1.out x5_1 p286 q286
                have hw286_1 := hx286_1
                have hw286_0 := hx286_0
                cases e286
                replace hx286_0 := (HB.out.cell (World.block_lt_of_cell? _ _ hx286_0)).trans hx286_0
                replace hx286_1 := (HB.out.cell (World.block_lt_of_cell? _ _ hx286_1)).trans hx286_1
                have HR286_1 := Aside0.mk hi286_1
                have HC286_1 := Aside0.mk hl286_1
                clear hi286_1 hl286_1
                replace p286 := eq_true p286
                replace q286 := eq_true q286
                refine start_ (n := 10) (S := fun w' => w'.cell? (ad285.add ((x5_1).toNat * 2)) = some (.string ((rd_T88 l0 x5_1).f0)) ∧ w'.cell? ⟨(ad285.add ((x5_1).toNat * 2)).block, (ad285.add ((x5_1).toNat * 2)).off + 1, none⟩ = some (.slice A285_1 ((rd_T88 l0 x5_1).f1).length c285_1) ∧ w'.cell? (ad286.add ((x5_1).toNat * 2)) = some (.string ((rd_T88 l1 x5_1).f0)) ∧ w'.cell? ⟨(ad286.add ((x5_1).toNat * 2)).block, (ad286.add ((x5_1).toNat * 2)).off + 1, none⟩ = some (.slice A286_1 ((rd_T88 l1 x5_1).f1).length c286_1)) (ds := []) (bs 10 0) (by kernel_rfl) rfl rfl ⟨((HB.out.cell (World.block_lt_of_cell? _ _ hw285_0)).trans hw285_0), ((HB.out.cell (World.block_lt_of_cell? _ _ hw285_1)).trans hw285_1), ((HB.out.cell (World.block_lt_of_cell? _ _ hw286_0)).trans hw286_0), ((HB.out.cell (World.block_lt_of_cell? _ _ hw286_1)).trans hw286_1)⟩ (fun hHeld => ?_); refine with_tabW laws_eqSegmentS.tab6 laws_eqSegmentS.bits6 (fun HT_ HW_ => ?_)
                generalize wr.drew = w11 at HB HR285_1 HR286_1 hx285_0 hx285_1 hx286_0 hx286_1 hHeld ⊢
                refine pu_ 0 17 (bs 10 1) HT_ ?_ rfl rfl
                refine pu_ 1 18 (bs 10 3) HT_ ?_ rfl rfl
                refine pu_ 2 19 (bs 10 7) HT_ ?_ rfl rfl
                refine pu_ 4 21 (bs 10 23) HT_ ?_ rfl rfl
                refine pu_ 5 22 (bs 10 55) HT_ ?_ rfl rfl
                refine pu_ 6 23 (bs 10 119) HT_ ?_ rfl rfl
                refine tk_ 3 20 (bs 10 127) HT_ HW_ hHeld au11_1 ?_ rfl rfl
                refine tk_ 7 24 (bs 10 255) HT_ HW_ hHeld au11_1 ?_ rfl rfl
                refine one_ (i := 8) (N := some 25) (bs 10 511) rfl rfl (one_of HT_.out (by kernel_rfl)) (by decide) (fun K hK => ?_)
                refine gr_ Try.func135 #[.agg #[.string ((rd_T88 l0 x5_1).f0), .slice A285_1 ((rd_T88 l0 x5_1).f1).length c285_1], .agg #[.string ((rd_T88 l1 x5_1).f0), .slice A286_1 ((rd_T88 l1 x5_1).f1).length c286_1]] (by rfl) ?_ rfl rfl rfl
                with_reducible refine (laws_eqSegment.calls k1 ((rd_T88 l0 x5_1).f0) _ _ ((rd_T88 l0 x5_1).f1) ((rd_T88 l1 x5_1).f0) _ _ ((rd_T88 l1 x5_1).f1) false _ ?side1 ?side2 ?side3 ?side4 A7.out).mono ?_
                (case side1 => exact au11_2)
                (case side2 => exact HC285_1.out)
                (case side3 => exact au11_3)
                (case side4 => exact HC286_1.out)
                rintro e w12 ⟨rfl, hb⟩
                refine ⟨_, rfl, ?_⟩
                have n0_ := Aside0.mk (below_step bl_ hb)
                clear HB
                have HB := n0_
                clear n0_
                (try clear hb)
                (try clear hb2)
                (try clear hk)
                (try clear hi)
                refine hK.out _ _ ⟨((HB.out.cell (World.block_lt_of_cell? _ _ hw285_0)).trans hw285_0), ((HB.out.cell (World.block_lt_of_cell? _ _ hw285_1)).trans hw285_1), ((HB.out.cell (World.block_lt_of_cell? _ _ hw286_0)).trans hw286_0), ((HB.out.cell (World.block_lt_of_cell? _ _ hw286_1)).trans hw286_1)⟩ (fun hHeld => ?_)
                clear hK K
                refine norm_ (a' := ?_) ?_ ?_
                rotate_left
                · show Act.put _ (some 25) _ = _
                  simp only [Act.put, List.setIfInBounds_toArray, List.set_cons_zero, List.set_cons_succ, i64_w, i32_w]
                  rfl
                refine pu_ 9 26 (bs 10 1023) HT_ ?_ rfl rfl
                refine done_ (done_of HT_.out (by kernel_rfl)) ?_
                try go_wp2
                go_ret
                exact ⟨au11_0, bl_⟩
            · rw [if_neg c6] at H
              exact absurd H (by simp)
          · rw [if_neg c5] at H
            exact absurd H (by simp)
        · rw [if_neg c4] at H
          have c4b0 : decide (x5_1 < (l0.length : Int)) = false := decide_eq_false c4
          clear c4
          obtain rfl := Option.some.inj H
          go_wp2
          go_ret
          exact ⟨au11_0, bl_⟩
  · rw [if_neg c3] at H
    have c3b0 : ((l0.length : Int) == (l1.length : Int)) = false := beq_eq_false_iff_ne.mpr c3
    have c3b1 : ((l0.length : Int) != (l1.length : Int)) = true := bne_iff_ne.mpr c3
    have c3b2 : (l0.length == l1.length) = false := by first | simpa using c3 | (simp at c3 ⊢; omega)
    obtain rfl := Option.some.inj H
    go_enter Try.func132, Try.ntmps132
    go_wp2
    go_ret
    exact ⟨au11_0, bl_⟩

/-! ### laws_eqMessage: function 126 -/
def laws_eqMessage.f (k : Nat) (a0_0 : Int) (l0_1 : List (S88)) (a1_0 : Int) (l1_1 : List (S88)) : Option (Bool) := if a0_0 = a1_0 then ((laws_eqSegmentS.f k l0_1 l1_1).bind fun t290 => (if t290 = true then (some true) else (some false))) else (some false)
theorem laws_eqMessage.mono : ∀ a0 a1 a2 a3 k, LeO (laws_eqMessage.f k a0 a1 a2 a3) (laws_eqMessage.f (k + 1) a0 a1 a2 a3) := by
  intro a0 a1 a2 a3 k
  unfold laws_eqMessage.f
  repeat' first
      | (with_reducible exact laws_eqSegmentS.mono _ _ _)
      | (with_reducible exact LeO.refl _)
      | (with_reducible exact LeO.none _)
      | (with_reducible refine LeO.ite ?_ ?_)
      | (with_reducible refine LeO.bind ?_ (fun _ => ?_))
      | exact laws_eqSegmentS.mono _ _ _
      | exact LeO.none _
      | refine LeO.ite ?_ ?_
      | refine LeO.bind ?_ (fun _ => ?_)
set_option maxHeartbeats 8000000 in
set_option maxRecDepth 100000 in
theorem laws_eqMessage.calls (k : Nat) (a0_0 : Int) (A0_1 : Option Addr) (c0_1 : Nat) (l0_1 : List (S88)) (a1_0 : Int) (A1_1 : Option Addr) (c1_1 : Nat) (l1_1 : List (S88)) (r : Bool) (w : World) (hr0_1 : Kd.C k88 w A0_1 l0_1.length l0_1) (hc0_1 : l0_1.length ≤ c0_1) (hr1_1 : Kd.C k88 w A1_1 l1_1.length l1_1) (hc1_1 : l1_1.length ≤ c1_1) (h : laws_eqMessage.f k a0_0 l0_1 a1_0 l1_1 = some r) :
    Calls Try.prog 126 #[.agg #[.int .i64 a0_0, .slice A0_1 l0_1.length c0_1], .agg #[.int .i64 a1_0, .slice A1_1 l1_1.length c1_1]] w fun e w' => e = .returned (.bool r) ∧ Below w.heap.size w w' := by
  have hu104 := Try.underlying104
  have HR0_1 := Aside0.mk hr0_1
  have HC0_1 := Aside0.mk hc0_1
  clear hr0_1 hc0_1
  have HR1_1 := Aside0.mk hr1_1
  have HC1_1 := Aside0.mk hc1_1
  clear hr1_1 hc1_1
  have HB := Aside0.mk (Below.refl w.heap.size w)
  have H : (if a0_0 = a1_0 then ((laws_eqSegmentS.f k l0_1 l1_1).bind fun t290 => (if t290 = true then (some true) else (some false))) else (some false)) = some r := h
  clear h
  by_cases c3 : a0_0 = a1_0
  · rw [if_pos c3] at H
    have c3b0 : (a0_0 == a1_0) = true := beq_iff_eq.mpr c3
    have c3b1 : (a0_0 != a1_0) = false := bne_eq_false_iff_eq.mpr c3
    clear c3
    replace H := Option.bind_eq_some_iff.mp H
    obtain ⟨t290, A40, H⟩ := H
    replace H : (if t290 = true then (some true) else (some false)) = some r := H
    have A4 := Aside0.mk A40
    clear A40
    by_cases c5 : t290 = true
    · subst c5
      have H1 : (some true) = some r := by rw [if_pos rfl] at H; exact H
      clear H
      have H := H1
      clear H1
      obtain rfl := Option.some.inj H
      go_enter Try.func126, Try.ntmps126
      go_wp2_with (first | ((with_reducible refine gate_dst (N := 2) rfl ?_); refine box_event ?hg (N := 2) ?hd (cs := #[.int .i64 a0_0, .slice A0_1 l0_1.length c0_1]) (t := 104) ?hr ?_; (case hd => rfl); (case hg => rfl); (case hr => exact hr_); intro gb288 hg w6 hbox hb; have n0_ := Aside0.mk (below_step bl_ hb); have n1_ := Aside0.mk (hbox); have n2_ := Aside0.mk (gw_ hg bl_); have n3_ := Aside0.mk (gw_ hg bl_); clear HB; have HB := n0_; have BK288 := n1_; have GW288 := n2_; have GE288 := n3_; clear n0_ n1_ n2_ n3_; clear hb hbox hg) | ((with_reducible refine gate_dst (N := 3) rfl ?_); refine box_event ?hg (N := 3) ?hd (cs := #[.int .i64 a1_0, .slice A1_1 l1_1.length c1_1]) (t := 104) ?hr ?_; (case hd => rfl); (case hg => rfl); (case hr => exact hr_); intro gb289 hg w7 hbox hb; have n0_ := Aside0.mk (blkb_ BK288 hb); have n1_ := Aside0.mk (below_step bl_ hb); have n2_ := Aside0.mk (hbox); have n3_ := Aside0.mk (gw_ hg bl_); have n4_ := Aside0.mk (gw_ hg bl_); have n5_ := Aside0.mk (gn_ hg (blkl_ BK288)); have n6_ := Aside0.mk (gm_ hg (blkl_ BK288)); clear BK288; clear HB; have BK288 := n0_; have HB := n1_; have BK289 := n2_; have GW289 := n3_; have GE289 := n4_; have NB288_289 := n5_; have NB289_288 := n6_; clear n0_ n1_ n2_ n3_ n4_ n5_ n6_; clear hb hbox hg; have hnb8 := NB288_289.out; have hnc8 := NB289_288.out; obtain ⟨hcz9_0, hcz9_1, hfz9_0, hfz9_1⟩ := cellsF2 BK288.out; obtain ⟨hcz10_0, hcz10_1, hfz10_0, hfz10_1⟩ := cellsF2 BK289.out) | ((with_reducible refine gate_callee (f := 132) rfl ?_); refine gl_ 14 Try.func132 #[.slice A0_1 l0_1.length c0_1, .slice A1_1 l1_1.length c1_1] ?_ rfl rfl rfl rfl; (with_reducible refine (laws_eqSegmentS.calls k _ _ l0_1 _ _ l1_1 true _ ?side1 ?side2 ?side3 ?side4 A4.out).mono ?_); (case side1 => exact au11_6); (case side2 => exact HC0_1.out); (case side3 => exact au11_7); (case side4 => exact HC1_1.out); rintro e w11 ⟨rfl, hb⟩; refine ⟨_, rfl, ?_⟩; have n0_ := Aside0.mk (blkb_ BK288 hb); have n1_ := Aside0.mk (blkb_ BK289 hb); have n2_ := Aside0.mk (below_step bl_ hb); clear BK288; clear BK289; clear HB; have BK288 := n0_; have BK289 := n1_; have HB := n2_; clear n0_ n1_ n2_; (try clear hb); (try clear hb2); (try clear hk); (try clear hi)))
      go_ret
      exact ⟨au11_0, bl_⟩
    · replace c5 := Bool.eq_false_iff.mpr c5
      subst c5
      have H1 : (some false) = some r := by rw [if_neg (show ¬ (false = true) by decide)] at H; exact H
      clear H
      have H := H1
      clear H1
      obtain rfl := Option.some.inj H
      go_enter Try.func126, Try.ntmps126
      go_wp2_with (first | ((with_reducible refine gate_dst (N := 2) rfl ?_); refine box_event ?hg (N := 2) ?hd (cs := #[.int .i64 a0_0, .slice A0_1 l0_1.length c0_1]) (t := 104) ?hr ?_; (case hd => rfl); (case hg => rfl); (case hr => exact hr_); intro gb288 hg w12 hbox hb; have n0_ := Aside0.mk (below_step bl_ hb); have n1_ := Aside0.mk (hbox); have n2_ := Aside0.mk (gw_ hg bl_); have n3_ := Aside0.mk (gw_ hg bl_); clear HB; have HB := n0_; have BK288 := n1_; have GW288 := n2_; have GE288 := n3_; clear n0_ n1_ n2_ n3_; clear hb hbox hg) | ((with_reducible refine gate_dst (N := 3) rfl ?_); refine box_event ?hg (N := 3) ?hd (cs := #[.int .i64 a1_0, .slice A1_1 l1_1.length c1_1]) (t := 104) ?hr ?_; (case hd => rfl); (case hg => rfl); (case hr => exact hr_); intro gb289 hg w13 hbox hb; have n0_ := Aside0.mk (blkb_ BK288 hb); have n1_ := Aside0.mk (below_step bl_ hb); have n2_ := Aside0.mk (hbox); have n3_ := Aside0.mk (gw_ hg bl_); have n4_ := Aside0.mk (gw_ hg bl_); have n5_ := Aside0.mk (gn_ hg (blkl_ BK288)); have n6_ := Aside0.mk (gm_ hg (blkl_ BK288)); clear BK288; clear HB; have BK288 := n0_; have HB := n1_; have BK289 := n2_; have GW289 := n3_; have GE289 := n4_; have NB288_289 := n5_; have NB289_288 := n6_; clear n0_ n1_ n2_ n3_ n4_ n5_ n6_; clear hb hbox hg; have hnb14 := NB288_289.out; have hnc14 := NB289_288.out; obtain ⟨hcz15_0, hcz15_1, hfz15_0, hfz15_1⟩ := cellsF2 BK288.out; obtain ⟨hcz16_0, hcz16_1, hfz16_0, hfz16_1⟩ := cellsF2 BK289.out) | ((with_reducible refine gate_callee (f := 132) rfl ?_); refine gl_ 14 Try.func132 #[.slice A0_1 l0_1.length c0_1, .slice A1_1 l1_1.length c1_1] ?_ rfl rfl rfl rfl; (with_reducible refine (laws_eqSegmentS.calls k _ _ l0_1 _ _ l1_1 false _ ?side1 ?side2 ?side3 ?side4 A4.out).mono ?_); (case side1 => exact au11_6); (case side2 => exact HC0_1.out); (case side3 => exact au11_7); (case side4 => exact HC1_1.out); rintro e w17 ⟨rfl, hb⟩; refine ⟨_, rfl, ?_⟩; have n0_ := Aside0.mk (blkb_ BK288 hb); have n1_ := Aside0.mk (blkb_ BK289 hb); have n2_ := Aside0.mk (below_step bl_ hb); clear BK288; clear BK289; clear HB; have BK288 := n0_; have BK289 := n1_; have HB := n2_; clear n0_ n1_ n2_; (try clear hb); (try clear hb2); (try clear hk); (try clear hi)))
      go_ret
      exact ⟨au11_0, bl_⟩
  · rw [if_neg c3] at H
    have c3b0 : (a0_0 == a1_0) = false := beq_eq_false_iff_ne.mpr c3
    have c3b1 : (a0_0 != a1_0) = true := bne_iff_ne.mpr c3
    obtain rfl := Option.some.inj H
    go_enter Try.func126, Try.ntmps126
    go_wp2_with (first | ((with_reducible refine gate_dst (N := 2) rfl ?_); refine box_event ?hg (N := 2) ?hd (cs := #[.int .i64 a0_0, .slice A0_1 l0_1.length c0_1]) (t := 104) ?hr ?_; (case hd => rfl); (case hg => rfl); (case hr => exact hr_); intro gb288 hg w18 hbox hb; have n0_ := Aside0.mk (below_step bl_ hb); have n1_ := Aside0.mk (hbox); have n2_ := Aside0.mk (gw_ hg bl_); have n3_ := Aside0.mk (gw_ hg bl_); clear HB; have HB := n0_; have BK288 := n1_; have GW288 := n2_; have GE288 := n3_; clear n0_ n1_ n2_ n3_; clear hb hbox hg) | ((with_reducible refine gate_dst (N := 3) rfl ?_); refine box_event ?hg (N := 3) ?hd (cs := #[.int .i64 a1_0, .slice A1_1 l1_1.length c1_1]) (t := 104) ?hr ?_; (case hd => rfl); (case hg => rfl); (case hr => exact hr_); intro gb289 hg w19 hbox hb; have n0_ := Aside0.mk (blkb_ BK288 hb); have n1_ := Aside0.mk (below_step bl_ hb); have n2_ := Aside0.mk (hbox); have n3_ := Aside0.mk (gw_ hg bl_); have n4_ := Aside0.mk (gw_ hg bl_); have n5_ := Aside0.mk (gn_ hg (blkl_ BK288)); have n6_ := Aside0.mk (gm_ hg (blkl_ BK288)); clear BK288; clear HB; have BK288 := n0_; have HB := n1_; have BK289 := n2_; have GW289 := n3_; have GE289 := n4_; have NB288_289 := n5_; have NB289_288 := n6_; clear n0_ n1_ n2_ n3_ n4_ n5_ n6_; clear hb hbox hg; have hnb20 := NB288_289.out; have hnc20 := NB289_288.out; obtain ⟨hcz21_0, hcz21_1, hfz21_0, hfz21_1⟩ := cellsF2 BK288.out; obtain ⟨hcz22_0, hcz22_1, hfz22_0, hfz22_1⟩ := cellsF2 BK289.out))
    go_ret
    exact ⟨au11_0, bl_⟩

/-! ### laws_eqMessageS: function 118 -/
def laws_eqMessageS.l0 : Nat → List (S104) → List (S104) → Int → Option (Bool)
  | 0, _, _, _ => none
  | k + 1, x0, x1, x5 => if x5 < (x0.length : Int) then (if 0 ≤ x5 then (if x5 < (x1.length : Int) then ((laws_eqMessage.f k ((rd_T104 x0 x5).f0) ((rd_T104 x0 x5).f1) ((rd_T104 x1 x5).f0) ((rd_T104 x1 x5).f1)).bind fun t293 => (if t293 = true then (laws_eqMessageS.l0 k x0 x1 (wrap64 (x5 + 1))) else (some false))) else (none)) else (none)) else (some true)
def laws_eqMessageS.f (k : Nat) (l0 : List (S104)) (l1 : List (S104)) : Option (Bool) := if (l0.length : Int) = (l1.length : Int) then (laws_eqMessageS.l0 k l0 l1 0) else (some false)
theorem laws_eqMessageS.mono_l : ∀ k, (∀ y0 y1 y2, LeO (laws_eqMessageS.l0 k y0 y1 y2) (laws_eqMessageS.l0 (k + 1) y0 y1 y2))
  | 0 => fun _ _ _ r h => by simp [laws_eqMessageS.l0] at h
  | k + 1 => by
    have ih0 := laws_eqMessageS.mono_l k
    · intro y0 y1 y2
      unfold laws_eqMessageS.l0
      repeat' first
      | (with_reducible exact ih0 _ _ _)
      | (with_reducible exact laws_eqMessage.mono _ _ _ _ _)
      | (with_reducible exact LeO.refl _)
      | (with_reducible exact LeO.none _)
      | (with_reducible refine LeO.ite ?_ ?_)
      | (with_reducible refine LeO.bind ?_ (fun _ => ?_))
      | exact ih0 _ _ _
      | exact laws_eqMessage.mono _ _ _ _ _
      | exact LeO.none _
      | refine LeO.ite ?_ ?_
      | refine LeO.bind ?_ (fun _ => ?_)
theorem laws_eqMessageS.mono : ∀ a0 a1 k, LeO (laws_eqMessageS.f k a0 a1) (laws_eqMessageS.f (k + 1) a0 a1) := by
  intro a0 a1 k
  have ih0 := laws_eqMessageS.mono_l k
  unfold laws_eqMessageS.f
  repeat' first
      | (with_reducible exact ih0 _ _ _)
      | (with_reducible exact laws_eqMessage.mono _ _ _ _ _)
      | (with_reducible exact LeO.refl _)
      | (with_reducible exact LeO.none _)
      | (with_reducible refine LeO.ite ?_ ?_)
      | (with_reducible refine LeO.bind ?_ (fun _ => ?_))
      | exact ih0 _ _ _
      | exact laws_eqMessage.mono _ _ _ _ _
      | exact LeO.none _
      | refine LeO.ite ?_ ?_
      | refine LeO.bind ?_ (fun _ => ?_)
def laws_eqMessageS.T6 : Bool × List (List Nat × List Nat) := (true, [([], []), ([], []), ([0, 1], [0, 1]), ([2], [2]), ([], []), ([], []), ([4, 5], [4, 5]), ([6], [6]), ([3, 7], [3, 7]), ([8], [8])])
def laws_eqMessageS.B6 : List Nat := [0, 0, 3, 7, 0, 0, 48, 112, 255, 511]
theorem laws_eqMessageS.tab6 : rtab .any (opsOf Try.f118 6) = laws_eqMessageS.T6 := by kernel_rfl
theorem laws_eqMessageS.bits6 : waitsOk laws_eqMessageS.T6.2 laws_eqMessageS.B6 = true := by kernel_rfl
set_option maxHeartbeats 8000000 in
set_option maxRecDepth 100000 in
theorem laws_eqMessageS.calls (k : Nat) (A0 : Option Addr) (c0 : Nat) (l0 : List (S104)) (A1 : Option Addr) (c1 : Nat) (l1 : List (S104)) (r : Bool) (w : World) (hr0 : Kd.C k104 w A0 l0.length l0) (hc0 : l0.length ≤ c0) (hr1 : Kd.C k104 w A1 l1.length l1) (hc1 : l1.length ≤ c1) (h : laws_eqMessageS.f k l0 l1 = some r) :
    Calls Try.prog 118 #[.slice A0 l0.length c0, .slice A1 l1.length c1] w fun e w' => e = .returned (.bool r) ∧ Below w.heap.size w w' := by
  have hu104 := Try.underlying104
  have HR0 := Aside0.mk hr0
  have HC0 := Aside0.mk hc0
  clear hr0 hc0
  have HR1 := Aside0.mk hr1
  have HC1 := Aside0.mk hc1
  clear hr1 hc1
  have HB := Aside0.mk (Below.refl w.heap.size w)
  have H : (if (l0.length : Int) = (l1.length : Int) then (laws_eqMessageS.l0 k l0 l1 0) else (some false)) = some r := h
  clear h
  by_cases c3 : (l0.length : Int) = (l1.length : Int)
  · rw [if_pos c3] at H
    have c3b0 : ((l0.length : Int) == (l1.length : Int)) = true := beq_iff_eq.mpr c3
    have c3b1 : ((l0.length : Int) != (l1.length : Int)) = false := bne_eq_false_iff_eq.mpr c3
    have c3b2 : (l0.length == l1.length) = true := by first | simpa using c3 | (simp at c3 ⊢; omega)
    clear c3
    have H' := Aside0.mk H
    clear H
    go_enter Try.func118, Try.ntmps118
    go_wp2
    go_loopg [5] k (fun kq v5 w' => ∃ (x5_1 : Int), v5 = .int .i64 x5_1 ∧ Aside0 (laws_eqMessageS.l0 kq l0 l1 x5_1 = some r) ∧ Aside0 (kq ≤ k) ∧ Aside0 (Below w.heap.size w w'))
    case atStart => exact ⟨(0), er_, H', ⟨Nat.le_refl _⟩, ⟨bl_⟩⟩
    case round =>
      clear H'
      try clear c1
      try clear p2
      try clear c3
      try clear c3b0
      try clear c3b1
      try clear c3b2
      obtain ⟨x5_1, rfl, HA, HK1, HB⟩ := hrel
      cases gk with
      | zero => exact absurd HA.out (by simp [laws_eqMessageS.l0])
      | succ k1 =>
        have H := HA.out
        clear HA
        simp only [laws_eqMessageS.l0] at H
        by_cases c4 : x5_1 < (l0.length : Int)
        · rw [if_pos c4] at H
          have c4b0 : decide (x5_1 < (l0.length : Int)) = true := decide_eq_true c4
          clear c4
          by_cases c5 : 0 ≤ x5_1
          · rw [if_pos c5] at H
            have c5b0 : decide (0 ≤ x5_1) = true := decide_eq_true c5
            clear c5
            by_cases c6 : x5_1 < (l1.length : Int)
            · rw [if_pos c6] at H
              have c6b0 : decide (x5_1 < (l1.length : Int)) = true := decide_eq_true c6
              clear c6
              replace H := Option.bind_eq_some_iff.mp H
              obtain ⟨t293, A70, H⟩ := H
              replace H : (if t293 = true then (laws_eqMessageS.l0 k1 l0 l1 (wrap64 (x5_1 + 1))) else (some false)) = some r := H
              have A7 := Aside0.mk A70
              clear A70
              by_cases c8 : t293 = true
              · subst c8
                have H1 : (laws_eqMessageS.l0 k1 l0 l1 (wrap64 (x5_1 + 1))) = some r := by rw [if_pos rfl] at H; exact H
                clear H
                have H := H1
                clear H1
                have H' := Aside0.mk H
                clear H
                try go_wp2
                have n0_ := Aside0.mk (below_drew1 HB.out)
                clear HB
                have HB := n0_
                clear n0_
                have p291 : 0 ≤ (x5_1 : Int) := of_decide_eq_true as_
                have q291 : x5_1 < (l0.length : Int) := of_decide_eq_true as_
                obtain ⟨ad291, A291_1, c291_1, e291, hx291_0, hx291_1, hl291_1, hi291_1⟩ := at_T104 HR0.out x5_1 p291 q291
                have hw291_1 := hx291_1
                have hw291_0 := hx291_0
                cases e291
                replace hx291_0 := (HB.out.cell (World.block_lt_of_cell? _ _ hx291_0)).trans hx291_0
                replace hx291_1 := (HB.out.cell (World.block_lt_of_cell? _ _ hx291_1)).trans hx291_1
                have HR291_1 := Aside0.mk hi291_1
                have HC291_1 := Aside0.mk hl291_1
                clear hi291_1 hl291_1
                replace p291 := eq_true p291
                replace q291 := eq_true q291
                have p292 : 0 ≤ (x5_1 : Int) := of_decide_eq_true as_
                have q292 : x5_1 < (l1.length : Int) := of_decide_eq_true as_
                obtain ⟨ad292, A292_1, c292_1, e292, hx292_0, hx292_1, hl292_1, hi292_1⟩ := at_T104 HR1.out x5_1 p292 q292
                have hw292_1 := hx292_1
                have hw292_0 := hx292_0
                cases e292
                replace hx292_0 := (HB.out.cell (World.block_lt_of_cell? _ _ hx292_0)).trans hx292_0
                replace hx292_1 := (HB.out.cell (World.block_lt_of_cell? _ _ hx292_1)).trans hx292_1
                have HR292_1 := Aside0.mk hi292_1
                have HC292_1 := Aside0.mk hl292_1
                clear hi292_1 hl292_1
                replace p292 := eq_true p292
                replace q292 := eq_true q292
                refine start_ (n := 10) (S := fun w' => w'.cell? (ad291.add ((x5_1).toNat * 2)) = some (.int .i64 ((rd_T104 l0 x5_1).f0)) ∧ w'.cell? ⟨(ad291.add ((x5_1).toNat * 2)).block, (ad291.add ((x5_1).toNat * 2)).off + 1, none⟩ = some (.slice A291_1 ((rd_T104 l0 x5_1).f1).length c291_1) ∧ w'.cell? (ad292.add ((x5_1).toNat * 2)) = some (.int .i64 ((rd_T104 l1 x5_1).f0)) ∧ w'.cell? ⟨(ad292.add ((x5_1).toNat * 2)).block, (ad292.add ((x5_1).toNat * 2)).off + 1, none⟩ = some (.slice A292_1 ((rd_T104 l1 x5_1).f1).length c292_1)) (ds := []) (bs 10 0) (by kernel_rfl) rfl rfl ⟨((HB.out.cell (World.block_lt_of_cell? _ _ hw291_0)).trans hw291_0), ((HB.out.cell (World.block_lt_of_cell? _ _ hw291_1)).trans hw291_1), ((HB.out.cell (World.block_lt_of_cell? _ _ hw292_0)).trans hw292_0), ((HB.out.cell (World.block_lt_of_cell? _ _ hw292_1)).trans hw292_1)⟩ (fun hHeld => ?_); refine with_tabW laws_eqMessageS.tab6 laws_eqMessageS.bits6 (fun HT_ HW_ => ?_)
                generalize wr.drew = w9 at HB HR291_1 HR292_1 hx291_0 hx291_1 hx292_0 hx292_1 hHeld ⊢
                refine pu_ 0 17 (bs 10 1) HT_ ?_ rfl rfl
                refine pu_ 1 18 (bs 10 3) HT_ ?_ rfl rfl
                refine pu_ 2 19 (bs 10 7) HT_ ?_ rfl rfl
                refine pu_ 4 21 (bs 10 23) HT_ ?_ rfl rfl
                refine pu_ 5 22 (bs 10 55) HT_ ?_ rfl rfl
                refine pu_ 6 23 (bs 10 119) HT_ ?_ rfl rfl
                refine tk_ 3 20 (bs 10 127) HT_ HW_ hHeld au11_1 ?_ rfl rfl
                refine tk_ 7 24 (bs 10 255) HT_ HW_ hHeld au11_1 ?_ rfl rfl
                refine one_ (i := 8) (N := some 25) (bs 10 511) rfl rfl (one_of HT_.out (by kernel_rfl)) (by decide) (fun K hK => ?_)
                refine gr_ Try.func126 #[.agg #[.int .i64 ((rd_T104 l0 x5_1).f0), .slice A291_1 ((rd_T104 l0 x5_1).f1).length c291_1], .agg #[.int .i64 ((rd_T104 l1 x5_1).f0), .slice A292_1 ((rd_T104 l1 x5_1).f1).length c292_1]] (by rfl) ?_ rfl rfl rfl
                with_reducible refine (laws_eqMessage.calls k1 ((rd_T104 l0 x5_1).f0) _ _ ((rd_T104 l0 x5_1).f1) ((rd_T104 l1 x5_1).f0) _ _ ((rd_T104 l1 x5_1).f1) true _ ?side1 ?side2 ?side3 ?side4 A7.out).mono ?_
                (case side1 => exact au11_4)
                (case side2 => exact HC291_1.out)
                (case side3 => exact au11_5)
                (case side4 => exact HC292_1.out)
                rintro e w10 ⟨rfl, hb⟩
                refine ⟨_, rfl, ?_⟩
                have n0_ := Aside0.mk (below_step bl_ hb)
                clear HB
                have HB := n0_
                clear n0_
                (try clear hb)
                (try clear hb2)
                (try clear hk)
                (try clear hi)
                refine hK.out _ _ ⟨((HB.out.cell (World.block_lt_of_cell? _ _ hw291_0)).trans hw291_0), ((HB.out.cell (World.block_lt_of_cell? _ _ hw291_1)).trans hw291_1), ((HB.out.cell (World.block_lt_of_cell? _ _ hw292_0)).trans hw292_0), ((HB.out.cell (World.block_lt_of_cell? _ _ hw292_1)).trans hw292_1)⟩ (fun hHeld => ?_)
                clear hK K
                refine norm_ (a' := ?_) ?_ ?_
                rotate_left
                · show Act.put _ (some 25) _ = _
                  simp only [Act.put, List.setIfInBounds_toArray, List.set_cons_zero, List.set_cons_succ, i64_w, i32_w]
                  rfl
                refine pu_ 9 26 (bs 10 1023) HT_ ?_ rfl rfl
                refine done_ (done_of HT_.out (by kernel_rfl)) ?_
                try go_wp2
                go_roundg k1
                case measure => have := HK1.out; omega
                case rel => exact ⟨(wrap64 (x5_1 + 1)), er_, H', ⟨by have := HK1.out; omega⟩, ⟨bl_⟩⟩
              · replace c8 := Bool.eq_false_iff.mpr c8
                subst c8
                have H1 : (some false) = some r := by rw [if_neg (show ¬ (false = true) by decide)] at H; exact H
                clear H
                have H := H1
                clear H1
                obtain rfl := Option.some.inj H
                try go_wp2
                have n0_ := Aside0.mk (below_drew1 HB.out)
                clear HB
                have HB := n0_
                clear n0_
                have p291 : 0 ≤ (x5_1 : Int) := of_decide_eq_true as_
                have q291 : x5_1 < (l0.length : Int) := of_decide_eq_true as_
                obtain ⟨ad291, A291_1, c291_1, e291, hx291_0, hx291_1, hl291_1, hi291_1⟩ := at_T104 HR0.out x5_1 p291 q291
                have hw291_1 := hx291_1
                have hw291_0 := hx291_0
                cases e291
                replace hx291_0 := (HB.out.cell (World.block_lt_of_cell? _ _ hx291_0)).trans hx291_0
                replace hx291_1 := (HB.out.cell (World.block_lt_of_cell? _ _ hx291_1)).trans hx291_1
                have HR291_1 := Aside0.mk hi291_1
                have HC291_1 := Aside0.mk hl291_1
                clear hi291_1 hl291_1
                replace p291 := eq_true p291
                replace q291 := eq_true q291
                have p292 : 0 ≤ (x5_1 : Int) := of_decide_eq_true as_
                have q292 : x5_1 < (l1.length : Int) := of_decide_eq_true as_
                obtain ⟨ad292, A292_1, c292_1, e292, hx292_0, hx292_1, hl292_1, hi292_1⟩ := at_T104 HR1.out x5_1 p292 q292
                have hw292_1 := hx292_1
                have hw292_0 := hx292_0
                cases e292
                replace hx292_0 := (HB.out.cell (World.block_lt_of_cell? _ _ hx292_0)).trans hx292_0
                replace hx292_1 := (HB.out.cell (World.block_lt_of_cell? _ _ hx292_1)).trans hx292_1
                have HR292_1 := Aside0.mk hi292_1
                have HC292_1 := Aside0.mk hl292_1
                clear hi292_1 hl292_1
                replace p292 := eq_true p292
                replace q292 := eq_true q292
                refine start_ (n := 10) (S := fun w' => w'.cell? (ad291.add ((x5_1).toNat * 2)) = some (.int .i64 ((rd_T104 l0 x5_1).f0)) ∧ w'.cell? ⟨(ad291.add ((x5_1).toNat * 2)).block, (ad291.add ((x5_1).toNat * 2)).off + 1, none⟩ = some (.slice A291_1 ((rd_T104 l0 x5_1).f1).length c291_1) ∧ w'.cell? (ad292.add ((x5_1).toNat * 2)) = some (.int .i64 ((rd_T104 l1 x5_1).f0)) ∧ w'.cell? ⟨(ad292.add ((x5_1).toNat * 2)).block, (ad292.add ((x5_1).toNat * 2)).off + 1, none⟩ = some (.slice A292_1 ((rd_T104 l1 x5_1).f1).length c292_1)) (ds := []) (bs 10 0) (by kernel_rfl) rfl rfl ⟨((HB.out.cell (World.block_lt_of_cell? _ _ hw291_0)).trans hw291_0), ((HB.out.cell (World.block_lt_of_cell? _ _ hw291_1)).trans hw291_1), ((HB.out.cell (World.block_lt_of_cell? _ _ hw292_0)).trans hw292_0), ((HB.out.cell (World.block_lt_of_cell? _ _ hw292_1)).trans hw292_1)⟩ (fun hHeld => ?_); refine with_tabW laws_eqMessageS.tab6 laws_eqMessageS.bits6 (fun HT_ HW_ => ?_)
                generalize wr.drew = w11 at HB HR291_1 HR292_1 hx291_0 hx291_1 hx292_0 hx292_1 hHeld ⊢
                refine pu_ 0 17 (bs 10 1) HT_ ?_ rfl rfl
                refine pu_ 1 18 (bs 10 3) HT_ ?_ rfl rfl
                refine pu_ 2 19 (bs 10 7) HT_ ?_ rfl rfl
                refine pu_ 4 21 (bs 10 23) HT_ ?_ rfl rfl
                refine pu_ 5 22 (bs 10 55) HT_ ?_ rfl rfl
                refine pu_ 6 23 (bs 10 119) HT_ ?_ rfl rfl
                refine tk_ 3 20 (bs 10 127) HT_ HW_ hHeld au11_1 ?_ rfl rfl
                refine tk_ 7 24 (bs 10 255) HT_ HW_ hHeld au11_1 ?_ rfl rfl
                refine one_ (i := 8) (N := some 25) (bs 10 511) rfl rfl (one_of HT_.out (by kernel_rfl)) (by decide) (fun K hK => ?_)
                refine gr_ Try.func126 #[.agg #[.int .i64 ((rd_T104 l0 x5_1).f0), .slice A291_1 ((rd_T104 l0 x5_1).f1).length c291_1], .agg #[.int .i64 ((rd_T104 l1 x5_1).f0), .slice A292_1 ((rd_T104 l1 x5_1).f1).length c292_1]] (by rfl) ?_ rfl rfl rfl
                with_reducible refine (laws_eqMessage.calls k1 ((rd_T104 l0 x5_1).f0) _ _ ((rd_T104 l0 x5_1).f1) ((rd_T104 l1 x5_1).f0) _ _ ((rd_T104 l1 x5_1).f1) false _ ?side1 ?side2 ?side3 ?side4 A7.out).mono ?_
                (case side1 => exact au11_4)
                (case side2 => exact HC291_1.out)
                (case side3 => exact au11_5)
                (case side4 => exact HC292_1.out)
                rintro e w12 ⟨rfl, hb⟩
                refine ⟨_, rfl, ?_⟩
                have n0_ := Aside0.mk (below_step bl_ hb)
                clear HB
                have HB := n0_
                clear n0_
                (try clear hb)
                (try clear hb2)
                (try clear hk)
                (try clear hi)
                refine hK.out _ _ ⟨((HB.out.cell (World.block_lt_of_cell? _ _ hw291_0)).trans hw291_0), ((HB.out.cell (World.block_lt_of_cell? _ _ hw291_1)).trans hw291_1), ((HB.out.cell (World.block_lt_of_cell? _ _ hw292_0)).trans hw292_0), ((HB.out.cell (World.block_lt_of_cell? _ _ hw292_1)).trans hw292_1)⟩ (fun hHeld => ?_)
                clear hK K
                refine norm_ (a' := ?_) ?_ ?_
                rotate_left
                · show Act.put _ (some 25) _ = _
                  simp only [Act.put, List.setIfInBounds_toArray, List.set_cons_zero, List.set_cons_succ, i64_w, i32_w]
                  rfl
                refine pu_ 9 26 (bs 10 1023) HT_ ?_ rfl rfl
                refine done_ (done_of HT_.out (by kernel_rfl)) ?_
                try go_wp2
                go_ret
                exact ⟨au11_0, bl_⟩
            · rw [if_neg c6] at H
              exact absurd H (by simp)
          · rw [if_neg c5] at H
            exact absurd H (by simp)
        · rw [if_neg c4] at H
          have c4b0 : decide (x5_1 < (l0.length : Int)) = false := decide_eq_false c4
          clear c4
          obtain rfl := Option.some.inj H
          go_wp2
          go_ret
          exact ⟨au11_0, bl_⟩
  · rw [if_neg c3] at H
    have c3b0 : ((l0.length : Int) == (l1.length : Int)) = false := beq_eq_false_iff_ne.mpr c3
    have c3b1 : ((l0.length : Int) != (l1.length : Int)) = true := bne_iff_ne.mpr c3
    have c3b2 : (l0.length == l1.length) = false := by first | simpa using c3 | (simp at c3 ⊢; omega)
    obtain rfl := Option.some.inj H
    go_enter Try.func118, Try.ntmps118
    go_wp2
    go_ret
    exact ⟨au11_0, bl_⟩

end Go.Proofs.Ytlghcbmkhdibdaa.PFnExactIxRight
