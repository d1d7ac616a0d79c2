-- printed by a program of this session (wip/xp/xprint.py) out of the translation; Lean checks it
import Derived.Test.YtjffakoifpldeaaPFnExactCrossDropx0
import Derived.Test.YtjffakoifpldeaaPFnExactCrossDropx7
namespace Go.Proofs.Ytjffakoifpldeaa.PFnExactCrossDrop
open Go.RowKit Go.Proofs.YtjffakoifpldeaaW.PrintWords Go.Proofs.YtjffakoifpldeaaW.PrintLast Go.Proofs.YtjffakoifpldeaaW.PrintMore
attribute [local go_sem] max2_int min2_int max_two min_two max_three min_three max_four min_four   -- for this text's walks alone
set_option linter.unusedVariables false
set_option linter.unusedSimpArgs false

theorem au9_0 {p : Prop} (h : p := by rintro w' ⟨s0, s1, s2⟩; go_simp; with_reducible rfl) : p := h
theorem au9_1 {p : Prop} (h : p := by first | rfl | (simp [errW_none, errW_some] <;> rfl) | (simp [*, errW_none, errW_some] <;> rfl)) : p := h

/-! ### laws_heldCrossS: function 26 -/
def laws_heldCrossS.l0 : Nat → List (S37) → Int → Int → Option (Int)
  | 0, _, _, _ => none
  | k + 1, x0, x1, x5 => if x5 < (x0.length : Int) then (if 0 ≤ x5 then ((laws_markText.f k x1).bind fun t210 => (if ((rd_T37 x0 x5).f0).toList = t210.toList then ((laws_markText.f k (wrap64 (x1 + 1))).bind fun t212 => (if ((rd_T37 x0 x5).f1).toList = t212.toList then ((laws_markText.f k (wrap64 ((wrap64 (x1 + 1)) + 1))).bind fun t214 => (if ((rd_T37 x0 x5).f2).toList = t214.toList then (laws_heldCrossS.l0 k x0 (wrap64 ((wrap64 ((wrap64 (x1 + 1)) + 1)) + 1)) (wrap64 (x5 + 1))) else (some (-1)))) else (some (-1)))) else (some (-1)))) else (none)) else (some x1)
def laws_heldCrossS.f (k : Nat) (l0 : List (S37)) (a1 : Int) : Option (Int) := laws_heldCrossS.l0 k l0 a1 0
theorem laws_heldCrossS.mono_l : ∀ k, (∀ y0 y1 y2, LeO (laws_heldCrossS.l0 k y0 y1 y2) (laws_heldCrossS.l0 (k + 1) y0 y1 y2))
  | 0 => fun _ _ _ r h => by simp [laws_heldCrossS.l0] at h
  | k + 1 => by
    have ih0 := laws_heldCrossS.mono_l k
    · intro y0 y1 y2
      unfold laws_heldCrossS.l0
      repeat' first
      | (with_reducible exact ih0 _ _ _)
      | (with_reducible exact laws_markText.mono _ _)
      | (with_reducible exact LeO.refl _)
      | (with_reducible exact LeO.none _)
      | (with_reducible refine LeO.ite ?_ ?_)
      | (with_reducible refine LeO.bind ?_ (fun _ => ?_))
      | exact ih0 _ _ _
      | exact laws_markText.mono _ _
      | exact LeO.none _
      | refine LeO.ite ?_ ?_
      | refine LeO.bind ?_ (fun _ => ?_)
theorem laws_heldCrossS.mono : ∀ a0 a1 k, LeO (laws_heldCrossS.f k a0 a1) (laws_heldCrossS.f (k + 1) a0 a1) := by
  intro a0 a1 k
  have ih0 := laws_heldCrossS.mono_l k
  unfold laws_heldCrossS.f
  repeat' first
      | (with_reducible exact ih0 _ _ _)
      | (with_reducible exact laws_markText.mono _ _)
      | (with_reducible exact LeO.refl _)
      | (with_reducible exact LeO.none _)
      | (with_reducible refine LeO.ite ?_ ?_)
      | (with_reducible refine LeO.bind ?_ (fun _ => ?_))
      | exact ih0 _ _ _
      | exact laws_markText.mono _ _
      | exact LeO.none _
      | refine LeO.ite ?_ ?_
      | refine LeO.bind ?_ (fun _ => ?_)
def laws_heldCrossS.T4 : Bool × List (List Nat × List Nat) := (true, [([], []), ([], []), ([0, 1], [0, 1]), ([2], [2]), ([3], [3]), ([], []), ([5], [5]), ([4, 6], [4, 6])])
def laws_heldCrossS.B4 : List Nat := [0, 0, 3, 7, 15, 0, 32, 127]
theorem laws_heldCrossS.tab4 : rtab .any (opsOf Try.f26 4) = laws_heldCrossS.T4 := by kernel_rfl
theorem laws_heldCrossS.bits4 : waitsOk laws_heldCrossS.T4.2 laws_heldCrossS.B4 = true := by kernel_rfl
def laws_heldCrossS.T7 : Bool × List (List Nat × List Nat) := (true, [([], []), ([], []), ([0, 1], [0, 1]), ([2], [2]), ([3], [3]), ([], []), ([5], [5]), ([4, 6], [4, 6])])
def laws_heldCrossS.B7 : List Nat := [0, 0, 3, 7, 15, 0, 32, 127]
theorem laws_heldCrossS.tab7 : rtab .any (opsOf Try.f26 7) = laws_heldCrossS.T7 := by kernel_rfl
theorem laws_heldCrossS.bits7 : waitsOk laws_heldCrossS.T7.2 laws_heldCrossS.B7 = true := by kernel_rfl
def laws_heldCrossS.T10 : Bool × List (List Nat × List Nat) := (true, [([], []), ([], []), ([0, 1], [0, 1]), ([2], [2]), ([3], [3]), ([], []), ([5], [5]), ([4, 6], [4, 6])])
def laws_heldCrossS.B10 : List Nat := [0, 0, 3, 7, 15, 0, 32, 127]
theorem laws_heldCrossS.tab10 : rtab .any (opsOf Try.f26 10) = laws_heldCrossS.T10 := by kernel_rfl
theorem laws_heldCrossS.bits10 : waitsOk laws_heldCrossS.T10.2 laws_heldCrossS.B10 = true := by kernel_rfl
set_option maxHeartbeats 8000000 in
set_option maxRecDepth 100000 in
theorem laws_heldCrossS.calls (k : Nat) (A0 : Option Addr) (c0 : Nat) (l0 : List (S37)) (a1 : Int) (r : Int) (w : World) (hr0 : Kd.C k37 w A0 l0.length l0) (hc0 : l0.length ≤ c0) (h : laws_heldCrossS.f k l0 a1 = some r) :
    Calls Try.prog 26 #[.slice A0 l0.length c0, .int .i64 a1] w fun e w' => e = .returned (.int .i64 r) ∧ Below w.heap.size w w' := by
  have HR0 := Aside0.mk hr0
  have HC0 := Aside0.mk hc0
  clear hr0 hc0
  have HB := Aside0.mk (Below.refl w.heap.size w)
  have H : (laws_heldCrossS.l0 k l0 a1 0) = some r := h
  clear h
  have H' := Aside0.mk H
  clear H
  go_enter Try.func26, Try.ntmps26
  go_wp2
  go_loopg [1, 5] k (fun kq v1 v5 w' => ∃ (x1_1 : Int) (x5_1 : Int), v1 = .int .i64 x1_1 ∧ v5 = .int .i64 x5_1 ∧ Aside0 (laws_heldCrossS.l0 kq l0 x1_1 x5_1 = some r) ∧ Aside0 (kq ≤ k) ∧ Aside0 (Below w.heap.size w w'))
  case atStart => exact ⟨(a1), (0), er_, er_, H', ⟨Nat.le_refl _⟩, ⟨bl_⟩⟩
  case round =>
    clear H'
    try clear c2
    try clear p2
    obtain ⟨x1_1, x5_1, rfl, rfl, HA, HK1, HB⟩ := hrel
    cases gk with
    | zero => exact absurd HA.out (by simp [laws_heldCrossS.l0])
    | succ k1 =>
      have H := HA.out
      clear HA
      simp only [laws_heldCrossS.l0] at H
      by_cases c3 : x5_1 < (l0.length : Int)
      · rw [if_pos c3] at H
        have c3b0 : decide (x5_1 < (l0.length : Int)) = true := decide_eq_true c3
        clear c3
        by_cases c4 : 0 ≤ x5_1
        · rw [if_pos c4] at H
          have c4b0 : decide (0 ≤ x5_1) = true := decide_eq_true c4
          clear c4
          replace H := Option.bind_eq_some_iff.mp H
          obtain ⟨t210, A50, H⟩ := H
          replace H : (if ((rd_T37 l0 x5_1).f0).toList = t210.toList then ((laws_markText.f k1 (wrap64 (x1_1 + 1))).bind fun t212 => (if ((rd_T37 l0 x5_1).f1).toList = t212.toList then ((laws_markText.f k1 (wrap64 ((wrap64 (x1_1 + 1)) + 1))).bind fun t214 => (if ((rd_T37 l0 x5_1).f2).toList = t214.toList then (laws_heldCrossS.l0 k1 l0 (wrap64 ((wrap64 ((wrap64 (x1_1 + 1)) + 1)) + 1)) (wrap64 (x5_1 + 1))) else (some (-1)))) else (some (-1)))) else (some (-1))) = some r := H
          have A5 := Aside0.mk A50
          clear A50
          by_cases c6 : ((rd_T37 l0 x5_1).f0).toList = t210.toList
          · rw [if_pos c6] at H
            have c6b0 : (((rd_T37 l0 x5_1).f0).toList == t210.toList) = true := beq_iff_eq.mpr c6
            have c6b1 : (((rd_T37 l0 x5_1).f0).toList != t210.toList) = false := bne_eq_false_iff_eq.mpr c6
            clear c6
            replace H := Option.bind_eq_some_iff.mp H
            obtain ⟨t212, A70, H⟩ := H
            replace H : (if ((rd_T37 l0 x5_1).f1).toList = t212.toList then ((laws_markText.f k1 (wrap64 ((wrap64 (x1_1 + 1)) + 1))).bind fun t214 => (if ((rd_T37 l0 x5_1).f2).toList = t214.toList then (laws_heldCrossS.l0 k1 l0 (wrap64 ((wrap64 ((wrap64 (x1_1 + 1)) + 1)) + 1)) (wrap64 (x5_1 + 1))) else (some (-1)))) else (some (-1))) = some r := H
            have A7 := Aside0.mk A70
            clear A70
            by_cases c8 : ((rd_T37 l0 x5_1).f1).toList = t212.toList
            · rw [if_pos c8] at H
              have c8b0 : (((rd_T37 l0 x5_1).f1).toList == t212.toList) = true := beq_iff_eq.mpr c8
              have c8b1 : (((rd_T37 l0 x5_1).f1).toList != t212.toList) = false := bne_eq_false_iff_eq.mpr c8
              clear c8
              replace H := Option.bind_eq_some_iff.mp H
              obtain ⟨t214, A90, H⟩ := H
              replace H : (if ((rd_T37 l0 x5_1).f2).toList = t214.toList then (laws_heldCrossS.l0 k1 l0 (wrap64 ((wrap64 ((wrap64 (x1_1 + 1)) + 1)) + 1)) (wrap64 (x5_1 + 1))) else (some (-1))) = some r := H
              have A9 := Aside0.mk A90
              clear A90
              by_cases c10 : ((rd_T37 l0 x5_1).f2).toList = t214.toList
              · rw [if_pos c10] at H
                have c10b0 : (((rd_T37 l0 x5_1).f2).toList == t214.toList) = true := beq_iff_eq.mpr c10
                have c10b1 : (((rd_T37 l0 x5_1).f2).toList != t214.toList) = false := bne_eq_false_iff_eq.mpr c10
                clear c10
                have H' := Aside0.mk H
                clear H
                try go_wp2
                have n0_ := Aside0.mk (below_drew1 HB.out)
                clear HB
                have HB := n0_
                clear n0_
                have p209 : 0 ≤ (x5_1 : Int) := of_decide_eq_true as_
                have q209 : x5_1 < (l0.length : Int) := of_decide_eq_true as_
                obtain ⟨ad209, e209, hx209_0, hx209_1, hx209_2⟩ := at_T37 HR0.out x5_1 p209 q209
                have hw209_2 := hx209_2
                have hw209_1 := hx209_1
                have hw209_0 := hx209_0
                cases e209
                replace hx209_0 := (HB.out.cell (World.block_lt_of_cell? _ _ hx209_0)).trans hx209_0
                replace hx209_1 := (HB.out.cell (World.block_lt_of_cell? _ _ hx209_1)).trans hx209_1
                replace hx209_2 := (HB.out.cell (World.block_lt_of_cell? _ _ hx209_2)).trans hx209_2
                replace p209 := eq_true p209
                replace q209 := eq_true q209
                refine start_ (n := 8) (S := fun w' => w'.cell? (ad209.add ((x5_1).toNat * 3)) = some (.string ((rd_T37 l0 x5_1).f0)) ∧ w'.cell? ⟨(ad209.add ((x5_1).toNat * 3)).block, (ad209.add ((x5_1).toNat * 3)).off + 1, none⟩ = some (.string ((rd_T37 l0 x5_1).f1)) ∧ w'.cell? ⟨(ad209.add ((x5_1).toNat * 3)).block, (ad209.add ((x5_1).toNat * 3)).off + 2, none⟩ = some (.string ((rd_T37 l0 x5_1).f2))) (ds := []) (bs 8 0) (by kernel_rfl) rfl rfl ⟨((HB.out.cell (World.block_lt_of_cell? _ _ hw209_0)).trans hw209_0), ((HB.out.cell (World.block_lt_of_cell? _ _ hw209_1)).trans hw209_1), ((HB.out.cell (World.block_lt_of_cell? _ _ hw209_2)).trans hw209_2)⟩ (fun hHeld => ?_); refine with_tabW laws_heldCrossS.tab4 laws_heldCrossS.bits4 (fun HT_ HW_ => ?_)
                generalize wr.drew = w11 at HB hx209_0 hx209_1 hx209_2 hHeld ⊢
                refine pu_ 0 12 (bs 8 1) HT_ ?_ rfl rfl
                refine pu_ 1 13 (bs 8 3) HT_ ?_ rfl rfl
                refine pu_ 2 14 (bs 8 7) HT_ ?_ rfl rfl
                refine pu_ 3 15 (bs 8 15) HT_ ?_ rfl rfl
                refine pu_ 5 17 (bs 8 47) HT_ ?_ rfl rfl
                refine tk_ 4 16 (bs 8 63) HT_ HW_ hHeld au9_0 ?_ rfl rfl
                refine one_ (i := 6) (N := some 18) (bs 8 127) rfl rfl (one_of HT_.out (by kernel_rfl)) (by decide) (fun K hK => ?_)
                refine gr_ Try.func68 #[.int .i64 x1_1] (by rfl) ?_ rfl rfl rfl
                with_reducible refine (laws_markText.calls k1 x1_1 t210 _ A5.out).mono ?_
                rintro e w12 ⟨rfl, hb⟩
                refine ⟨_, rfl, ?_⟩
                have n0_ := Aside0.mk (below_step bl_ hb)
                clear HB
                have HB := n0_
                clear n0_
                (try clear hb)
                (try clear hb2)
                (try clear hk)
                (try clear hi)
                refine hK.out _ _ ⟨((HB.out.cell (World.block_lt_of_cell? _ _ hw209_0)).trans hw209_0), ((HB.out.cell (World.block_lt_of_cell? _ _ hw209_1)).trans hw209_1), ((HB.out.cell (World.block_lt_of_cell? _ _ hw209_2)).trans hw209_2)⟩ (fun hHeld => ?_)
                clear hK K
                refine norm_ (a' := ?_) ?_ ?_
                rotate_left
                · show Act.put _ (some 18) _ = _
                  simp only [Act.put, List.setIfInBounds_toArray, List.set_cons_zero, List.set_cons_succ, i64_w, i32_w]
                  rfl
                refine pu_ 7 19 (bs 8 255) HT_ ?_ rfl rfl
                refine done_ (done_of HT_.out (by kernel_rfl)) ?_
                try go_wp2
                have n0_ := Aside0.mk (below_drew1 HB.out)
                clear HB
                have HB := n0_
                clear n0_
                have p211 : 0 ≤ (x5_1 : Int) := of_decide_eq_true as_
                have q211 : x5_1 < (l0.length : Int) := of_decide_eq_true as_
                obtain ⟨ad211, e211, hx211_0, hx211_1, hx211_2⟩ := at_T37 HR0.out x5_1 p211 q211
                have hw211_2 := hx211_2
                have hw211_1 := hx211_1
                have hw211_0 := hx211_0
                obtain rfl : ad209 = ad211 := (by injection e211)
                replace hx211_0 := (HB.out.cell (World.block_lt_of_cell? _ _ hx211_0)).trans hx211_0
                replace hx211_1 := (HB.out.cell (World.block_lt_of_cell? _ _ hx211_1)).trans hx211_1
                replace hx211_2 := (HB.out.cell (World.block_lt_of_cell? _ _ hx211_2)).trans hx211_2
                replace p211 := eq_true p211
                replace q211 := eq_true q211
                refine start_ (n := 8) (S := fun w' => w'.cell? (ad209.add ((x5_1).toNat * 3)) = some (.string ((rd_T37 l0 x5_1).f0)) ∧ w'.cell? ⟨(ad209.add ((x5_1).toNat * 3)).block, (ad209.add ((x5_1).toNat * 3)).off + 1, none⟩ = some (.string ((rd_T37 l0 x5_1).f1)) ∧ w'.cell? ⟨(ad209.add ((x5_1).toNat * 3)).block, (ad209.add ((x5_1).toNat * 3)).off + 2, none⟩ = some (.string ((rd_T37 l0 x5_1).f2))) (ds := []) (bs 8 0) (by kernel_rfl) rfl rfl ⟨((HB.out.cell (World.block_lt_of_cell? _ _ hw211_0)).trans hw211_0), ((HB.out.cell (World.block_lt_of_cell? _ _ hw211_1)).trans hw211_1), ((HB.out.cell (World.block_lt_of_cell? _ _ hw211_2)).trans hw211_2)⟩ (fun hHeld => ?_); refine with_tabW laws_heldCrossS.tab7 laws_heldCrossS.bits7 (fun HT_ HW_ => ?_)
                generalize w12.drew = w13 at HB hx211_0 hx211_1 hx211_2 hHeld ⊢
                refine pu_ 0 22 (bs 8 1) HT_ ?_ rfl rfl
                refine pu_ 1 23 (bs 8 3) HT_ ?_ rfl rfl
                refine pu_ 2 24 (bs 8 7) HT_ ?_ rfl rfl
                refine pu_ 3 25 (bs 8 15) HT_ ?_ rfl rfl
                refine pu_ 5 27 (bs 8 47) HT_ ?_ rfl rfl
                refine tk_ 4 26 (bs 8 63) HT_ HW_ hHeld au9_0 ?_ rfl rfl
                refine one_ (i := 6) (N := some 28) (bs 8 127) rfl rfl (one_of HT_.out (by kernel_rfl)) (by decide) (fun K hK => ?_)
                refine gr_ Try.func68 #[.int .i64 (wrap64 (x1_1 + 1))] (by rfl) ?_ rfl rfl rfl
                with_reducible refine (laws_markText.calls k1 (wrap64 (x1_1 + 1)) t212 _ A7.out).mono ?_
                rintro e w14 ⟨rfl, hb⟩
                refine ⟨_, rfl, ?_⟩
                have n0_ := Aside0.mk (below_step bl_ hb)
                clear HB
                have HB := n0_
                clear n0_
                (try clear hb)
                (try clear hb2)
                (try clear hk)
                (try clear hi)
                refine hK.out _ _ ⟨((HB.out.cell (World.block_lt_of_cell? _ _ hw211_0)).trans hw211_0), ((HB.out.cell (World.block_lt_of_cell? _ _ hw211_1)).trans hw211_1), ((HB.out.cell (World.block_lt_of_cell? _ _ hw211_2)).trans hw211_2)⟩ (fun hHeld => ?_)
                clear hK K
                refine norm_ (a' := ?_) ?_ ?_
                rotate_left
                · show Act.put _ (some 28) _ = _
                  simp only [Act.put, List.setIfInBounds_toArray, List.set_cons_zero, List.set_cons_succ, i64_w, i32_w]
                  rfl
                refine pu_ 7 29 (bs 8 255) HT_ ?_ rfl rfl
                refine done_ (done_of HT_.out (by kernel_rfl)) ?_
                try go_wp2
                have n0_ := Aside0.mk (below_drew1 HB.out)
                clear HB
                have HB := n0_
                clear n0_
                have p213 : 0 ≤ (x5_1 : Int) := of_decide_eq_true as_
                have q213 : x5_1 < (l0.length : Int) := of_decide_eq_true as_
                obtain ⟨ad213, e213, hx213_0, hx213_1, hx213_2⟩ := at_T37 HR0.out x5_1 p213 q213
                have hw213_2 := hx213_2
                have hw213_1 := hx213_1
                have hw213_0 := hx213_0
                obtain rfl : ad209 = ad213 := (by injection e213)
                replace hx213_0 := (HB.out.cell (World.block_lt_of_cell? _ _ hx213_0)).trans hx213_0
                replace hx213_1 := (HB.out.cell (World.block_lt_of_cell? _ _ hx213_1)).trans hx213_1
                replace hx213_2 := (HB.out.cell (World.block_lt_of_cell? _ _ hx213_2)).trans hx213_2
                replace p213 := eq_true p213
                replace q213 := eq_true q213
                refine start_ (n := 8) (S := fun w' => w'.cell? (ad209.add ((x5_1).toNat * 3)) = some (.string ((rd_T37 l0 x5_1).f0)) ∧ w'.cell? ⟨(ad209.add ((x5_1).toNat * 3)).block, (ad209.add ((x5_1).toNat * 3)).off + 1, none⟩ = some (.string ((rd_T37 l0 x5_1).f1)) ∧ w'.cell? ⟨(ad209.add ((x5_1).toNat * 3)).block, (ad209.add ((x5_1).toNat * 3)).off + 2, none⟩ = some (.string ((rd_T37 l0 x5_1).f2))) (ds := []) (bs 8 0) (by kernel_rfl) rfl rfl ⟨((HB.out.cell (World.block_lt_of_cell? _ _ hw213_0)).trans hw213_0), ((HB.out.cell (World.block_lt_of_cell? _ _ hw213_1)).trans hw213_1), ((HB.out.cell (World.block_lt_of_cell? _ _ hw213_2)).trans hw213_2)⟩ (fun hHeld => ?_); refine with_tabW laws_heldCrossS.tab10 laws_heldCrossS.bits10 (fun HT_ HW_ => ?_)
                generalize w14.drew = w15 at HB hx213_0 hx213_1 hx213_2 hHeld ⊢
                refine pu_ 0 32 (bs 8 1) HT_ ?_ rfl rfl
                refine pu_ 1 33 (bs 8 3) HT_ ?_ rfl rfl
                refine pu_ 2 34 (bs 8 7) HT_ ?_ rfl rfl
                refine pu_ 3 35 (bs 8 15) HT_ ?_ rfl rfl
                refine pu_ 5 37 (bs 8 47) HT_ ?_ rfl rfl
                refine tk_ 4 36 (bs 8 63) HT_ HW_ hHeld au9_0 ?_ rfl rfl
                refine one_ (i := 6) (N := some 38) (bs 8 127) rfl rfl (one_of HT_.out (by kernel_rfl)) (by decide) (fun K hK => ?_)
                refine gr_ Try.func68 #[.int .i64 (wrap64 ((wrap64 (x1_1 + 1)) + 1))] (by rfl) ?_ rfl rfl rfl
                with_reducible refine (laws_markText.calls k1 (wrap64 ((wrap64 (x1_1 + 1)) + 1)) t214 _ A9.out).mono ?_
                rintro e w16 ⟨rfl, hb⟩
                refine ⟨_, rfl, ?_⟩
                have n0_ := Aside0.mk (below_step bl_ hb)
                clear HB
                have HB := n0_
                clear n0_
                (try clear hb)
                (try clear hb2)
                (try clear hk)
                (try clear hi)
                refine hK.out _ _ ⟨((HB.out.cell (World.block_lt_of_cell? _ _ hw213_0)).trans hw213_0), ((HB.out.cell (World.block_lt_of_cell? _ _ hw213_1)).trans hw213_1), ((HB.out.cell (World.block_lt_of_cell? _ _ hw213_2)).trans hw213_2)⟩ (fun hHeld => ?_)
                clear hK K
                refine norm_ (a' := ?_) ?_ ?_
                rotate_left
                · show Act.put _ (some 38) _ = _
                  simp only [Act.put, List.setIfInBounds_toArray, List.set_cons_zero, List.set_cons_succ, i64_w, i32_w]
                  rfl
                refine pu_ 7 39 (bs 8 255) HT_ ?_ rfl rfl
                refine done_ (done_of HT_.out (by kernel_rfl)) ?_
                try go_wp2
                go_roundg k1
                case measure => have := HK1.out; omega
                case rel => exact ⟨(wrap64 ((wrap64 ((wrap64 (x1_1 + 1)) + 1)) + 1)), (wrap64 (x5_1 + 1)), er_, er_, H', ⟨by have := HK1.out; omega⟩, ⟨bl_⟩⟩
              · rw [if_neg c10] at H
                have c10b0 : (((rd_T37 l0 x5_1).f2).toList == t214.toList) = false := beq_eq_false_iff_ne.mpr c10
                have c10b1 : (((rd_T37 l0 x5_1).f2).toList != t214.toList) = true := bne_iff_ne.mpr c10
                obtain rfl := Option.some.inj H
                try go_wp2
                have n0_ := Aside0.mk (below_drew1 HB.out)
                clear HB
                have HB := n0_
                clear n0_
                have p209 : 0 ≤ (x5_1 : Int) := of_decide_eq_true as_
                have q209 : x5_1 < (l0.length : Int) := of_decide_eq_true as_
                obtain ⟨ad209, e209, hx209_0, hx209_1, hx209_2⟩ := at_T37 HR0.out x5_1 p209 q209
                have hw209_2 := hx209_2
                have hw209_1 := hx209_1
                have hw209_0 := hx209_0
                cases e209
                replace hx209_0 := (HB.out.cell (World.block_lt_of_cell? _ _ hx209_0)).trans hx209_0
                replace hx209_1 := (HB.out.cell (World.block_lt_of_cell? _ _ hx209_1)).trans hx209_1
                replace hx209_2 := (HB.out.cell (World.block_lt_of_cell? _ _ hx209_2)).trans hx209_2
                replace p209 := eq_true p209
                replace q209 := eq_true q209
                refine start_ (n := 8) (S := fun w' => w'.cell? (ad209.add ((x5_1).toNat * 3)) = some (.string ((rd_T37 l0 x5_1).f0)) ∧ w'.cell? ⟨(ad209.add ((x5_1).toNat * 3)).block, (ad209.add ((x5_1).toNat * 3)).off + 1, none⟩ = some (.string ((rd_T37 l0 x5_1).f1)) ∧ w'.cell? ⟨(ad209.add ((x5_1).toNat * 3)).block, (ad209.add ((x5_1).toNat * 3)).off + 2, none⟩ = some (.string ((rd_T37 l0 x5_1).f2))) (ds := []) (bs 8 0) (by kernel_rfl) rfl rfl ⟨((HB.out.cell (World.block_lt_of_cell? _ _ hw209_0)).trans hw209_0), ((HB.out.cell (World.block_lt_of_cell? _ _ hw209_1)).trans hw209_1), ((HB.out.cell (World.block_lt_of_cell? _ _ hw209_2)).trans hw209_2)⟩ (fun hHeld => ?_); refine with_tabW laws_heldCrossS.tab4 laws_heldCrossS.bits4 (fun HT_ HW_ => ?_)
                generalize wr.drew = w17 at HB hx209_0 hx209_1 hx209_2 hHeld ⊢
                refine pu_ 0 12 (bs 8 1) HT_ ?_ rfl rfl
                refine pu_ 1 13 (bs 8 3) HT_ ?_ rfl rfl
                refine pu_ 2 14 (bs 8 7) HT_ ?_ rfl rfl
                refine pu_ 3 15 (bs 8 15) HT_ ?_ rfl rfl
                refine pu_ 5 17 (bs 8 47) HT_ ?_ rfl rfl
                refine tk_ 4 16 (bs 8 63) HT_ HW_ hHeld au9_0 ?_ rfl rfl
                refine one_ (i := 6) (N := some 18) (bs 8 127) rfl rfl (one_of HT_.out (by kernel_rfl)) (by decide) (fun K hK => ?_)
                refine gr_ Try.func68 #[.int .i64 x1_1] (by rfl) ?_ rfl rfl rfl
                with_reducible refine (laws_markText.calls k1 x1_1 t210 _ A5.out).mono ?_
                rintro e w18 ⟨rfl, hb⟩
                refine ⟨_, rfl, ?_⟩
                have n0_ := Aside0.mk (below_step bl_ hb)
                clear HB
                have HB := n0_
                clear n0_
                (try clear hb)
                (try clear hb2)
                (try clear hk)
                (try clear hi)
                refine hK.out _ _ ⟨((HB.out.cell (World.block_lt_of_cell? _ _ hw209_0)).trans hw209_0), ((HB.out.cell (World.block_lt_of_cell? _ _ hw209_1)).trans hw209_1), ((HB.out.cell (World.block_lt_of_cell? _ _ hw209_2)).trans hw209_2)⟩ (fun hHeld => ?_)
                clear hK K
                refine norm_ (a' := ?_) ?_ ?_
                rotate_left
                · show Act.put _ (some 18) _ = _
                  simp only [Act.put, List.setIfInBounds_toArray, List.set_cons_zero, List.set_cons_succ, i64_w, i32_w]
                  rfl
                refine pu_ 7 19 (bs 8 255) HT_ ?_ rfl rfl
                refine done_ (done_of HT_.out (by kernel_rfl)) ?_
                try go_wp2
                have n0_ := Aside0.mk (below_drew1 HB.out)
                clear HB
                have HB := n0_
                clear n0_
                have p211 : 0 ≤ (x5_1 : Int) := of_decide_eq_true as_
                have q211 : x5_1 < (l0.length : Int) := of_decide_eq_true as_
                obtain ⟨ad211, e211, hx211_0, hx211_1, hx211_2⟩ := at_T37 HR0.out x5_1 p211 q211
                have hw211_2 := hx211_2
                have hw211_1 := hx211_1
                have hw211_0 := hx211_0
                obtain rfl : ad209 = ad211 := (by injection e211)
                replace hx211_0 := (HB.out.cell (World.block_lt_of_cell? _ _ hx211_0)).trans hx211_0
                replace hx211_1 := (HB.out.cell (World.block_lt_of_cell? _ _ hx211_1)).trans hx211_1
                replace hx211_2 := (HB.out.cell (World.block_lt_of_cell? _ _ hx211_2)).trans hx211_2
                replace p211 := eq_true p211
                replace q211 := eq_true q211
                refine start_ (n := 8) (S := fun w' => w'.cell? (ad209.add ((x5_1).toNat * 3)) = some (.string ((rd_T37 l0 x5_1).f0)) ∧ w'.cell? ⟨(ad209.add ((x5_1).toNat * 3)).block, (ad209.add ((x5_1).toNat * 3)).off + 1, none⟩ = some (.string ((rd_T37 l0 x5_1).f1)) ∧ w'.cell? ⟨(ad209.add ((x5_1).toNat * 3)).block, (ad209.add ((x5_1).toNat * 3)).off + 2, none⟩ = some (.string ((rd_T37 l0 x5_1).f2))) (ds := []) (bs 8 0) (by kernel_rfl) rfl rfl ⟨((HB.out.cell (World.block_lt_of_cell? _ _ hw211_0)).trans hw211_0), ((HB.out.cell (World.block_lt_of_cell? _ _ hw211_1)).trans hw211_1), ((HB.out.cell (World.block_lt_of_cell? _ _ hw211_2)).trans hw211_2)⟩ (fun hHeld => ?_); refine with_tabW laws_heldCrossS.tab7 laws_heldCrossS.bits7 (fun HT_ HW_ => ?_)
                generalize w18.drew = w19 at HB hx211_0 hx211_1 hx211_2 hHeld ⊢
                refine pu_ 0 22 (bs 8 1) HT_ ?_ rfl rfl
                refine pu_ 1 23 (bs 8 3) HT_ ?_ rfl rfl
                refine pu_ 2 24 (bs 8 7) HT_ ?_ rfl rfl
                refine pu_ 3 25 (bs 8 15) HT_ ?_ rfl rfl
                refine pu_ 5 27 (bs 8 47) HT_ ?_ rfl rfl
                refine tk_ 4 26 (bs 8 63) HT_ HW_ hHeld au9_0 ?_ rfl rfl
                refine one_ (i := 6) (N := some 28) (bs 8 127) rfl rfl (one_of HT_.out (by kernel_rfl)) (by decide) (fun K hK => ?_)
                refine gr_ Try.func68 #[.int .i64 (wrap64 (x1_1 + 1))] (by rfl) ?_ rfl rfl rfl
                with_reducible refine (laws_markText.calls k1 (wrap64 (x1_1 + 1)) t212 _ A7.out).mono ?_
                rintro e w20 ⟨rfl, hb⟩
                refine ⟨_, rfl, ?_⟩
                have n0_ := Aside0.mk (below_step bl_ hb)
                clear HB
                have HB := n0_
                clear n0_
                (try clear hb)
                (try clear hb2)
                (try clear hk)
                (try clear hi)
                refine hK.out _ _ ⟨((HB.out.cell (World.block_lt_of_cell? _ _ hw211_0)).trans hw211_0), ((HB.out.cell (World.block_lt_of_cell? _ _ hw211_1)).trans hw211_1), ((HB.out.cell (World.block_lt_of_cell? _ _ hw211_2)).trans hw211_2)⟩ (fun hHeld => ?_)
                clear hK K
                refine norm_ (a' := ?_) ?_ ?_
                rotate_left
                · show Act.put _ (some 28) _ = _
                  simp only [Act.put, List.setIfInBounds_toArray, List.set_cons_zero, List.set_cons_succ, i64_w, i32_w]
                  rfl
                refine pu_ 7 29 (bs 8 255) HT_ ?_ rfl rfl
                refine done_ (done_of HT_.out (by kernel_rfl)) ?_
                try go_wp2
                have n0_ := Aside0.mk (below_drew1 HB.out)
                clear HB
                have HB := n0_
                clear n0_
                have p213 : 0 ≤ (x5_1 : Int) := of_decide_eq_true as_
                have q213 : x5_1 < (l0.length : Int) := of_decide_eq_true as_
                obtain ⟨ad213, e213, hx213_0, hx213_1, hx213_2⟩ := at_T37 HR0.out x5_1 p213 q213
                have hw213_2 := hx213_2
                have hw213_1 := hx213_1
                have hw213_0 := hx213_0
                obtain rfl : ad209 = ad213 := (by injection e213)
                replace hx213_0 := (HB.out.cell (World.block_lt_of_cell? _ _ hx213_0)).trans hx213_0
                replace hx213_1 := (HB.out.cell (World.block_lt_of_cell? _ _ hx213_1)).trans hx213_1
                replace hx213_2 := (HB.out.cell (World.block_lt_of_cell? _ _ hx213_2)).trans hx213_2
                replace p213 := eq_true p213
                replace q213 := eq_true q213
                refine start_ (n := 8) (S := fun w' => w'.cell? (ad209.add ((x5_1).toNat * 3)) = some (.string ((rd_T37 l0 x5_1).f0)) ∧ w'.cell? ⟨(ad209.add ((x5_1).toNat * 3)).block, (ad209.add ((x5_1).toNat * 3)).off + 1, none⟩ = some (.string ((rd_T37 l0 x5_1).f1)) ∧ w'.cell? ⟨(ad209.add ((x5_1).toNat * 3)).block, (ad209.add ((x5_1).toNat * 3)).off + 2, none⟩ = some (.string ((rd_T37 l0 x5_1).f2))) (ds := []) (bs 8 0) (by kernel_rfl) rfl rfl ⟨((HB.out.cell (World.block_lt_of_cell? _ _ hw213_0)).trans hw213_0), ((HB.out.cell (World.block_lt_of_cell? _ _ hw213_1)).trans hw213_1), ((HB.out.cell (World.block_lt_of_cell? _ _ hw213_2)).trans hw213_2)⟩ (fun hHeld => ?_); refine with_tabW laws_heldCrossS.tab10 laws_heldCrossS.bits10 (fun HT_ HW_ => ?_)
                generalize w20.drew = w21 at HB hx213_0 hx213_1 hx213_2 hHeld ⊢
                refine pu_ 0 32 (bs 8 1) HT_ ?_ rfl rfl
                refine pu_ 1 33 (bs 8 3) HT_ ?_ rfl rfl
                refine pu_ 2 34 (bs 8 7) HT_ ?_ rfl rfl
                refine pu_ 3 35 (bs 8 15) HT_ ?_ rfl rfl
                refine pu_ 5 37 (bs 8 47) HT_ ?_ rfl rfl
                refine tk_ 4 36 (bs 8 63) HT_ HW_ hHeld au9_0 ?_ rfl rfl
                refine one_ (i := 6) (N := some 38) (bs 8 127) rfl rfl (one_of HT_.out (by kernel_rfl)) (by decide) (fun K hK => ?_)
                refine gr_ Try.func68 #[.int .i64 (wrap64 ((wrap64 (x1_1 + 1)) + 1))] (by rfl) ?_ rfl rfl rfl
                with_reducible refine (laws_markText.calls k1 (wrap64 ((wrap64 (x1_1 + 1)) + 1)) t214 _ A9.out).mono ?_
                rintro e w22 ⟨rfl, hb⟩
                refine ⟨_, rfl, ?_⟩
                have n0_ := Aside0.mk (below_step bl_ hb)
                clear HB
                have HB := n0_
                clear n0_
                (try clear hb)
                (try clear hb2)
                (try clear hk)
                (try clear hi)
                refine hK.out _ _ ⟨((HB.out.cell (World.block_lt_of_cell? _ _ hw213_0)).trans hw213_0), ((HB.out.cell (World.block_lt_of_cell? _ _ hw213_1)).trans hw213_1), ((HB.out.cell (World.block_lt_of_cell? _ _ hw213_2)).trans hw213_2)⟩ (fun hHeld => ?_)
                clear hK K
                refine norm_ (a' := ?_) ?_ ?_
                rotate_left
                · show Act.put _ (some 38) _ = _
                  simp only [Act.put, List.setIfInBounds_toArray, List.set_cons_zero, List.set_cons_succ, i64_w, i32_w]
                  rfl
                refine pu_ 7 39 (bs 8 255) HT_ ?_ rfl rfl
                refine done_ (done_of HT_.out (by kernel_rfl)) ?_
                try go_wp2
                go_ret
                exact ⟨au9_1, bl_⟩
            · rw [if_neg c8] at H
              have c8b0 : (((rd_T37 l0 x5_1).f1).toList == t212.toList) = false := beq_eq_false_iff_ne.mpr c8
              have c8b1 : (((rd_T37 l0 x5_1).f1).toList != t212.toList) = true := bne_iff_ne.mpr c8
              obtain rfl := Option.some.inj H
              try go_wp2
              have n0_ := Aside0.mk (below_drew1 HB.out)
              clear HB
              have HB := n0_
              clear n0_
              have p209 : 0 ≤ (x5_1 : Int) := of_decide_eq_true as_
              have q209 : x5_1 < (l0.length : Int) := of_decide_eq_true as_
              obtain ⟨ad209, e209, hx209_0, hx209_1, hx209_2⟩ := at_T37 HR0.out x5_1 p209 q209
              have hw209_2 := hx209_2
              have hw209_1 := hx209_1
              have hw209_0 := hx209_0
              cases e209
              replace hx209_0 := (HB.out.cell (World.block_lt_of_cell? _ _ hx209_0)).trans hx209_0
              replace hx209_1 := (HB.out.cell (World.block_lt_of_cell? _ _ hx209_1)).trans hx209_1
              replace hx209_2 := (HB.out.cell (World.block_lt_of_cell? _ _ hx209_2)).trans hx209_2
              replace p209 := eq_true p209
              replace q209 := eq_true q209
              refine start_ (n := 8) (S := fun w' => w'.cell? (ad209.add ((x5_1).toNat * 3)) = some (.string ((rd_T37 l0 x5_1).f0)) ∧ w'.cell? ⟨(ad209.add ((x5_1).toNat * 3)).block, (ad209.add ((x5_1).toNat * 3)).off + 1, none⟩ = some (.string ((rd_T37 l0 x5_1).f1)) ∧ w'.cell? ⟨(ad209.add ((x5_1).toNat * 3)).block, (ad209.add ((x5_1).toNat * 3)).off + 2, none⟩ = some (.string ((rd_T37 l0 x5_1).f2))) (ds := []) (bs 8 0) (by kernel_rfl) rfl rfl ⟨((HB.out.cell (World.block_lt_of_cell? _ _ hw209_0)).trans hw209_0), ((HB.out.cell (World.block_lt_of_cell? _ _ hw209_1)).trans hw209_1), ((HB.out.cell (World.block_lt_of_cell? _ _ hw209_2)).trans hw209_2)⟩ (fun hHeld => ?_); refine with_tabW laws_heldCrossS.tab4 laws_heldCrossS.bits4 (fun HT_ HW_ => ?_)
              generalize wr.drew = w23 at HB hx209_0 hx209_1 hx209_2 hHeld ⊢
              refine pu_ 0 12 (bs 8 1) HT_ ?_ rfl rfl
              refine pu_ 1 13 (bs 8 3) HT_ ?_ rfl rfl
              refine pu_ 2 14 (bs 8 7) HT_ ?_ rfl rfl
              refine pu_ 3 15 (bs 8 15) HT_ ?_ rfl rfl
              refine pu_ 5 17 (bs 8 47) HT_ ?_ rfl rfl
              refine tk_ 4 16 (bs 8 63) HT_ HW_ hHeld au9_0 ?_ rfl rfl
              refine one_ (i := 6) (N := some 18) (bs 8 127) rfl rfl (one_of HT_.out (by kernel_rfl)) (by decide) (fun K hK => ?_)
              refine gr_ Try.func68 #[.int .i64 x1_1] (by rfl) ?_ rfl rfl rfl
              with_reducible refine (laws_markText.calls k1 x1_1 t210 _ A5.out).mono ?_
              rintro e w24 ⟨rfl, hb⟩
              refine ⟨_, rfl, ?_⟩
              have n0_ := Aside0.mk (below_step bl_ hb)
              clear HB
              have HB := n0_
              clear n0_
              (try clear hb)
              (try clear hb2)
              (try clear hk)
              (try clear hi)
              refine hK.out _ _ ⟨((HB.out.cell (World.block_lt_of_cell? _ _ hw209_0)).trans hw209_0), ((HB.out.cell (World.block_lt_of_cell? _ _ hw209_1)).trans hw209_1), ((HB.out.cell (World.block_lt_of_cell? _ _ hw209_2)).trans hw209_2)⟩ (fun hHeld => ?_)
              clear hK K
              refine norm_ (a' := ?_) ?_ ?_
              rotate_left
              · show Act.put _ (some 18) _ = _
                simp only [Act.put, List.setIfInBounds_toArray, List.set_cons_zero, List.set_cons_succ, i64_w, i32_w]
                rfl
              refine pu_ 7 19 (bs 8 255) HT_ ?_ rfl rfl
              refine done_ (done_of HT_.out (by kernel_rfl)) ?_
              try go_wp2
              have n0_ := Aside0.mk (below_drew1 HB.out)
              clear HB
              have HB := n0_
              clear n0_
              have p211 : 0 ≤ (x5_1 : Int) := of_decide_eq_true as_
              have q211 : x5_1 < (l0.length : Int) := of_decide_eq_true as_
              obtain ⟨ad211, e211, hx211_0, hx211_1, hx211_2⟩ := at_T37 HR0.out x5_1 p211 q211
              have hw211_2 := hx211_2
              have hw211_1 := hx211_1
              have hw211_0 := hx211_0
              obtain rfl : ad209 = ad211 := (by injection e211)
              replace hx211_0 := (HB.out.cell (World.block_lt_of_cell? _ _ hx211_0)).trans hx211_0
              replace hx211_1 := (HB.out.cell (World.block_lt_of_cell? _ _ hx211_1)).trans hx211_1
              replace hx211_2 := (HB.out.cell (World.block_lt_of_cell? _ _ hx211_2)).trans hx211_2
              replace p211 := eq_true p211
              replace q211 := eq_true q211
              refine start_ (n := 8) (S := fun w' => w'.cell? (ad209.add ((x5_1).toNat * 3)) = some (.string ((rd_T37 l0 x5_1).f0)) ∧ w'.cell? ⟨(ad209.add ((x5_1).toNat * 3)).block, (ad209.add ((x5_1).toNat * 3)).off + 1, none⟩ = some (.string ((rd_T37 l0 x5_1).f1)) ∧ w'.cell? ⟨(ad209.add ((x5_1).toNat * 3)).block, (ad209.add ((x5_1).toNat * 3)).off + 2, none⟩ = some (.string ((rd_T37 l0 x5_1).f2))) (ds := []) (bs 8 0) (by kernel_rfl) rfl rfl ⟨((HB.out.cell (World.block_lt_of_cell? _ _ hw211_0)).trans hw211_0), ((HB.out.cell (World.block_lt_of_cell? _ _ hw211_1)).trans hw211_1), ((HB.out.cell (World.block_lt_of_cell? _ _ hw211_2)).trans hw211_2)⟩ (fun hHeld => ?_); refine with_tabW laws_heldCrossS.tab7 laws_heldCrossS.bits7 (fun HT_ HW_ => ?_)
              generalize w24.drew = w25 at HB hx211_0 hx211_1 hx211_2 hHeld ⊢
              refine pu_ 0 22 (bs 8 1) HT_ ?_ rfl rfl
              refine pu_ 1 23 (bs 8 3) HT_ ?_ rfl rfl
              refine pu_ 2 24 (bs 8 7) HT_ ?_ rfl rfl
              refine pu_ 3 25 (bs 8 15) HT_ ?_ rfl rfl
              refine pu_ 5 27 (bs 8 47) HT_ ?_ rfl rfl
              refine tk_ 4 26 (bs 8 63) HT_ HW_ hHeld au9_0 ?_ rfl rfl
              refine one_ (i := 6) (N := some 28) (bs 8 127) rfl rfl (one_of HT_.out (by kernel_rfl)) (by decide) (fun K hK => ?_)
              refine gr_ Try.func68 #[.int .i64 (wrap64 (x1_1 + 1))] (by rfl) ?_ rfl rfl rfl
              with_reducible refine (laws_markText.calls k1 (wrap64 (x1_1 + 1)) t212 _ A7.out).mono ?_
              rintro e w26 ⟨rfl, hb⟩
              refine ⟨_, rfl, ?_⟩
              have n0_ := Aside0.mk (below_step bl_ hb)
              clear HB
              have HB := n0_
              clear n0_
              (try clear hb)
              (try clear hb2)
              (try clear hk)
              (try clear hi)
              refine hK.out _ _ ⟨((HB.out.cell (World.block_lt_of_cell? _ _ hw211_0)).trans hw211_0), ((HB.out.cell (World.block_lt_of_cell? _ _ hw211_1)).trans hw211_1), ((HB.out.cell (World.block_lt_of_cell? _ _ hw211_2)).trans hw211_2)⟩ (fun hHeld => ?_)
              clear hK K
              refine norm_ (a' := ?_) ?_ ?_
              rotate_left
              · show Act.put _ (some 28) _ = _
                simp only [Act.put, List.setIfInBounds_toArray, List.set_cons_zero, List.set_cons_succ, i64_w, i32_w]
                rfl
              refine pu_ 7 29 (bs 8 255) HT_ ?_ rfl rfl
              refine done_ (done_of HT_.out (by kernel_rfl)) ?_
              try go_wp2
              go_ret
              exact ⟨au9_1, bl_⟩
          · rw [if_neg c6] at H
            have c6b0 : (((rd_T37 l0 x5_1).f0).toList == t210.toList) = false := beq_eq_false_iff_ne.mpr c6
            have c6b1 : (((rd_T37 l0 x5_1).f0).toList != t210.toList) = true := bne_iff_ne.mpr c6
            obtain rfl := Option.some.inj H
            try go_wp2
            have n0_ := Aside0.mk (below_drew1 HB.out)
            clear HB
            have HB := n0_
            clear n0_
            have p209 : 0 ≤ (x5_1 : Int) := of_decide_eq_true as_
            have q209 : x5_1 < (l0.length : Int) := of_decide_eq_true as_
            obtain ⟨ad209, e209, hx209_0, hx209_1, hx209_2⟩ := at_T37 HR0.out x5_1 p209 q209
            have hw209_2 := hx209_2
            have hw209_1 := hx209_1
            have hw209_0 := hx209_0
            cases e209
            replace hx209_0 := (HB.out.cell (World.block_lt_of_cell? _ _ hx209_0)).trans hx209_0
            replace hx209_1 := (HB.out.cell (World.block_lt_of_cell? _ _ hx209_1)).trans hx209_1
            replace hx209_2 := (HB.out.cell (World.block_lt_of_cell? _ _ hx209_2)).trans hx209_2
            replace p209 := eq_true p209
            replace q209 := eq_true q209
            refine start_ (n := 8) (S := fun w' => w'.cell? (ad209.add ((x5_1).toNat * 3)) = some (.string ((rd_T37 l0 x5_1).f0)) ∧ w'.cell? ⟨(ad209.add ((x5_1).toNat * 3)).block, (ad209.add ((x5_1).toNat * 3)).off + 1, none⟩ = some (.string ((rd_T37 l0 x5_1).f1)) ∧ w'.cell? ⟨(ad209.add ((x5_1).toNat * 3)).block, (ad209.add ((x5_1).toNat * 3)).off + 2, none⟩ = some (.string ((rd_T37 l0 x5_1).f2))) (ds := []) (bs 8 0) (by kernel_rfl) rfl rfl ⟨((HB.out.cell (World.block_lt_of_cell? _ _ hw209_0)).trans hw209_0), ((HB.out.cell (World.block_lt_of_cell? _ _ hw209_1)).trans hw209_1), ((HB.out.cell (World.block_lt_of_cell? _ _ hw209_2)).trans hw209_2)⟩ (fun hHeld => ?_); refine with_tabW laws_heldCrossS.tab4 laws_heldCrossS.bits4 (fun HT_ HW_ => ?_)
            generalize wr.drew = w27 at HB hx209_0 hx209_1 hx209_2 hHeld ⊢
            refine pu_ 0 12 (bs 8 1) HT_ ?_ rfl rfl
            refine pu_ 1 13 (bs 8 3) HT_ ?_ rfl rfl
            refine pu_ 2 14 (bs 8 7) HT_ ?_ rfl rfl
            refine pu_ 3 15 (bs 8 15) HT_ ?_ rfl rfl
            refine pu_ 5 17 (bs 8 47) HT_ ?_ rfl rfl
            refine tk_ 4 16 (bs 8 63) HT_ HW_ hHeld au9_0 ?_ rfl rfl
            refine one_ (i := 6) (N := some 18) (bs 8 127) rfl rfl (one_of HT_.out (by kernel_rfl)) (by decide) (fun K hK => ?_)
            refine gr_ Try.func68 #[.int .i64 x1_1] (by rfl) ?_ rfl rfl rfl
            with_reducible refine (laws_markText.calls k1 x1_1 t210 _ A5.out).mono ?_
            rintro e w28 ⟨rfl, hb⟩
            refine ⟨_, rfl, ?_⟩
            have n0_ := Aside0.mk (below_step bl_ hb)
            clear HB
            have HB := n0_
            clear n0_
            (try clear hb)
            (try clear hb2)
            (try clear hk)
            (try clear hi)
            refine hK.out _ _ ⟨((HB.out.cell (World.block_lt_of_cell? _ _ hw209_0)).trans hw209_0), ((HB.out.cell (World.block_lt_of_cell? _ _ hw209_1)).trans hw209_1), ((HB.out.cell (World.block_lt_of_cell? _ _ hw209_2)).trans hw209_2)⟩ (fun hHeld => ?_)
            clear hK K
            refine norm_ (a' := ?_) ?_ ?_
            rotate_left
            · show Act.put _ (some 18) _ = _
              simp only [Act.put, List.setIfInBounds_toArray, List.set_cons_zero, List.set_cons_succ, i64_w, i32_w]
              rfl
            refine pu_ 7 19 (bs 8 255) HT_ ?_ rfl rfl
            refine done_ (done_of HT_.out (by kernel_rfl)) ?_
            try go_wp2
            go_ret
            exact ⟨au9_1, bl_⟩
        · rw [if_neg c4] at H
          exact absurd H (by simp)
      · rw [if_neg c3] at H
        have c3b0 : decide (x5_1 < (l0.length : Int)) = false := decide_eq_false c3
        clear c3
        obtain rfl := Option.some.inj H
        go_wp2
        go_ret
        exact ⟨au9_1, bl_⟩

end Go.Proofs.Ytjffakoifpldeaa.PFnExactCrossDrop
