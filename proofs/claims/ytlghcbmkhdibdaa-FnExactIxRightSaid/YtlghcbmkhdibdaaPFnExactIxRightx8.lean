-- printed by a program of this session (wip/xp/xprint.py) out of the translation; Lean checks it
import Derived.Test.YtlghcbmkhdibdaaPFnExactIxRightx0
import Derived.Test.YtlghcbmkhdibdaaPFnExactIxRightx7
namespace Go.Proofs.Ytlghcbmkhdibdaa.PFnExactIxRight
open Go.RowKit Go.Proofs.YtlghcbmkhdibdaaW.PrintWords Go.Proofs.YtlghcbmkhdibdaaW.PrintLast Go.Proofs.YtlghcbmkhdibdaaW.PrintMore
attribute [local go_sem] max2_int min2_int max_two min_two max_three min_three max_four min_four   -- for this text's walks alone
set_option linter.unusedVariables false
set_option linter.unusedSimpArgs false

theorem au8_0 {p : Prop} (h : p := by first | rfl | (simp [errW_none, errW_some] <;> rfl) | (simp [*, errW_none, errW_some] <;> rfl)) : p := h
theorem au8_1 {p : Prop} (h : p := by repeat (first | exact (Kd.C_below HR0_1.out HB.out) | (with_reducible refine Kd.C_alloc ?_ _) | (with_reducible refine Kd.C_drewN ?_ _) | (with_reducible refine Kd.C_drew ?_))) : p := h
theorem au8_2 {p : Prop} (h : p := by (with_reducible repeat (first | refine blk_drewN ?_ _ | refine blk_drew ?_ | refine blk_alloc ?_ _)); refine blk_put (cs := #[.slice none 0 0]) ?_ 0 _ rfl; (with_reducible repeat (first | refine blk_drewN ?_ _ | refine blk_drew ?_ | refine blk_alloc ?_ _)); exact BK230.out) : p := h
theorem au8_3 {p : Prop} (h : p := by (with_reducible repeat (first | refine blk_drewN ?_ _ | refine blk_drew ?_ | refine blk_alloc ?_ _)); refine blk_far ?_ NB227_230.out _; (with_reducible repeat (first | refine blk_drewN ?_ _ | refine blk_drew ?_ | refine blk_alloc ?_ _)); exact BK227.out) : p := h
theorem au8_4 {p : Prop} (h : p := by first | rfl | (simp [errW_none, errW_some] <;> rfl) | (simp only [← hji17]; first | rfl | (simp [errW_none, errW_some] <;> rfl)) | (simp [*, errW_none, errW_some] <;> rfl)) : p := h
theorem au8_5 {p : Prop} (h : p := by rintro w' ⟨s0, s1⟩; go_simp; with_reducible rfl) : p := h

/-! ### impl_SegmentRight: function 49 -/
mutual
def impl_SegmentRight.l0 : Nat → List (S122) → Int → Int → ByteArray → List (S122) → Option (Bool)
  | 0, _, _, _, _, _ => none
  | k + 1, x7, x8, x9, x228000, x228001 => if x9 < x8 then (if 0 ≤ x9 then (if x9 < (x7.length : Int) then ((impl_within.f (((rd_T122 x7 x9).f0).length : Int) 1 4).bind fun t231 => (if t231 = true then ((slices_ContainsFunc_string_string__impl_SegmentRight_1.f k ((rd_T122 x7 x9).f0)).bind fun t232 => (impl_SegmentRight.j1 k x9 (((rd_T122 x7 x9).f0).length : Int) x7 x8 x9 t232 x228000 x228001 ((rd_T122 x7 x9).f0))) else (impl_SegmentRight.j1 k x9 (((rd_T122 x7 x9).f0).length : Int) x7 x8 x9 true x228000 x228001 ((rd_T122 x7 x9).f0)))) else (none)) else (none)) else ((impl_isTag.f x228000).bind fun t228 => (if t228 = true then (some (decide ((x228001.length : Int) ≤ 10))) else (some false)))
def impl_SegmentRight.j1 : Nat → Int → Int → List (S122) → Int → Int → Bool → ByteArray → List (S122) → List ByteArray → Option (Bool)
  | 0, _, _, _, _, _, _, _, _, _ => none
  | k + 1, x3, x5, x7, x8, x9, x24, x228000, x228001, x231000 => if x24 = true then (some false) else (if 0 ≤ (wrap64 (x5 - 1)) then (if (wrap64 (x5 - 1)) < (x231000.length : Int) then (if (rdOf ByteArray.empty x231000 (wrap64 (x5 - 1))).toList = ([] : List UInt8) then (if x5 > 1 then (some false) else (if x3 = (wrap64 ((x228001.length : Int) - 1)) then (some false) else (impl_SegmentRight.l0 k x7 x8 (wrap64 (x9 + 1)) x228000 x228001))) else (impl_SegmentRight.l0 k x7 x8 (wrap64 (x9 + 1)) x228000 x228001)) else (none)) else (none))
end
def impl_SegmentRight.f (k : Nat) (a0_0 : ByteArray) (l0_1 : List (S122)) : Option (Bool) := impl_SegmentRight.l0 k l0_1 (l0_1.length : Int) 0 a0_0 l0_1
theorem impl_SegmentRight.mono_l : ∀ k, (∀ y0 y1 y2 y3 y4, LeO (impl_SegmentRight.l0 k y0 y1 y2 y3 y4) (impl_SegmentRight.l0 (k + 1) y0 y1 y2 y3 y4)) ∧ (∀ y0 y1 y2 y3 y4 y5 y6 y7 y8, LeO (impl_SegmentRight.j1 k y0 y1 y2 y3 y4 y5 y6 y7 y8) (impl_SegmentRight.j1 (k + 1) y0 y1 y2 y3 y4 y5 y6 y7 y8))
  | 0 => ⟨fun _ _ _ _ _ r h => by simp [impl_SegmentRight.l0] at h, fun _ _ _ _ _ _ _ _ _ r h => by simp [impl_SegmentRight.j1] at h⟩
  | k + 1 => by
    obtain ⟨ih0, ih1⟩ := impl_SegmentRight.mono_l k
    refine ⟨?_, ?_⟩
    · intro y0 y1 y2 y3 y4
      unfold impl_SegmentRight.l0
      repeat' first
      | (with_reducible exact ih0 _ _ _ _ _)
      | (with_reducible exact ih1 _ _ _ _ _ _ _ _ _)
      | (with_reducible exact slices_ContainsFunc_string_string__impl_SegmentRight_1.mono _ _)
      | (with_reducible exact LeO.refl _)
      | (with_reducible exact LeO.none _)
      | (with_reducible refine LeO.ite ?_ ?_)
      | (with_reducible refine LeO.bind ?_ (fun _ => ?_))
      | exact ih0 _ _ _ _ _
      | exact ih1 _ _ _ _ _ _ _ _ _
      | exact slices_ContainsFunc_string_string__impl_SegmentRight_1.mono _ _
      | exact LeO.none _
      | refine LeO.ite ?_ ?_
      | refine LeO.bind ?_ (fun _ => ?_)
    · intro y0 y1 y2 y3 y4 y5 y6 y7 y8
      unfold impl_SegmentRight.j1
      repeat' first
      | (with_reducible exact ih0 _ _ _ _ _)
      | (with_reducible exact ih1 _ _ _ _ _ _ _ _ _)
      | (with_reducible exact slices_ContainsFunc_string_string__impl_SegmentRight_1.mono _ _)
      | (with_reducible exact LeO.refl _)
      | (with_reducible exact LeO.none _)
      | (with_reducible refine LeO.ite ?_ ?_)
      | (with_reducible refine LeO.bind ?_ (fun _ => ?_))
      | exact ih0 _ _ _ _ _
      | exact ih1 _ _ _ _ _ _ _ _ _
      | exact slices_ContainsFunc_string_string__impl_SegmentRight_1.mono _ _
      | exact LeO.none _
      | refine LeO.ite ?_ ?_
      | refine LeO.bind ?_ (fun _ => ?_)
theorem impl_SegmentRight.mono : ∀ a0 a1 k, LeO (impl_SegmentRight.f k a0 a1) (impl_SegmentRight.f (k + 1) a0 a1) := by
  intro a0 a1 k
  obtain ⟨ih0, ih1⟩ := impl_SegmentRight.mono_l k
  unfold impl_SegmentRight.f
  repeat' first
      | (with_reducible exact ih0 _ _ _ _ _)
      | (with_reducible exact ih1 _ _ _ _ _ _ _ _ _)
      | (with_reducible exact slices_ContainsFunc_string_string__impl_SegmentRight_1.mono _ _)
      | (with_reducible exact LeO.refl _)
      | (with_reducible exact LeO.none _)
      | (with_reducible refine LeO.ite ?_ ?_)
      | (with_reducible refine LeO.bind ?_ (fun _ => ?_))
      | exact ih0 _ _ _ _ _
      | exact ih1 _ _ _ _ _ _ _ _ _
      | exact slices_ContainsFunc_string_string__impl_SegmentRight_1.mono _ _
      | exact LeO.none _
      | refine LeO.ite ?_ ?_
      | refine LeO.bind ?_ (fun _ => ?_)
set_option maxHeartbeats 8000000 in
set_option maxRecDepth 100000 in
theorem impl_SegmentRight.calls (k : Nat) (a0_0 : ByteArray) (A0_1 : Option Addr) (c0_1 : Nat) (l0_1 : List (S122)) (r : Bool) (w : World) (hr0_1 : Kd.C k122 w A0_1 l0_1.length l0_1) (hc0_1 : l0_1.length ≤ c0_1) (h : impl_SegmentRight.f k a0_0 l0_1 = some r) :
    Calls Try.prog 49 #[.agg #[.string a0_0, .slice A0_1 l0_1.length c0_1]] w fun e w' => e = .returned (.bool r) ∧ Below w.heap.size w w' := by
  have hu88 := Try.underlying88
  have hu122 := Try.underlying122
  have HR0_1 := Aside0.mk hr0_1
  have HC0_1 := Aside0.mk hc0_1
  clear hr0_1 hc0_1
  have HB := Aside0.mk (Below.refl w.heap.size w)
  have H : (impl_SegmentRight.l0 k l0_1 (l0_1.length : Int) 0 a0_0 l0_1) = some r := h
  clear h
  have H' := Aside0.mk H
  clear H
  go_enter Try.func49, Try.ntmps49
  go_wp2_with (first | ((with_reducible refine gate_dst (N := 1) rfl ?_); (try (refine gate_guard (by rfl) ?_; dsimp only)); refine box_event ?hg (N := 1) ?hd (cs := #[.string a0_0, .slice A0_1 l0_1.length c0_1]) (t := 88) ?hr ?_; (case hd => rfl); (case hg => rfl); (case hr => exact hr_); intro gb227 hg w2 hbox hb; have n0_ := Aside0.mk (below_step bl_ hb); have n1_ := Aside0.mk (hbox); have n2_ := Aside0.mk (gw_ hg bl_); have n3_ := Aside0.mk (gw_ hg bl_); clear HB; have HB := n0_; have BK227 := n1_; have GW227 := n2_; have GE227 := n3_; clear n0_ n1_ n2_ n3_; clear hb hbox hg; obtain ⟨hcz3_0, hcz3_1, hfz3_0, hfz3_1⟩ := cellsF2 BK227.out))
  go_loopg [9] k (fun kq v9 w' => ∃ (x9_1 : Int), v9 = .int .i64 x9_1 ∧ Aside0 (impl_SegmentRight.l0 kq l0_1 (l0_1.length : Int) x9_1 a0_0 l0_1 = some r) ∧ Aside0 (kq ≤ k) ∧ Aside0 (w'.heap[gb227]? = some (.cells #[.string a0_0, (.slice A0_1 l0_1.length c0_1)] 88 (0, 0))) ∧ Aside0 (Below w.heap.size w w'))
  case atStart => exact ⟨(0), er_, H', ⟨Nat.le_refl _⟩, ⟨bk_ BK227⟩, ⟨bl_⟩⟩
  case round =>
    clear H'
    try clear p2
    try clear hcz3_0
    try clear hcz3_1
    try clear hfz3_0
    try clear hfz3_1
    obtain ⟨x9_1, rfl, HA, HK1, BK227, HB⟩ := hrel
    cases gk with
    | zero => exact absurd HA.out (by simp [impl_SegmentRight.l0])
    | succ k1 =>
      have H := HA.out
      clear HA
      simp only [impl_SegmentRight.l0] at H
      by_cases c4 : x9_1 < (l0_1.length : Int)
      · rw [if_pos c4] at H
        have c4b0 : decide (x9_1 < (l0_1.length : Int)) = true := decide_eq_true c4
        clear c4
        by_cases c5 : 0 ≤ x9_1
        · rw [if_pos c5] at H
          have c5b0 : decide (0 ≤ x9_1) = true := decide_eq_true c5
          clear c5
          by_cases c6 : x9_1 < (l0_1.length : Int)
          · rw [if_pos c6] at H
            have c6b0 : decide (x9_1 < (l0_1.length : Int)) = true := decide_eq_true c6
            clear c6
            have HC7 := Aside0.mk H
            clear H
            have p229 : 0 ≤ (x9_1 : Int) := of_decide_eq_true as_
            have q229 : x9_1 < (l0_1.length : Int) := of_decide_eq_true as_
            obtain ⟨ad229, A229_0, c229_0, e229, hx229_0, hl229_0, hi229_0⟩ := at_T122 HR0_1.out x9_1 p229 q229
            cases e229
            replace hx229_0 := (HB.out.cell (World.block_lt_of_cell? _ _ hx229_0)).trans hx229_0
            have HR229_0 := Aside0.mk hi229_0
            have HC229_0 := Aside0.mk hl229_0
            clear hi229_0 hl229_0
            replace p229 := eq_true p229
            replace q229 := eq_true q229
            go_upto_region 5 with (first | ((with_reducible refine gate_dst (N := 4) rfl ?_); (try (refine gate_guard (by rfl) ?_; dsimp only)); refine box_event ?hg (N := 4) ?hd (cs := #[.slice none 0 0]) (t := 122) ?hr ?_; (case hd => rfl); (case hg => rfl); (case hr => exact hr_); intro gb230 hg w8 hbox hb; have n0_ := Aside0.mk (blkb_ BK227 hb); have n1_ := Aside0.mk (below_step bl_ hb); have n2_ := Aside0.mk (hbox); have n3_ := Aside0.mk (gw_ hg bl_); have n4_ := Aside0.mk (gw_ hg bl_); have n5_ := Aside0.mk (gn_ hg (blkl_ BK227)); have n6_ := Aside0.mk (gm_ hg (blkl_ BK227)); clear BK227; clear HB; have BK227 := n0_; have HB := n1_; have BK230 := n2_; have GW230 := n3_; have GE230 := n4_; have NB227_230 := n5_; have NB230_227 := n6_; clear n0_ n1_ n2_ n3_ n4_ n5_ n6_; clear hb hbox hg; have hnb9 := NB230_227.out; have hnc9 := NB227_230.out; have hcz10_0 : w8.cell? ⟨gb230, 0, none⟩ = some (.slice none 0 0) := (blk_cell BK230.out 0).trans rfl; have hfz10_0 := blk_frozen BK230.out 0))
            (try simp only [Act.put, List.setIfInBounds_toArray, List.set_cons_zero, List.set_cons_succ])
            go_cut [24] (fun v24 wc => ∃ (kq : Nat) (x24_6 : Bool), v24 = .bool x24_6 ∧ Aside0 (impl_SegmentRight.j1 kq x9_1 (((rd_T122 l0_1 x9_1).f0).length : Int) l0_1 (l0_1.length : Int) x9_1 x24_6 a0_0 l0_1 ((rd_T122 l0_1 x9_1).f0) = some r) ∧ Aside0 (kq ≤ k1) ∧ Aside0 (wc.heap[gb227]? = some (.cells #[.string a0_0, (.slice (some ad229) l0_1.length c0_1)] 88 (0, 0))) ∧ Aside0 (wc.heap[gb230]? = some (.cells #[(.slice A229_0 ((rd_T122 l0_1 x9_1).f0).length c229_0)] 122 (0, 0))) ∧ Aside0 (Below w.heap.size w wc))
            case first =>
              have H := HC7.out
              clear HC7
              replace H := Option.bind_eq_some_iff.mp H
              obtain ⟨t231, A110, H⟩ := H
              replace H : (if t231 = true then ((slices_ContainsFunc_string_string__impl_SegmentRight_1.f k1 ((rd_T122 l0_1 x9_1).f0)).bind fun t232 => (impl_SegmentRight.j1 k1 x9_1 (((rd_T122 l0_1 x9_1).f0).length : Int) l0_1 (l0_1.length : Int) x9_1 t232 a0_0 l0_1 ((rd_T122 l0_1 x9_1).f0))) else (impl_SegmentRight.j1 k1 x9_1 (((rd_T122 l0_1 x9_1).f0).length : Int) l0_1 (l0_1.length : Int) x9_1 true a0_0 l0_1 ((rd_T122 l0_1 x9_1).f0))) = some r := H
              have A11 := Aside0.mk A110
              clear A110
              by_cases c12 : t231 = true
              · subst c12
                have H1 : ((slices_ContainsFunc_string_string__impl_SegmentRight_1.f k1 ((rd_T122 l0_1 x9_1).f0)).bind fun t232 => (impl_SegmentRight.j1 k1 x9_1 (((rd_T122 l0_1 x9_1).f0).length : Int) l0_1 (l0_1.length : Int) x9_1 t232 a0_0 l0_1 ((rd_T122 l0_1 x9_1).f0))) = some r := by rw [if_pos rfl] at H; exact H
                clear H
                have H := H1
                clear H1
                replace H := Option.bind_eq_some_iff.mp H
                obtain ⟨t232, A130, H⟩ := H
                replace H : (impl_SegmentRight.j1 k1 x9_1 (((rd_T122 l0_1 x9_1).f0).length : Int) l0_1 (l0_1.length : Int) x9_1 t232 a0_0 l0_1 ((rd_T122 l0_1 x9_1).f0)) = some r := H
                have A13 := Aside0.mk A130
                clear A130
                have H' := Aside0.mk H
                clear H
                go_wp2_with (first | ((with_reducible refine gate_callee (f := 61) rfl ?_); refine gl_ 18 Try.func61 #[.int .i64 (((rd_T122 l0_1 x9_1).f0).length : Int), .int .i64 1, .int .i64 4] ?_ rfl rfl rfl rfl; (with_reducible refine (impl_within.calls (((rd_T122 l0_1 x9_1).f0).length : Int) 1 4 true _ A11.out).mono ?_); rintro e w' ⟨rfl, ⟨nd, rfl⟩⟩; refine ⟨_, rfl, ?_⟩; have hnb14 := NB230_227.out; have hnc14 := NB227_230.out; have hcz15_0 : w8.cell? ⟨gb230, 0, none⟩ = some (.slice none 0 0) := (blk_cell BK230.out 0).trans rfl; have hfz15_0 := blk_frozen BK230.out 0) | (go_at_call 86; (with_reducible refine (slices_ContainsFunc_string_string__impl_SegmentRight_1.calls k1 _ _ ((rd_T122 l0_1 x9_1).f0)  t232 _ ?side1 ?side2 A13.out).mono ?_); (case side1 => exact Kd.C_below HR229_0.out bl_); (case side2 => exact HC229_0.out); rintro e w' ⟨rfl, ⟨nd, rfl⟩⟩))
                go_meet
                case rel => exact ⟨_, (t232), er_, H', ⟨by have := HK1.out; first | omega | exact Nat.le_refl _⟩, ⟨au8_3⟩, ⟨au8_2⟩, ⟨bl_⟩⟩
              · replace c12 := Bool.eq_false_iff.mpr c12
                subst c12
                have H1 : (impl_SegmentRight.j1 k1 x9_1 (((rd_T122 l0_1 x9_1).f0).length : Int) l0_1 (l0_1.length : Int) x9_1 true a0_0 l0_1 ((rd_T122 l0_1 x9_1).f0)) = some r := by rw [if_neg (show ¬ (false = true) by decide)] at H; exact H
                clear H
                have H := H1
                clear H1
                have H' := Aside0.mk H
                clear H
                go_wp2_with (first | ((with_reducible refine gate_callee (f := 61) rfl ?_); refine gl_ 18 Try.func61 #[.int .i64 (((rd_T122 l0_1 x9_1).f0).length : Int), .int .i64 1, .int .i64 4] ?_ rfl rfl rfl rfl; (with_reducible refine (impl_within.calls (((rd_T122 l0_1 x9_1).f0).length : Int) 1 4 false _ A11.out).mono ?_); rintro e w' ⟨rfl, ⟨nd, rfl⟩⟩; refine ⟨_, rfl, ?_⟩))
                go_meet
                case rel => exact ⟨_, (true), er_, H', ⟨by have := HK1.out; first | omega | exact Nat.le_refl _⟩, ⟨au8_3⟩, ⟨au8_2⟩, ⟨bl_⟩⟩
            case rest =>
              clear HC7
              try clear c1
              try clear c2
              try clear p2
              try clear q2
              try clear hx2
              try clear c4
              try clear c4b0
              try clear c5
              try clear c5b0
              try clear c6
              try clear c6b0
              try clear c9
              try clear c12
              try clear c14
              try clear hcz10_0
              try clear hcz15_0
              try clear hcz3_0
              try clear hcz3_1
              try clear hfz10_0
              try clear hfz15_0
              try clear hfz3_0
              try clear hfz3_1
              try clear hx229_0
              try clear p2
              try clear p229
              try clear q229
              obtain ⟨kq, x24_6, rfl, HA, HJ6, BK227, BK230, HB⟩ := hcut
              cases kq with
              | zero => exact absurd HA.out (by simp [impl_SegmentRight.j1])
              | succ kj6 =>
                have H := HA.out
                clear HA
                simp only [impl_SegmentRight.j1] at H
                by_cases c16 : x24_6 = true
                · subst c16
                  have H1 : (some false) = some r := by rw [if_pos rfl] at H; exact H
                  clear H
                  have H := H1
                  clear H1
                  obtain rfl := Option.some.inj H
                  go_wp2
                  go_ret
                  exact ⟨au8_0, bl_⟩
                · replace c16 := Bool.eq_false_iff.mpr c16
                  subst c16
                  have H1 : (if 0 ≤ (wrap64 ((((rd_T122 l0_1 x9_1).f0).length : Int) - 1)) then (if (wrap64 ((((rd_T122 l0_1 x9_1).f0).length : Int) - 1)) < (((rd_T122 l0_1 x9_1).f0).length : Int) then (if (rdOf ByteArray.empty ((rd_T122 l0_1 x9_1).f0) (wrap64 ((((rd_T122 l0_1 x9_1).f0).length : Int) - 1))).toList = ([] : List UInt8) then (if (((rd_T122 l0_1 x9_1).f0).length : Int) > 1 then (some false) else (if x9_1 = (wrap64 ((l0_1.length : Int) - 1)) then (some false) else (impl_SegmentRight.l0 kj6 l0_1 (l0_1.length : Int) (wrap64 (x9_1 + 1)) a0_0 l0_1))) else (impl_SegmentRight.l0 kj6 l0_1 (l0_1.length : Int) (wrap64 (x9_1 + 1)) a0_0 l0_1)) else (none)) else (none)) = some r := by rw [if_neg (show ¬ (false = true) by decide)] at H; exact H
                  clear H
                  have H := H1
                  clear H1
                  obtain ⟨ji17, hji17⟩ : ∃ j_ : Int, (wrap64 ((((rd_T122 l0_1 x9_1).f0).length : Int) - 1)) = j_ := ⟨_, rfl⟩
                  replace H : (if 0 ≤ (ji17) then (if (ji17) < (((rd_T122 l0_1 x9_1).f0).length : Int) then (if (rdOf ByteArray.empty ((rd_T122 l0_1 x9_1).f0) (ji17)).toList = ([] : List UInt8) then (if (((rd_T122 l0_1 x9_1).f0).length : Int) > 1 then (some false) else (if x9_1 = (wrap64 ((l0_1.length : Int) - 1)) then (some false) else (impl_SegmentRight.l0 kj6 l0_1 (l0_1.length : Int) (wrap64 (x9_1 + 1)) a0_0 l0_1))) else (impl_SegmentRight.l0 kj6 l0_1 (l0_1.length : Int) (wrap64 (x9_1 + 1)) a0_0 l0_1)) else (none)) else (none)) = some r := by first | (rw [hji17] at H; exact H) | (simp only [hji17] at H ⊢; exact H)
                  have hji17w : (IntKind.i64.wrap ((((rd_T122 l0_1 x9_1).f0).length : Int) - 1)) = ji17 := (i64_w _).trans hji17
                  by_cases c18 : 0 ≤ (ji17)
                  · rw [if_pos c18] at H
                    have c18b0 : decide (0 ≤ (ji17)) = true := decide_eq_true c18
                    clear c18
                    by_cases c19 : (ji17) < (((rd_T122 l0_1 x9_1).f0).length : Int)
                    · rw [if_pos c19] at H
                      have c19b0 : decide ((ji17) < (((rd_T122 l0_1 x9_1).f0).length : Int)) = true := decide_eq_true c19
                      clear c19
                      by_cases c20 : (rdOf ByteArray.empty ((rd_T122 l0_1 x9_1).f0) (ji17)).toList = ([] : List UInt8)
                      · rw [if_pos c20] at H
                        have c20b0 : ((rdOf ByteArray.empty ((rd_T122 l0_1 x9_1).f0) (ji17)).toList == ([] : List UInt8)) = true := beq_iff_eq.mpr c20
                        have c20b1 : ((rdOf ByteArray.empty ((rd_T122 l0_1 x9_1).f0) (ji17)).toList != ([] : List UInt8)) = false := bne_eq_false_iff_eq.mpr c20
                        clear c20
                        by_cases c21 : (((rd_T122 l0_1 x9_1).f0).length : Int) > 1
                        · rw [if_pos c21] at H
                          have c21b0 : decide (1 < (((rd_T122 l0_1 x9_1).f0).length : Int)) = true := decide_eq_true c21
                          have c21b1 : decide (1 < ((rd_T122 l0_1 x9_1).f0).length) = true := decide_eq_true (by omega)
                          clear c21
                          obtain rfl := Option.some.inj H
                          have hnb22 := NB230_227.out
                          have hnc22 := NB227_230.out
                          have hcz23_0 : wc.cell? ⟨gb230, 0, none⟩ = some (.slice A229_0 ((rd_T122 l0_1 x9_1).f0).length c229_0) := (blk_cell BK230.out 0).trans rfl
                          have hfz23_0 := blk_frozen BK230.out 0
                          have p233 : 0 ≤ ((ji17) : Int) := of_decide_eq_true as_
                          have q233 : (ji17) < (((rd_T122 l0_1 x9_1).f0).length : Int) := of_decide_eq_true as_
                          obtain ⟨ad233, e233, hx233_0⟩ := Kd.at_string HR229_0.out (ji17) p233 q233
                          cases e233
                          replace hx233_0 := (HB.out.cell (World.block_lt_of_cell? _ _ hx233_0)).trans hx233_0
                          replace p233 := eq_true p233
                          replace q233 := eq_true q233
                          go_wp2
                          go_ret
                          exact ⟨au8_4, bl_⟩
                        · rw [if_neg c21] at H
                          have c21b0 : decide (1 < (((rd_T122 l0_1 x9_1).f0).length : Int)) = false := decide_eq_false c21
                          have c21b1 : decide (1 < ((rd_T122 l0_1 x9_1).f0).length) = false := decide_eq_false (by omega)
                          clear c21
                          by_cases c24 : x9_1 = (wrap64 ((l0_1.length : Int) - 1))
                          · rw [if_pos c24] at H
                            have c24b0 : (x9_1 == (wrap64 ((l0_1.length : Int) - 1))) = true := beq_iff_eq.mpr c24
                            have c24b1 : (x9_1 != (wrap64 ((l0_1.length : Int) - 1))) = false := bne_eq_false_iff_eq.mpr c24
                            clear c24
                            obtain rfl := Option.some.inj H
                            have hnb25 := NB230_227.out
                            have hnc25 := NB227_230.out
                            have hcz26_0 : wc.cell? ⟨gb230, 0, none⟩ = some (.slice A229_0 ((rd_T122 l0_1 x9_1).f0).length c229_0) := (blk_cell BK230.out 0).trans rfl
                            have hfz26_0 := blk_frozen BK230.out 0
                            have p233 : 0 ≤ ((ji17) : Int) := of_decide_eq_true as_
                            have q233 : (ji17) < (((rd_T122 l0_1 x9_1).f0).length : Int) := of_decide_eq_true as_
                            obtain ⟨ad233, e233, hx233_0⟩ := Kd.at_string HR229_0.out (ji17) p233 q233
                            cases e233
                            replace hx233_0 := (HB.out.cell (World.block_lt_of_cell? _ _ hx233_0)).trans hx233_0
                            replace p233 := eq_true p233
                            replace q233 := eq_true q233
                            obtain ⟨hcz27_0, hcz27_1, hfz27_0, hfz27_1⟩ := cellsF2 BK227.out
                            go_wp2
                            go_ret
                            exact ⟨au8_4, bl_⟩
                          · rw [if_neg c24] at H
                            have c24b0 : (x9_1 == (wrap64 ((l0_1.length : Int) - 1))) = false := beq_eq_false_iff_ne.mpr c24
                            have c24b1 : (x9_1 != (wrap64 ((l0_1.length : Int) - 1))) = true := bne_iff_ne.mpr c24
                            have H' := Aside0.mk H
                            clear H
                            have hnb28 := NB230_227.out
                            have hnc28 := NB227_230.out
                            have hcz29_0 : wc.cell? ⟨gb230, 0, none⟩ = some (.slice A229_0 ((rd_T122 l0_1 x9_1).f0).length c229_0) := (blk_cell BK230.out 0).trans rfl
                            have hfz29_0 := blk_frozen BK230.out 0
                            have p233 : 0 ≤ ((ji17) : Int) := of_decide_eq_true as_
                            have q233 : (ji17) < (((rd_T122 l0_1 x9_1).f0).length : Int) := of_decide_eq_true as_
                            obtain ⟨ad233, e233, hx233_0⟩ := Kd.at_string HR229_0.out (ji17) p233 q233
                            cases e233
                            replace hx233_0 := (HB.out.cell (World.block_lt_of_cell? _ _ hx233_0)).trans hx233_0
                            replace p233 := eq_true p233
                            replace q233 := eq_true q233
                            obtain ⟨hcz30_0, hcz30_1, hfz30_0, hfz30_1⟩ := cellsF2 BK227.out
                            go_wp2
                            go_roundg kj6
                            case measure => have := HK1.out; have := HJ6.out; omega
                            case rel => exact ⟨(wrap64 (x9_1 + 1)), er_, H', ⟨by have := HK1.out; have := HJ6.out; omega⟩, ⟨bk_ BK227⟩, ⟨bl_⟩⟩
                      · rw [if_neg c20] at H
                        have c20b0 : ((rdOf ByteArray.empty ((rd_T122 l0_1 x9_1).f0) (ji17)).toList == ([] : List UInt8)) = false := beq_eq_false_iff_ne.mpr c20
                        have c20b1 : ((rdOf ByteArray.empty ((rd_T122 l0_1 x9_1).f0) (ji17)).toList != ([] : List UInt8)) = true := bne_iff_ne.mpr c20
                        have H' := Aside0.mk H
                        clear H
                        have hnb31 := NB230_227.out
                        have hnc31 := NB227_230.out
                        have hcz32_0 : wc.cell? ⟨gb230, 0, none⟩ = some (.slice A229_0 ((rd_T122 l0_1 x9_1).f0).length c229_0) := (blk_cell BK230.out 0).trans rfl
                        have hfz32_0 := blk_frozen BK230.out 0
                        have p233 : 0 ≤ ((ji17) : Int) := of_decide_eq_true as_
                        have q233 : (ji17) < (((rd_T122 l0_1 x9_1).f0).length : Int) := of_decide_eq_true as_
                        obtain ⟨ad233, e233, hx233_0⟩ := Kd.at_string HR229_0.out (ji17) p233 q233
                        cases e233
                        replace hx233_0 := (HB.out.cell (World.block_lt_of_cell? _ _ hx233_0)).trans hx233_0
                        replace p233 := eq_true p233
                        replace q233 := eq_true q233
                        go_wp2
                        go_roundg kj6
                        case measure => have := HK1.out; have := HJ6.out; omega
                        case rel => exact ⟨(wrap64 (x9_1 + 1)), er_, H', ⟨by have := HK1.out; have := HJ6.out; omega⟩, ⟨bk_ BK227⟩, ⟨bl_⟩⟩
                    · rw [if_neg c19] at H
                      exact absurd H (by simp)
                  · rw [if_neg c18] at H
                    exact absurd H (by simp)
          · rw [if_neg c6] at H
            exact absurd H (by simp)
        · rw [if_neg c5] at H
          exact absurd H (by simp)
      · rw [if_neg c4] at H
        have c4b0 : decide (x9_1 < (l0_1.length : Int)) = false := decide_eq_false c4
        clear c4
        replace H := Option.bind_eq_some_iff.mp H
        obtain ⟨t228, A330, H⟩ := H
        replace H : (if t228 = true then (some (decide ((l0_1.length : Int) ≤ 10))) else (some false)) = some r := H
        have A33 := Aside0.mk A330
        clear A330
        by_cases c34 : t228 = true
        · subst c34
          have H1 : (some (decide ((l0_1.length : Int) ≤ 10))) = some r := by rw [if_pos rfl] at H; exact H
          clear H
          have H := H1
          clear H1
          obtain rfl := Option.some.inj H
          obtain ⟨hcz35_0, hcz35_1, hfz35_0, hfz35_1⟩ := cellsF2 BK227.out
          go_wp2_with (first | ((with_reducible refine gate_callee (f := 89) rfl ?_); refine gl_ 47 Try.func89 #[.string a0_0] ?_ rfl rfl rfl rfl; (with_reducible refine (impl_isTag.calls a0_0 true _ A33.out).mono ?_); rintro e w' ⟨rfl, ⟨nd, rfl⟩⟩; refine ⟨_, rfl, ?_⟩))
          go_ret
          exact ⟨au8_0, bl_⟩
        · replace c34 := Bool.eq_false_iff.mpr c34
          subst c34
          have H1 : (some false) = some r := by rw [if_neg (show ¬ (false = true) by decide)] at H; exact H
          clear H
          have H := H1
          clear H1
          obtain rfl := Option.some.inj H
          obtain ⟨hcz36_0, hcz36_1, hfz36_0, hfz36_1⟩ := cellsF2 BK227.out
          go_wp2_with (first | ((with_reducible refine gate_callee (f := 89) rfl ?_); refine gl_ 47 Try.func89 #[.string a0_0] ?_ rfl rfl rfl rfl; (with_reducible refine (impl_isTag.calls a0_0 false _ A33.out).mono ?_); rintro e w' ⟨rfl, ⟨nd, rfl⟩⟩; refine ⟨_, rfl, ?_⟩))
          go_ret
          exact ⟨au8_0, bl_⟩

/-! ### slices_Index_string_string: function 131 -/
def slices_Index_string_string.l0 : Nat → List ByteArray → ByteArray → Int → Int → Option (Int)
  | 0, _, _, _, _ => none
  | k + 1, x0, x1, x7, x8 => if x8 < x7 then (if 0 ≤ x8 then (if x8 < (x0.length : Int) then (if x1.toList = (rdOf ByteArray.empty x0 x8).toList then (some x8) else (slices_Index_string_string.l0 k x0 x1 x7 (wrap64 (x8 + 1)))) else (none)) else (none)) else (some (-1))
def slices_Index_string_string.f (k : Nat) (l0 : List ByteArray) (a1 : ByteArray) : Option (Int) := slices_Index_string_string.l0 k l0 a1 (l0.length : Int) 0
theorem slices_Index_string_string.mono_l : ∀ k, (∀ y0 y1 y2 y3, LeO (slices_Index_string_string.l0 k y0 y1 y2 y3) (slices_Index_string_string.l0 (k + 1) y0 y1 y2 y3))
  | 0 => fun _ _ _ _ r h => by simp [slices_Index_string_string.l0] at h
  | k + 1 => by
    have ih0 := slices_Index_string_string.mono_l k
    · intro y0 y1 y2 y3
      unfold slices_Index_string_string.l0
      repeat' first
      | (with_reducible exact ih0 _ _ _ _)
      | (with_reducible exact LeO.refl _)
      | (with_reducible exact LeO.none _)
      | (with_reducible refine LeO.ite ?_ ?_)
      | (with_reducible refine LeO.bind ?_ (fun _ => ?_))
      | exact ih0 _ _ _ _
      | exact LeO.none _
      | refine LeO.ite ?_ ?_
      | refine LeO.bind ?_ (fun _ => ?_)
theorem slices_Index_string_string.mono : ∀ a0 a1 k, LeO (slices_Index_string_string.f k a0 a1) (slices_Index_string_string.f (k + 1) a0 a1) := by
  intro a0 a1 k
  have ih0 := slices_Index_string_string.mono_l k
  unfold slices_Index_string_string.f
  repeat' first
      | (with_reducible exact ih0 _ _ _ _)
      | (with_reducible exact LeO.refl _)
      | (with_reducible exact LeO.none _)
      | (with_reducible refine LeO.ite ?_ ?_)
      | (with_reducible refine LeO.bind ?_ (fun _ => ?_))
      | exact ih0 _ _ _ _
      | exact LeO.none _
      | refine LeO.ite ?_ ?_
      | refine LeO.bind ?_ (fun _ => ?_)
set_option maxHeartbeats 8000000 in
set_option maxRecDepth 100000 in
theorem slices_Index_string_string.calls (k : Nat) (A0 : Option Addr) (c0 : Nat) (l0 : List ByteArray) (a1 : ByteArray) (r : Int) (w : World) (hr0 : Kd.C Kd.string w A0 l0.length l0) (hc0 : l0.length ≤ c0) (h : slices_Index_string_string.f k l0 a1 = some r) :
    Calls Try.prog 131 #[.slice A0 l0.length c0, .string a1] w fun e w' => e = .returned (.int .i64 r) ∧ Drawn0 w w' := by
  have HR0 := Aside0.mk hr0
  have HC0 := Aside0.mk hc0
  clear hr0 hc0
  have H : (slices_Index_string_string.l0 k l0 a1 (l0.length : Int) 0) = some r := h
  clear h
  have H' := Aside0.mk H
  clear H
  go_enter Try.func131, Try.ntmps131
  go_wp2
  go_loopg [8] k (fun kq v8 w' => ∃ (x8_1 : Int), v8 = .int .i64 x8_1 ∧ Aside0 (slices_Index_string_string.l0 kq l0 a1 (l0.length : Int) x8_1 = some r) ∧ Aside0 (kq ≤ k) ∧ Drawn0 w w')
  case atStart => exact ⟨(0), er_, H', ⟨Nat.le_refl _⟩, dn_⟩
  case round =>
    clear H'
    try clear c1
    try clear p2
    obtain ⟨x8_1, rfl, HA, HK1, ⟨m1, rfl⟩⟩ := hrel
    cases gk with
    | zero => exact absurd HA.out (by simp [slices_Index_string_string.l0])
    | succ k1 =>
      have H := HA.out
      clear HA
      simp only [slices_Index_string_string.l0] at H
      by_cases c3 : x8_1 < (l0.length : Int)
      · rw [if_pos c3] at H
        have c3b0 : decide (x8_1 < (l0.length : Int)) = true := decide_eq_true c3
        clear c3
        by_cases c4 : 0 ≤ x8_1
        · rw [if_pos c4] at H
          have c4b0 : decide (0 ≤ x8_1) = true := decide_eq_true c4
          clear c4
          by_cases c5 : x8_1 < (l0.length : Int)
          · rw [if_pos c5] at H
            have c5b0 : decide (x8_1 < (l0.length : Int)) = true := decide_eq_true c5
            clear c5
            by_cases c6 : a1.toList = (rdOf ByteArray.empty l0 x8_1).toList
            · rw [if_pos c6] at H
              have c6b0 : (a1.toList == (rdOf ByteArray.empty l0 x8_1).toList) = true := beq_iff_eq.mpr c6
              have c6b1 : (a1.toList != (rdOf ByteArray.empty l0 x8_1).toList) = false := bne_eq_false_iff_eq.mpr c6
              clear c6
              obtain rfl := Option.some.inj H
              have p234 : 0 ≤ (x8_1 : Int) := of_decide_eq_true as_
              have q234 : x8_1 < (l0.length : Int) := of_decide_eq_true as_
              obtain ⟨ad234, e234, hx234_0⟩ := Kd.at_string HR0.out x8_1 p234 q234
              cases e234
              replace p234 := eq_true p234
              replace q234 := eq_true q234
              go_wp2
              go_ret
              exact ⟨er_, dn_⟩
            · rw [if_neg c6] at H
              have c6b0 : (a1.toList == (rdOf ByteArray.empty l0 x8_1).toList) = false := beq_eq_false_iff_ne.mpr c6
              have c6b1 : (a1.toList != (rdOf ByteArray.empty l0 x8_1).toList) = true := bne_iff_ne.mpr c6
              have H' := Aside0.mk H
              clear H
              have p234 : 0 ≤ (x8_1 : Int) := of_decide_eq_true as_
              have q234 : x8_1 < (l0.length : Int) := of_decide_eq_true as_
              obtain ⟨ad234, e234, hx234_0⟩ := Kd.at_string HR0.out x8_1 p234 q234
              cases e234
              replace p234 := eq_true p234
              replace q234 := eq_true q234
              go_wp2
              go_roundg k1
              case measure => have := HK1.out; omega
              case rel => exact ⟨(wrap64 (x8_1 + 1)), er_, H', ⟨by have := HK1.out; omega⟩, dn_⟩
          · rw [if_neg c5] at H
            exact absurd H (by simp)
        · rw [if_neg c4] at H
          exact absurd H (by simp)
      · rw [if_neg c3] at H
        have c3b0 : decide (x8_1 < (l0.length : Int)) = false := decide_eq_false c3
        clear c3
        obtain rfl := Option.some.inj H
        go_wp2
        go_ret
        exact ⟨er_, dn_⟩

/-! ### slices_Contains_string_string: function 124 -/
def slices_Contains_string_string.f (k : Nat) (l0 : List ByteArray) (a1 : ByteArray) : Option (Bool) := (slices_Index_string_string.f k l0 a1).bind fun t235 => (some (decide (t235 ≥ 0)))
theorem slices_Contains_string_string.mono : ∀ a0 a1 k, LeO (slices_Contains_string_string.f k a0 a1) (slices_Contains_string_string.f (k + 1) a0 a1) := by
  intro a0 a1 k
  unfold slices_Contains_string_string.f
  repeat' first
      | (with_reducible exact slices_Index_string_string.mono _ _ _)
      | (with_reducible exact LeO.refl _)
      | (with_reducible exact LeO.none _)
      | (with_reducible refine LeO.ite ?_ ?_)
      | (with_reducible refine LeO.bind ?_ (fun _ => ?_))
      | exact slices_Index_string_string.mono _ _ _
      | exact LeO.none _
      | refine LeO.ite ?_ ?_
      | refine LeO.bind ?_ (fun _ => ?_)
set_option maxHeartbeats 8000000 in
set_option maxRecDepth 100000 in
theorem slices_Contains_string_string.calls (k : Nat) (A0 : Option Addr) (c0 : Nat) (l0 : List ByteArray) (a1 : ByteArray) (r : Bool) (w : World) (hr0 : Kd.C Kd.string w A0 l0.length l0) (hc0 : l0.length ≤ c0) (h : slices_Contains_string_string.f k l0 a1 = some r) :
    Calls Try.prog 124 #[.slice A0 l0.length c0, .string a1] w fun e w' => e = .returned (.bool r) ∧ Drawn0 w w' := by
  have HR0 := Aside0.mk hr0
  have HC0 := Aside0.mk hc0
  clear hr0 hc0
  have H : ((slices_Index_string_string.f k l0 a1).bind fun t235 => (some (decide (t235 ≥ 0)))) = some r := h
  clear h
  replace H := Option.bind_eq_some_iff.mp H
  obtain ⟨t235, A30, H⟩ := H
  replace H : (some (decide (t235 ≥ 0))) = some r := H
  have A3 := Aside0.mk A30
  clear A30
  obtain rfl := Option.some.inj H
  go_enter Try.func124, Try.ntmps124
  go_wp2_with (first | ((with_reducible refine gate_callee (f := 131) rfl ?_); refine gl_ 7 Try.func131 #[.slice A0 l0.length c0, .string a1] ?_ rfl rfl rfl rfl; (with_reducible refine (slices_Index_string_string.calls k _ _ l0 a1 t235 _ ?side1 ?side2 A3.out).mono ?_); (case side1 => repeat (first | exact HR0.out | (with_reducible refine Kd.C_alloc ?_ _) | (with_reducible refine Kd.C_drewN ?_ _) | (with_reducible refine Kd.C_drew ?_))); (case side2 => exact HC0.out); rintro e w' ⟨rfl, ⟨nd, rfl⟩⟩; refine ⟨_, rfl, ?_⟩))
  go_ret
  exact ⟨er_, dn_⟩

/-! ### impl_tags: function 125 -/
def impl_tags.f  : Option (List ByteArray) := some (([(⟨#[73, 88, 72]⟩ : ByteArray), (⟨#[71, 82, 72]⟩ : ByteArray), (⟨#[77, 83, 72]⟩ : ByteArray), (⟨#[77, 83, 84]⟩ : ByteArray), (⟨#[71, 82, 84]⟩ : ByteArray), (⟨#[73, 88, 84]⟩ : ByteArray)] : List ByteArray))
set_option maxHeartbeats 8000000 in
set_option maxRecDepth 100000 in
theorem impl_tags.calls  (r : List ByteArray) (w : World) (h : impl_tags.f  = some r) :
    Calls Try.prog 125 #[] w fun e w' => ∃ v0_ : Value, e = .returned (v0_) ∧ Kd.R Kd.string 9 w' w.heap.size (fun _ => True) v0_ r ∧ Below w.heap.size w w' := by
  have HB := Aside0.mk (Below.refl w.heap.size w)
  have H : (some (([(⟨#[73, 88, 72]⟩ : ByteArray), (⟨#[71, 82, 72]⟩ : ByteArray), (⟨#[77, 83, 72]⟩ : ByteArray), (⟨#[77, 83, 84]⟩ : ByteArray), (⟨#[71, 82, 84]⟩ : ByteArray), (⟨#[73, 88, 84]⟩ : ByteArray)] : List ByteArray))) = some r := h
  clear h
  obtain ⟨y236, hy236⟩ : ∃ y_ : List ByteArray, y_ = (([(⟨#[73, 88, 72]⟩ : ByteArray), (⟨#[71, 82, 72]⟩ : ByteArray), (⟨#[77, 83, 72]⟩ : ByteArray), (⟨#[77, 83, 84]⟩ : ByteArray), (⟨#[71, 82, 84]⟩ : ByteArray), (⟨#[73, 88, 84]⟩ : ByteArray)] : List ByteArray)) := ⟨_, rfl⟩
  replace H : (some y236) = some r := by first | (rw [hy236]; with_reducible exact H) | (have H2_ := (Option.bind_some _ _).symm.trans H; rw [hy236]; with_reducible exact H2_) | (have H2_ := (Option.bind_some _ _).symm.trans H; with_reducible exact H2_) | with_reducible exact H | (rw [hy236]; exact H) | exact H
  have Ny236 := Aside0.mk hy236
  clear hy236
  obtain rfl := Option.some.inj H
  go_enter Try.func125, Try.ntmps125
  go_wp2_with (first | ((with_reducible refine gate_dst (N := 1) rfl ?_); refine Kd.R_lit Kd.string _ 9 ?hg (N := 1) ?hd (xs := ([(⟨#[73, 88, 72]⟩ : ByteArray), (⟨#[71, 82, 72]⟩ : ByteArray), (⟨#[77, 83, 72]⟩ : ByteArray), (⟨#[77, 83, 84]⟩ : ByteArray), (⟨#[71, 82, 84]⟩ : ByteArray), (⟨#[73, 88, 84]⟩ : ByteArray)] : List ByteArray)) (inner := [.string (⟨#[73, 88, 72]⟩ : ByteArray), .string (⟨#[71, 82, 72]⟩ : ByteArray), .string (⟨#[77, 83, 72]⟩ : ByteArray), .string (⟨#[77, 83, 84]⟩ : ByteArray), .string (⟨#[71, 82, 84]⟩ : ByteArray), .string (⟨#[73, 88, 84]⟩ : ByteArray)]) (ok := fun _ => True) (okp := fun _ => True) ?hr ?hp (fun _ hk => hk) trivial (Below.refl _ _) (Nat.le_refl _) (by simp) ?_; (case hd => rfl); (case hg => rfl); (case hr => exact hr_); (case hp => exact (Reps.one (show Kd.M Kd.string _ _ _ (⟨#[73, 88, 72]⟩ : ByteArray) [.string (⟨#[73, 88, 72]⟩ : ByteArray)] from rfl) (Reps.one (show Kd.M Kd.string _ _ _ (⟨#[71, 82, 72]⟩ : ByteArray) [.string (⟨#[71, 82, 72]⟩ : ByteArray)] from rfl) (Reps.one (show Kd.M Kd.string _ _ _ (⟨#[77, 83, 72]⟩ : ByteArray) [.string (⟨#[77, 83, 72]⟩ : ByteArray)] from rfl) (Reps.one (show Kd.M Kd.string _ _ _ (⟨#[77, 83, 84]⟩ : ByteArray) [.string (⟨#[77, 83, 84]⟩ : ByteArray)] from rfl) (Reps.one (show Kd.M Kd.string _ _ _ (⟨#[71, 82, 84]⟩ : ByteArray) [.string (⟨#[71, 82, 84]⟩ : ByteArray)] from rfl) (Reps.one (show Kd.M Kd.string _ _ _ (⟨#[73, 88, 84]⟩ : ByteArray) [.string (⟨#[73, 88, 84]⟩ : ByteArray)] from rfl) (Reps.none _ _)))))))); intro v237 w1 ho2 hb hg_ hnew_; clear hg_ hnew_; (first | rw [← Ny236.out] at ho2 | (simp only [Int.reduceToNat] at ho2; rw [← Ny236.out] at ho2)); have n0_ := Aside0.mk (Kd.R_lower ho2 (below_size bl_)); have n1_ := Aside0.mk (below_step bl_ hb); clear HB; have HO238 := n0_; have HB := n1_; clear n0_ n1_; clear hb ho2))
  go_ret
  exact ⟨_, au8_0, rk_ HO238, bl_⟩

/-! ### impl_isBody: function 117 -/
def impl_isBody.f (k : Nat) (a0_0 : ByteArray) (l0_1 : List (S122)) : Option (Bool) := (impl_SegmentRight.f k a0_0 l0_1).bind fun t240 => (if t240 = true then ((impl_tags.f).bind fun t241 => ((slices_Contains_string_string.f k t241 a0_0).bind fun t244 => (some (!t244)))) else (some false))
theorem impl_isBody.mono : ∀ a0 a1 k, LeO (impl_isBody.f k a0 a1) (impl_isBody.f (k + 1) a0 a1) := by
  intro a0 a1 k
  unfold impl_isBody.f
  repeat' first
      | (with_reducible exact impl_SegmentRight.mono _ _ _)
      | (with_reducible exact slices_Contains_string_string.mono _ _ _)
      | (with_reducible exact LeO.refl _)
      | (with_reducible exact LeO.none _)
      | (with_reducible refine LeO.ite ?_ ?_)
      | (with_reducible refine LeO.bind ?_ (fun _ => ?_))
      | exact impl_SegmentRight.mono _ _ _
      | exact slices_Contains_string_string.mono _ _ _
      | exact LeO.none _
      | refine LeO.ite ?_ ?_
      | refine LeO.bind ?_ (fun _ => ?_)
def impl_isBody.T1 : Bool × List (List Nat × List Nat) := (true, [([], []), ([0], [0]), ([1, 1], [1]), ([2, 2], [2]), ([2], [2]), ([4, 2], [2, 4]), ([3, 5, 3, 2], [2, 3, 5]), ([6, 2], [2, 6]), ([2, 7], [2, 7]), ([8, 6, 0, 1, 2, 3, 4, 5, 6, 7, 8], [8])])
def impl_isBody.B1 : List Nat := [0, 1, 3, 7, 7, 23, 63, 127, 255, 511]
theorem impl_isBody.tab1 : rtab .any (opsOf Try.f117 1) = impl_isBody.T1 := by kernel_rfl
theorem impl_isBody.bits1 : waitsOk impl_isBody.T1.2 impl_isBody.B1 = true := by kernel_rfl
set_option maxHeartbeats 8000000 in
set_option maxRecDepth 100000 in
theorem impl_isBody.calls (k : Nat) (a0_0 : ByteArray) (A0_1 : Option Addr) (c0_1 : Nat) (l0_1 : List (S122)) (r : Bool) (w : World) (hr0_1 : Kd.C k122 w A0_1 l0_1.length l0_1) (hc0_1 : l0_1.length ≤ c0_1) (h : impl_isBody.f k a0_0 l0_1 = some r) :
    Calls Try.prog 117 #[.agg #[.string a0_0, .slice A0_1 l0_1.length c0_1]] w fun e w' => e = .returned (.bool r) ∧ Below w.heap.size w w' := by
  have hu88 := Try.underlying88
  have HR0_1 := Aside0.mk hr0_1
  have HC0_1 := Aside0.mk hc0_1
  clear hr0_1 hc0_1
  have HB := Aside0.mk (Below.refl w.heap.size w)
  have H : ((impl_SegmentRight.f k a0_0 l0_1).bind fun t240 => (if t240 = true then ((impl_tags.f).bind fun t241 => ((slices_Contains_string_string.f k t241 a0_0).bind fun t244 => (some (!t244)))) else (some false))) = some r := h
  clear h
  replace H := Option.bind_eq_some_iff.mp H
  obtain ⟨t240, A20, H⟩ := H
  replace H : (if t240 = true then ((impl_tags.f).bind fun t241 => ((slices_Contains_string_string.f k t241 a0_0).bind fun t244 => (some (!t244)))) else (some false)) = some r := H
  have A2 := Aside0.mk A20
  clear A20
  by_cases c3 : t240 = true
  · subst c3
    have H1 : ((impl_tags.f).bind fun t241 => ((slices_Contains_string_string.f k t241 a0_0).bind fun t244 => (some (!t244)))) = some r := by rw [if_pos rfl] at H; exact H
    clear H
    have H := H1
    clear H1
    replace H := Option.bind_eq_some_iff.mp H
    obtain ⟨t241, A40, H⟩ := H
    replace H : ((slices_Contains_string_string.f k t241 a0_0).bind fun t244 => (some (!t244))) = some r := H
    have A4 := Aside0.mk A40
    clear A40
    replace H := Option.bind_eq_some_iff.mp H
    obtain ⟨t244, A50, H⟩ := H
    replace H : (some (!t244)) = some r := H
    have A5 := Aside0.mk A50
    clear A50
    obtain rfl := Option.some.inj H
    go_enter Try.func117, Try.ntmps117
    try go_wp2_with (first | ((with_reducible refine gate_dst (N := 1) rfl ?_); refine box_event ?hg (N := 1) ?hd (cs := #[.string a0_0, .slice A0_1 l0_1.length c0_1]) (t := 88) ?hr ?_; (case hd => rfl); (case hg => rfl); (case hr => exact hr_); intro gb239 hg w6 hbox hb; have n0_ := Aside0.mk (below_step bl_ hb); have n1_ := Aside0.mk (hbox); have n2_ := Aside0.mk (gw_ hg bl_); have n3_ := Aside0.mk (gw_ hg bl_); clear HB; have HB := n0_; have BK239 := n1_; have GW239 := n2_; have GE239 := n3_; clear n0_ n1_ n2_ n3_; clear hb hbox hg))
    have n0_ := Aside0.mk (blk_drew BK239.out)
    have n1_ := Aside0.mk (below_drew1 HB.out)
    clear BK239
    clear HB
    have BK239 := n0_
    have HB := n1_
    clear n0_ n1_
    refine start_ (n := 10) (S := fun w' => w'.cell? ⟨gb239, 0, none⟩ = some (.string a0_0) ∧ w'.cell? ⟨gb239, 1, none⟩ = some (.slice A0_1 l0_1.length c0_1)) (ds := []) (bs 10 0) (by kernel_rfl) rfl rfl ⟨(blk_cell BK239.out 0).trans rfl, (blk_cell BK239.out 1).trans rfl⟩ (fun hHeld => ?_); refine with_tabW impl_isBody.tab1 impl_isBody.bits1 (fun HT_ HW_ => ?_)
    generalize w6.drew = w7 at BK239 HB hHeld ⊢
    refine tk_ 0 3 (bs 10 1) HT_ HW_ hHeld au8_5 ?_ rfl rfl
    refine one_ (i := 1) (N := some 4) (bs 10 3) rfl rfl (one_of HT_.out (by kernel_rfl)) (by decide) (fun K hK => ?_)
    refine gr_ Try.func49 #[.agg #[.string a0_0, .slice A0_1 l0_1.length c0_1]] (by rfl) ?_ rfl rfl rfl
    with_reducible refine (impl_SegmentRight.calls k a0_0 _ _ l0_1 true _ ?side1 ?side2 A2.out).mono ?_
    (case side1 => exact au8_1)
    (case side2 => exact HC0_1.out)
    rintro e w8 ⟨rfl, hb⟩
    refine ⟨_, rfl, ?_⟩
    have n0_ := Aside0.mk (blkb_ BK239 hb)
    have n1_ := Aside0.mk (below_step bl_ hb)
    clear BK239
    clear HB
    have BK239 := n0_
    have HB := n1_
    clear n0_ n1_
    (try clear hb)
    (try clear hb2)
    (try clear hk)
    (try clear hi)
    refine hK.out _ _ ⟨(blk_cell BK239.out 0).trans rfl, (blk_cell BK239.out 1).trans rfl⟩ (fun hHeld => ?_)
    clear hK K
    refine norm_ (a' := ?_) ?_ ?_
    rotate_left
    · show Act.put _ (some 4) _ = _
      simp only [Act.put, List.setIfInBounds_toArray, List.set_cons_zero, List.set_cons_succ, i64_w, i32_w]
      rfl
    refine pu_ 2 5 (bs 10 7) HT_ ?_ rfl rfl
    refine pu_ 4 7 (bs 10 23) HT_ ?_ rfl rfl
    refine tk_ 5 8 (bs 10 55) HT_ HW_ hHeld au8_5 ?_ rfl rfl
    refine one_ (i := 3) (N := some 6) (bs 10 63) rfl rfl (one_of HT_.out (by kernel_rfl)) (by decide) (fun K hK => ?_)
    refine gr_ Try.func125 #[] (by rfl) ?_ rfl rfl rfl
    with_reducible refine (impl_tags.calls  t241 _ A4.out).mono ?_
    rintro e w9 ⟨v242, rfl, ho0, hb⟩
    refine ⟨_, rfl, ?_⟩
    have n0_ := Aside0.mk (Kd.R_lower ho0 (below_size bl_))
    have n1_ := Aside0.mk (blkb_ BK239 hb)
    have n2_ := Aside0.mk (below_step bl_ hb)
    clear BK239
    clear HB
    have HO243 := n0_
    have BK239 := n1_
    have HB := n2_
    clear n0_ n1_ n2_
    (try clear hb)
    (try clear hb2)
    (try clear hk)
    (try clear hi)
    (try clear ho0)
    obtain ⟨Ao10, co10, eo10⟩ := Kd.R_slice HO243.out
    (first | subst eo10 | (injection eo10 with f1_ f2_ f3_; have f4_ := f1_.symm; have f5_ := f3_.symm; clear f1_ f2_ f3_; subst f4_; subst f5_))
    refine hK.out _ _ ⟨(blk_cell BK239.out 0).trans rfl, (blk_cell BK239.out 1).trans rfl⟩ (fun hHeld => ?_)
    clear hK K
    refine norm_ (a' := ?_) ?_ ?_
    rotate_left
    · show Act.put _ (some 6) _ = _
      simp only [Act.put, List.setIfInBounds_toArray, List.set_cons_zero, List.set_cons_succ, i64_w, i32_w]
      rfl
    refine one_ (i := 6) (N := some 9) (bs 10 127) rfl rfl (one_of HT_.out (by kernel_rfl)) (by decide) (fun K hK => ?_)
    refine gr_ Try.func124 #[.slice Ao10 t241.length co10, .string a0_0] (by rfl) ?_ rfl rfl rfl
    with_reducible refine (slices_Contains_string_string.calls k _ _ t241 a0_0 t244 _ ?side1 ?side2 A5.out).mono ?_
    (case side1 => repeat (first | exact (Kd.R_reads' HO243.out).2.2 | (with_reducible refine Kd.C_alloc ?_ _) | (with_reducible refine Kd.C_drewN ?_ _) | (with_reducible refine Kd.C_drew ?_)))
    (case side2 => exact (Kd.R_reads' HO243.out).2.1)
    rintro e w' ⟨rfl, ⟨nd, rfl⟩⟩
    refine ⟨_, rfl, ?_⟩
    refine hK.out _ _ ⟨(blk_cell BK239.out 0).trans rfl, (blk_cell BK239.out 1).trans rfl⟩ (fun hHeld => ?_)
    clear hK K
    refine norm_ (a' := ?_) ?_ ?_
    rotate_left
    · show Act.put _ (some 9) _ = _
      simp only [Act.put, List.setIfInBounds_toArray, List.set_cons_zero, List.set_cons_succ, i64_w, i32_w]
      rfl
    refine pu_ 7 10 (bs 10 255) HT_ ?_ rfl rfl
    refine pu_ 8 11 (bs 10 511) HT_ ?_ rfl rfl
    refine pu_ 9 2 (bs 10 1023) HT_ ?_ rfl rfl
    refine done_ (done_of HT_.out (by kernel_rfl)) ?_
    try go_wp2
    go_ret
    exact ⟨au8_0, bl_⟩
  · replace c3 := Bool.eq_false_iff.mpr c3
    subst c3
    have H1 : (some false) = some r := by rw [if_neg (show ¬ (false = true) by decide)] at H; exact H
    clear H
    have H := H1
    clear H1
    obtain rfl := Option.some.inj H
    go_enter Try.func117, Try.ntmps117
    try go_wp2_with (first | ((with_reducible refine gate_dst (N := 1) rfl ?_); refine box_event ?hg (N := 1) ?hd (cs := #[.string a0_0, .slice A0_1 l0_1.length c0_1]) (t := 88) ?hr ?_; (case hd => rfl); (case hg => rfl); (case hr => exact hr_); intro gb239 hg w11 hbox hb; have n0_ := Aside0.mk (below_step bl_ hb); have n1_ := Aside0.mk (hbox); have n2_ := Aside0.mk (gw_ hg bl_); have n3_ := Aside0.mk (gw_ hg bl_); clear HB; have HB := n0_; have BK239 := n1_; have GW239 := n2_; have GE239 := n3_; clear n0_ n1_ n2_ n3_; clear hb hbox hg))
    have n0_ := Aside0.mk (blk_drew BK239.out)
    have n1_ := Aside0.mk (below_drew1 HB.out)
    clear BK239
    clear HB
    have BK239 := n0_
    have HB := n1_
    clear n0_ n1_
    refine start_ (n := 10) (S := fun w' => w'.cell? ⟨gb239, 0, none⟩ = some (.string a0_0) ∧ w'.cell? ⟨gb239, 1, none⟩ = some (.slice A0_1 l0_1.length c0_1)) (ds := []) (bs 10 0) (by kernel_rfl) rfl rfl ⟨(blk_cell BK239.out 0).trans rfl, (blk_cell BK239.out 1).trans rfl⟩ (fun hHeld => ?_); refine with_tabW impl_isBody.tab1 impl_isBody.bits1 (fun HT_ HW_ => ?_)
    generalize w11.drew = w12 at BK239 HB hHeld ⊢
    refine tk_ 0 3 (bs 10 1) HT_ HW_ hHeld au8_5 ?_ rfl rfl
    refine one_ (i := 1) (N := some 4) (bs 10 3) rfl rfl (one_of HT_.out (by kernel_rfl)) (by decide) (fun K hK => ?_)
    refine gr_ Try.func49 #[.agg #[.string a0_0, .slice A0_1 l0_1.length c0_1]] (by rfl) ?_ rfl rfl rfl
    with_reducible refine (impl_SegmentRight.calls k a0_0 _ _ l0_1 false _ ?side1 ?side2 A2.out).mono ?_
    (case side1 => exact au8_1)
    (case side2 => exact HC0_1.out)
    rintro e w13 ⟨rfl, hb⟩
    refine ⟨_, rfl, ?_⟩
    have n0_ := Aside0.mk (blkb_ BK239 hb)
    have n1_ := Aside0.mk (below_step bl_ hb)
    clear BK239
    clear HB
    have BK239 := n0_
    have HB := n1_
    clear n0_ n1_
    (try clear hb)
    (try clear hb2)
    (try clear hk)
    (try clear hi)
    refine hK.out _ _ ⟨(blk_cell BK239.out 0).trans rfl, (blk_cell BK239.out 1).trans rfl⟩ (fun hHeld => ?_)
    clear hK K
    refine norm_ (a' := ?_) ?_ ?_
    rotate_left
    · show Act.put _ (some 4) _ = _
      simp only [Act.put, List.setIfInBounds_toArray, List.set_cons_zero, List.set_cons_succ, i64_w, i32_w]
      rfl
    refine pu_ 2 5 (bs 10 7) HT_ ?_ rfl rfl
    refine pv_ 3 6 (bs 10 15) HT_ ?_ rfl rfl
    refine pv_ 4 7 (bs 10 31) HT_ ?_ rfl rfl
    refine pv_ 5 8 (bs 10 63) HT_ ?_ rfl rfl
    refine pv_ 6 9 (bs 10 127) HT_ ?_ rfl rfl
    refine pv_ 7 10 (bs 10 255) HT_ ?_ rfl rfl
    refine pu_ 8 11 (bs 10 511) HT_ ?_ rfl rfl
    refine pu_ 9 2 (bs 10 1023) HT_ ?_ rfl rfl
    refine done_ (done_of HT_.out (by kernel_rfl)) ?_
    try go_wp2
    go_ret
    exact ⟨au8_0, bl_⟩

/-! ### impl_messageRight_1: function 116 -/
def impl_messageRight_1.f (k : Nat) (a0_0 : ByteArray) (l0_1 : List (S122)) : Option (Bool) := (impl_isBody.f k a0_0 l0_1).bind fun t246 => (some (!t246))
theorem impl_messageRight_1.mono : ∀ a0 a1 k, LeO (impl_messageRight_1.f k a0 a1) (impl_messageRight_1.f (k + 1) a0 a1) := by
  intro a0 a1 k
  unfold impl_messageRight_1.f
  repeat' first
      | (with_reducible exact impl_isBody.mono _ _ _)
      | (with_reducible exact LeO.refl _)
      | (with_reducible exact LeO.none _)
      | (with_reducible refine LeO.ite ?_ ?_)
      | (with_reducible refine LeO.bind ?_ (fun _ => ?_))
      | exact impl_isBody.mono _ _ _
      | exact LeO.none _
      | refine LeO.ite ?_ ?_
      | refine LeO.bind ?_ (fun _ => ?_)
set_option maxHeartbeats 8000000 in
set_option maxRecDepth 100000 in
theorem impl_messageRight_1.calls (k : Nat) (a0_0 : ByteArray) (A0_1 : Option Addr) (c0_1 : Nat) (l0_1 : List (S122)) (r : Bool) (w : World) (hr0_1 : Kd.C k122 w A0_1 l0_1.length l0_1) (hc0_1 : l0_1.length ≤ c0_1) (h : impl_messageRight_1.f k a0_0 l0_1 = some r) :
    Calls Try.prog 116 #[.agg #[.string a0_0, .slice A0_1 l0_1.length c0_1]] w fun e w' => e = .returned (.bool r) ∧ Below w.heap.size w w' := by
  have hu88 := Try.underlying88
  have HR0_1 := Aside0.mk hr0_1
  have HC0_1 := Aside0.mk hc0_1
  clear hr0_1 hc0_1
  have HB := Aside0.mk (Below.refl w.heap.size w)
  have H : ((impl_isBody.f k a0_0 l0_1).bind fun t246 => (some (!t246))) = some r := h
  clear h
  replace H := Option.bind_eq_some_iff.mp H
  obtain ⟨t246, A20, H⟩ := H
  replace H : (some (!t246)) = some r := H
  have A2 := Aside0.mk A20
  clear A20
  obtain rfl := Option.some.inj H
  go_enter Try.func116, Try.ntmps116
  go_wp2_with (first | ((with_reducible refine gate_dst (N := 1) rfl ?_); refine box_event ?hg (N := 1) ?hd (cs := #[.string a0_0, .slice A0_1 l0_1.length c0_1]) (t := 88) ?hr ?_; (case hd => rfl); (case hg => rfl); (case hr => exact hr_); intro gb245 hg w3 hbox hb; have n0_ := Aside0.mk (below_step bl_ hb); have n1_ := Aside0.mk (hbox); have n2_ := Aside0.mk (gw_ hg bl_); have n3_ := Aside0.mk (gw_ hg bl_); clear HB; have HB := n0_; have BK245 := n1_; have GW245 := n2_; have GE245 := n3_; clear n0_ n1_ n2_ n3_; clear hb hbox hg; obtain ⟨hcz4_0, hcz4_1, hfz4_0, hfz4_1⟩ := cellsF2 BK245.out) | ((with_reducible refine gate_callee (f := 117) rfl ?_); refine gl_ 4 Try.func117 #[.agg #[.string a0_0, .slice A0_1 l0_1.length c0_1]] ?_ rfl rfl rfl rfl; (with_reducible refine (impl_isBody.calls k a0_0 _ _ l0_1 t246 _ ?side1 ?side2 A2.out).mono ?_); (case side1 => exact au8_1); (case side2 => exact HC0_1.out); rintro e w5 ⟨rfl, hb⟩; refine ⟨_, rfl, ?_⟩; have n0_ := Aside0.mk (blkb_ BK245 hb); have n1_ := Aside0.mk (below_step bl_ hb); clear BK245; clear HB; have BK245 := n0_; have HB := n1_; clear n0_ n1_; (try clear hb); (try clear hb2); (try clear hk); (try clear hi)))
  go_ret
  exact ⟨au8_0, bl_⟩

end Go.Proofs.Ytlghcbmkhdibdaa.PFnExactIxRight
