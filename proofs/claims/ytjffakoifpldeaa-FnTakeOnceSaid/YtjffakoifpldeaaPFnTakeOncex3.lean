-- printed by a program of this session (wip/xp/xprint.py) out of the translation; Lean checks it
import Derived.Test.YtjffakoifpldeaaPFnTakeOncex0
import Derived.Test.YtjffakoifpldeaaPFnTakeOncex2
namespace Go.Proofs.Ytjffakoifpldeaa.PFnTakeOnce
open Go.RowKit Go.Proofs.YtjffakoifpldeaaW.PrintWords Go.Proofs.YtjffakoifpldeaaW.PrintLast Go.Proofs.YtjffakoifpldeaaW.PrintMore
attribute [local go_sem] max2_int min2_int max_two min_two max_three min_three max_four min_four   -- for this text's walks alone
set_option linter.unusedVariables false
set_option linter.unusedSimpArgs false

theorem au3_0 {p : Prop} (h : p := by (with_reducible repeat (first | refine blk_drewN ?_ _ | refine blk_drew ?_ | refine blk_alloc ?_ _)); refine blk_put (cs := #[.int .i64 ((rd_T62 l0_3 x8_1).f0), .int .i64 ((rd_T62 l0_3 x8_1).f1), .int .i64 0]) ?_ 2 _ rfl; (with_reducible repeat (first | refine blk_drewN ?_ _ | refine blk_drew ?_ | refine blk_alloc ?_ _)); refine blk_put (cs := #[.int .i64 ((rd_T62 l0_3 x8_1).f0), .int .i64 0, .int .i64 0]) ?_ 1 _ rfl; (with_reducible repeat (first | refine blk_drewN ?_ _ | refine blk_drew ?_ | refine blk_alloc ?_ _)); refine blk_put (cs := #[.int .i64 0, .int .i64 0, .int .i64 0]) ?_ 0 _ rfl; (with_reducible repeat (first | refine blk_drewN ?_ _ | refine blk_drew ?_ | refine blk_alloc ?_ _)); exact BK108.out) : p := h
theorem au3_1 {p : Prop} (h : p := by (with_reducible repeat (first | refine blk_drewN ?_ _ | refine blk_drew ?_ | refine blk_alloc ?_ _)); refine blk_far ?_ NB106_108.out _; (with_reducible repeat (first | refine blk_drewN ?_ _ | refine blk_drew ?_ | refine blk_alloc ?_ _)); refine blk_far ?_ NB106_108.out _; (with_reducible repeat (first | refine blk_drewN ?_ _ | refine blk_drew ?_ | refine blk_alloc ?_ _)); refine blk_far ?_ NB106_108.out _; (with_reducible repeat (first | refine blk_drewN ?_ _ | refine blk_drew ?_ | refine blk_alloc ?_ _)); exact BK106.out) : p := h
theorem au3_2 {p : Prop} (h : p := by rintro w' ⟨s0, s1, s2, s3, s4, s5, s6⟩; go_simp; with_reducible rfl) : p := h
theorem au3_3 {p : Prop} (h : p := by rintro w' ⟨s0, s1, s2, s3, s4, s5, s6, s7, s8, s9⟩; go_simp; with_reducible rfl) : p := h
theorem au3_4 {p : Prop} (h : p := by first | rfl | (simp [errW_none, errW_some] <;> rfl) | (simp [*, errW_none, errW_some] <;> rfl)) : p := h
theorem au3_5 {p : Prop} (h : p := by have := HK1.out; first | omega | exact Nat.le_refl _) : p := h

/-! ### impl_PartnerRight: function 52 -/
mutual
def impl_PartnerRight.l0 : Nat → List (S62) → Int → Int → ByteArray → Int → Int → List (S62) → Option (Bool)
  | 0, _, _, _, _, _, _, _ => none
  | k + 1, x6, x7, x8, x107000, x107001, x107002, x107003 => if x8 < x7 then (if 0 ≤ x8 then (if x8 < (x6.length : Int) then ((impl_within.f ((rd_T62 x6 x8).f0) x107001 999999).bind fun t109 => (if t109 = true then (if (wrap64 (((rd_T62 x6 x8).f0) - x107001)) ≥ 32 then (impl_PartnerRight.j1 k x6 x7 x8 true x107000 x107001 x107002 x107003) else ((impl_isControl.f ((rd_T62 x6 x8).f1)).bind fun t110 => (if t110 = true then ((impl_isCode.f ((rd_T62 x6 x8).f2)).bind fun t111 => (if t111 = true then (if x8 > 0 then (if 0 ≤ (wrap64 (x8 - 1)) then (if (wrap64 (x8 - 1)) < (x107003.length : Int) then (impl_PartnerRight.j1 k x6 x7 x8 (decide (((rd_T62 x6 x8).f0) ≤ ((rd_T62 x107003 (wrap64 (x8 - 1))).f0))) x107000 x107001 x107002 x107003) else (none)) else (none)) else (impl_PartnerRight.j1 k x6 x7 x8 false x107000 x107001 x107002 x107003)) else (impl_PartnerRight.j1 k x6 x7 x8 true x107000 x107001 x107002 x107003))) else (impl_PartnerRight.j1 k x6 x7 x8 true x107000 x107001 x107002 x107003)))) else (impl_PartnerRight.j1 k x6 x7 x8 true x107000 x107001 x107002 x107003))) else (none)) else (none)) else ((impl_isName.f k x107000).bind fun t113 => (if t113 = true then ((impl_isControl.f x107001).bind fun t114 => (if t114 = true then ((impl_isControl.f x107002).bind fun t115 => (some t115)) else (some false))) else (some false)))
def impl_PartnerRight.j1 : Nat → List (S62) → Int → Int → Bool → ByteArray → Int → Int → List (S62) → Option (Bool)
  | 0, _, _, _, _, _, _, _, _ => none
  | k + 1, x6, x7, x8, x54, x107000, x107001, x107002, x107003 => if x54 = true then (some false) else (impl_PartnerRight.l0 k x6 x7 (wrap64 (x8 + 1)) x107000 x107001 x107002 x107003)
end
def impl_PartnerRight.f (k : Nat) (a0_0 : ByteArray) (a0_1 : Int) (a0_2 : Int) (l0_3 : List (S62)) : Option (Bool) := impl_PartnerRight.l0 k l0_3 (l0_3.length : Int) 0 a0_0 a0_1 a0_2 l0_3
theorem impl_PartnerRight.mono_l : ∀ k, (∀ y0 y1 y2 y3 y4 y5 y6, LeO (impl_PartnerRight.l0 k y0 y1 y2 y3 y4 y5 y6) (impl_PartnerRight.l0 (k + 1) y0 y1 y2 y3 y4 y5 y6)) ∧ (∀ y0 y1 y2 y3 y4 y5 y6 y7, LeO (impl_PartnerRight.j1 k y0 y1 y2 y3 y4 y5 y6 y7) (impl_PartnerRight.j1 (k + 1) y0 y1 y2 y3 y4 y5 y6 y7))
  | 0 => ⟨fun _ _ _ _ _ _ _ r h => by simp [impl_PartnerRight.l0] at h, fun _ _ _ _ _ _ _ _ r h => by simp [impl_PartnerRight.j1] at h⟩
  | k + 1 => by
    obtain ⟨ih0, ih1⟩ := impl_PartnerRight.mono_l k
    refine ⟨?_, ?_⟩
    · intro y0 y1 y2 y3 y4 y5 y6
      unfold impl_PartnerRight.l0
      repeat' first
      | (with_reducible exact ih0 _ _ _ _ _ _ _)
      | (with_reducible exact ih1 _ _ _ _ _ _ _ _)
      | (with_reducible exact impl_isName.mono _ _)
      | (with_reducible exact LeO.refl _)
      | (with_reducible exact LeO.none _)
      | (with_reducible refine LeO.ite ?_ ?_)
      | (with_reducible refine LeO.bind ?_ (fun _ => ?_))
      | exact ih0 _ _ _ _ _ _ _
      | exact ih1 _ _ _ _ _ _ _ _
      | exact impl_isName.mono _ _
      | exact LeO.none _
      | refine LeO.ite ?_ ?_
      | refine LeO.bind ?_ (fun _ => ?_)
    · intro y0 y1 y2 y3 y4 y5 y6 y7
      unfold impl_PartnerRight.j1
      repeat' first
      | (with_reducible exact ih0 _ _ _ _ _ _ _)
      | (with_reducible exact ih1 _ _ _ _ _ _ _ _)
      | (with_reducible exact impl_isName.mono _ _)
      | (with_reducible exact LeO.refl _)
      | (with_reducible exact LeO.none _)
      | (with_reducible refine LeO.ite ?_ ?_)
      | (with_reducible refine LeO.bind ?_ (fun _ => ?_))
      | exact ih0 _ _ _ _ _ _ _
      | exact ih1 _ _ _ _ _ _ _ _
      | exact impl_isName.mono _ _
      | exact LeO.none _
      | refine LeO.ite ?_ ?_
      | refine LeO.bind ?_ (fun _ => ?_)
theorem impl_PartnerRight.mono : ∀ a0 a1 a2 a3 k, LeO (impl_PartnerRight.f k a0 a1 a2 a3) (impl_PartnerRight.f (k + 1) a0 a1 a2 a3) := by
  intro a0 a1 a2 a3 k
  obtain ⟨ih0, ih1⟩ := impl_PartnerRight.mono_l k
  unfold impl_PartnerRight.f
  repeat' first
      | (with_reducible exact ih0 _ _ _ _ _ _ _)
      | (with_reducible exact ih1 _ _ _ _ _ _ _ _)
      | (with_reducible exact impl_isName.mono _ _)
      | (with_reducible exact LeO.refl _)
      | (with_reducible exact LeO.none _)
      | (with_reducible refine LeO.ite ?_ ?_)
      | (with_reducible refine LeO.bind ?_ (fun _ => ?_))
      | exact ih0 _ _ _ _ _ _ _
      | exact ih1 _ _ _ _ _ _ _ _
      | exact impl_isName.mono _ _
      | exact LeO.none _
      | refine LeO.ite ?_ ?_
      | refine LeO.bind ?_ (fun _ => ?_)
def impl_PartnerRight.T4 : Bool × List (List Nat × List Nat) := (true, [([], []), ([0], [0]), ([], []), ([2], [2]), ([1, 3], [1, 3]), ([4], [4]), ([5, 4], [5]), ([6], [6]), ([7, 6], [6, 7]), ([6], [6]), ([9, 6], [6, 9]), ([8, 10, 6], [6, 8, 10]), ([11, 6], [6, 11]), ([6, 12], [6, 12]), ([13, 6], [13]), ([14], [14]), ([15, 14], [14, 15]), ([16, 14, 14], [14, 16]), ([17, 14], [14, 17]), ([14, 18], [14, 18]), ([19, 17], [19]), ([20], [20]), ([21, 20], [20, 21]), ([22, 20, 20], [20, 22]), ([23, 20], [20, 23]), ([20, 24], [20, 24]), ([25, 23], [25]), ([26], [26]), ([27, 26], [26, 27]), ([28, 26, 26], [26, 28]), ([29], [29]), ([30, 29], [29, 30]), ([29], [29]), ([32, 29], [29, 32]), ([29], [29]), ([34, 29], [29, 34]), ([33, 35, 29], [29, 33, 35]), ([36, 29], [29, 36]), ([37, 29], [29, 37]), ([31, 38, 29], [29, 31, 38]), ([29, 39, 26], [26, 29, 39]), ([26, 40], [26, 40])])
def impl_PartnerRight.B4 : List Nat := [0, 1, 0, 4, 15, 31, 63, 127, 255, 127, 639, 2047, 4095, 8191, 16383, 32767, 65535, 131071, 262143, 524287, 1048575, 2097151, 4194303, 8388607, 16777215, 33554431, 67108863, 134217727, 268435455, 536870911, 1073741823, 2147483647, 1073741823, 5368709119, 1073741823, 18253611007, 65498251263, 134217727999, 271656681471, 549755813887, 1099511627775, 2199023255551]
theorem impl_PartnerRight.tab4 : rtab .any (opsOf Try.f52 4) = impl_PartnerRight.T4 := by kernel_rfl
theorem impl_PartnerRight.bits4 : waitsOk impl_PartnerRight.T4.2 impl_PartnerRight.B4 = true := by kernel_rfl
set_option maxHeartbeats 8000000 in
set_option maxRecDepth 100000 in
theorem impl_PartnerRight.calls (k : Nat) (a0_0 : ByteArray) (a0_1 : Int) (a0_2 : Int) (A0_3 : Option Addr) (c0_3 : Nat) (l0_3 : List (S62)) (r : Bool) (w : World) (hr0_3 : Kd.C k62 w A0_3 l0_3.length l0_3) (hc0_3 : l0_3.length ≤ c0_3) (h : impl_PartnerRight.f k a0_0 a0_1 a0_2 l0_3 = some r) :
    Calls Try.prog 52 #[.agg #[.string a0_0, .int .i64 a0_1, .int .i64 a0_2, .slice A0_3 l0_3.length c0_3]] w fun e w' => e = .returned (.bool r) ∧ Below w.heap.size w w' := by
  have hu51 := Try.underlying51
  have hu62 := Try.underlying62
  have HR0_3 := Aside0.mk hr0_3
  have HC0_3 := Aside0.mk hc0_3
  clear hr0_3 hc0_3
  have HB := Aside0.mk (Below.refl w.heap.size w)
  have H : (impl_PartnerRight.l0 k l0_3 (l0_3.length : Int) 0 a0_0 a0_1 a0_2 l0_3) = some r := h
  clear h
  have H' := Aside0.mk H
  clear H
  go_enter Try.func52, Try.ntmps52
  go_wp2_with (first | ((with_reducible refine gate_dst (N := 1) rfl ?_); refine box_event ?hg (N := 1) ?hd (cs := #[.string a0_0, .int .i64 a0_1, .int .i64 a0_2, .slice A0_3 l0_3.length c0_3]) (t := 51) ?hr ?_; (case hd => rfl); (case hg => rfl); (case hr => exact hr_); intro gb106 hg w2 hbox hb; have n0_ := Aside0.mk (below_step bl_ hb); have n1_ := Aside0.mk (hbox); have n2_ := Aside0.mk (gw_ hg bl_); have n3_ := Aside0.mk (gw_ hg bl_); clear HB; have HB := n0_; have BK106 := n1_; have GW106 := n2_; have GE106 := n3_; clear n0_ n1_ n2_ n3_; clear hb hbox hg; obtain ⟨hcz3_0, hcz3_1, hcz3_2, hcz3_3, hfz3_0, hfz3_1, hfz3_2, hfz3_3⟩ := cellsF4 BK106.out))
  go_loopg [8] k (fun kq v8 w' => ∃ (x8_1 : Int), v8 = .int .i64 x8_1 ∧ Aside0 (impl_PartnerRight.l0 kq l0_3 (l0_3.length : Int) x8_1 a0_0 a0_1 a0_2 l0_3 = some r) ∧ Aside0 (kq ≤ k) ∧ Aside0 (w'.heap[gb106]? = some (.cells #[.string a0_0, .int .i64 a0_1, .int .i64 a0_2, (.slice A0_3 l0_3.length c0_3)] 51 (0, 0))) ∧ Aside0 (Below w.heap.size w w'))
  case atStart => exact ⟨(0), er_, H', ⟨Nat.le_refl _⟩, ⟨bk_ BK106⟩, ⟨bl_⟩⟩
  case round =>
    clear H'
    try clear p2
    try clear hcz3_0
    try clear hcz3_1
    try clear hcz3_2
    try clear hcz3_3
    try clear hfz3_0
    try clear hfz3_1
    try clear hfz3_2
    try clear hfz3_3
    obtain ⟨x8_1, rfl, HA, HK1, BK106, HB⟩ := hrel
    cases gk with
    | zero => exact absurd HA.out (by simp [impl_PartnerRight.l0])
    | succ k1 =>
      have H := HA.out
      clear HA
      simp only [impl_PartnerRight.l0] at H
      by_cases c4 : x8_1 < (l0_3.length : Int)
      · rw [if_pos c4] at H
        have c4b0 : decide (x8_1 < (l0_3.length : Int)) = true := decide_eq_true c4
        clear c4
        by_cases c5 : 0 ≤ x8_1
        · rw [if_pos c5] at H
          have c5b0 : decide (0 ≤ x8_1) = true := decide_eq_true c5
          clear c5
          by_cases c6 : x8_1 < (l0_3.length : Int)
          · rw [if_pos c6] at H
            have c6b0 : decide (x8_1 < (l0_3.length : Int)) = true := decide_eq_true c6
            clear c6
            have HC7 := Aside0.mk H
            clear H
            have p107 : 0 ≤ (x8_1 : Int) := of_decide_eq_true as_
            have q107 : x8_1 < (l0_3.length : Int) := of_decide_eq_true as_
            obtain ⟨ad107, e107, hx107_0, hx107_1, hx107_2⟩ := at_T62 HR0_3.out x8_1 p107 q107
            cases e107
            replace hx107_0 := (HB.out.cell (World.block_lt_of_cell? _ _ hx107_0)).trans hx107_0
            replace hx107_1 := (HB.out.cell (World.block_lt_of_cell? _ _ hx107_1)).trans hx107_1
            replace hx107_2 := (HB.out.cell (World.block_lt_of_cell? _ _ hx107_2)).trans hx107_2
            replace p107 := eq_true p107
            replace q107 := eq_true q107
            go_upto_region 4 with (first | ((with_reducible refine gate_dst (N := 4) rfl ?_); refine box_event ?hg (N := 4) ?hd (cs := #[.int .i64 0, .int .i64 0, .int .i64 0]) (t := 62) ?hr ?_; (case hd => rfl); (case hg => rfl); (case hr => exact hr_); intro gb108 hg w8 hbox hb; have n0_ := Aside0.mk (blkb_ BK106 hb); have n1_ := Aside0.mk (below_step bl_ hb); have n2_ := Aside0.mk (hbox); have n3_ := Aside0.mk (gw_ hg bl_); have n4_ := Aside0.mk (gw_ hg bl_); have n5_ := Aside0.mk (gn_ hg (blkl_ BK106)); have n6_ := Aside0.mk (gm_ hg (blkl_ BK106)); clear BK106; clear HB; have BK106 := n0_; have HB := n1_; have BK108 := n2_; have GW108 := n3_; have GE108 := n4_; have NB106_108 := n5_; have NB108_106 := n6_; clear n0_ n1_ n2_ n3_ n4_ n5_ n6_; clear hb hbox hg; have hnb9 := NB108_106.out; have hnc9 := NB106_108.out; obtain ⟨hcz10_0, hcz10_1, hcz10_2, hfz10_0, hfz10_1, hfz10_2⟩ := cellsF3 BK108.out))
            (try simp only [Act.put, List.setIfInBounds_toArray, List.set_cons_zero, List.set_cons_succ])
            go_cut [54] (fun v54 wc => ∃ (kq : Nat) (x54_6 : Bool), v54 = .bool x54_6 ∧ Aside0 (impl_PartnerRight.j1 kq l0_3 (l0_3.length : Int) x8_1 x54_6 a0_0 a0_1 a0_2 l0_3 = some r) ∧ Aside0 (kq ≤ k1) ∧ Aside0 (wc.heap[gb106]? = some (.cells #[.string a0_0, .int .i64 a0_1, .int .i64 a0_2, (.slice (some ad107) l0_3.length c0_3)] 51 (0, 0))) ∧ Aside0 (wc.heap[gb108]? = some (.cells #[.int .i64 ((rd_T62 l0_3 x8_1).f0), .int .i64 ((rd_T62 l0_3 x8_1).f1), .int .i64 ((rd_T62 l0_3 x8_1).f2)] 62 (0, 0))) ∧ Aside0 (Below w.heap.size w wc))
            case first =>
              have H := HC7.out
              clear HC7
              replace H := Option.bind_eq_some_iff.mp H
              obtain ⟨t109, A110, H⟩ := H
              replace H : (if t109 = true then (if (wrap64 (((rd_T62 l0_3 x8_1).f0) - a0_1)) ≥ 32 then (impl_PartnerRight.j1 k1 l0_3 (l0_3.length : Int) x8_1 true a0_0 a0_1 a0_2 l0_3) else ((impl_isControl.f ((rd_T62 l0_3 x8_1).f1)).bind fun t110 => (if t110 = true then ((impl_isCode.f ((rd_T62 l0_3 x8_1).f2)).bind fun t111 => (if t111 = true then (if x8_1 > 0 then (if 0 ≤ (wrap64 (x8_1 - 1)) then (if (wrap64 (x8_1 - 1)) < (l0_3.length : Int) then (impl_PartnerRight.j1 k1 l0_3 (l0_3.length : Int) x8_1 (decide (((rd_T62 l0_3 x8_1).f0) ≤ ((rd_T62 l0_3 (wrap64 (x8_1 - 1))).f0))) a0_0 a0_1 a0_2 l0_3) else (none)) else (none)) else (impl_PartnerRight.j1 k1 l0_3 (l0_3.length : Int) x8_1 false a0_0 a0_1 a0_2 l0_3)) else (impl_PartnerRight.j1 k1 l0_3 (l0_3.length : Int) x8_1 true a0_0 a0_1 a0_2 l0_3))) else (impl_PartnerRight.j1 k1 l0_3 (l0_3.length : Int) x8_1 true a0_0 a0_1 a0_2 l0_3)))) else (impl_PartnerRight.j1 k1 l0_3 (l0_3.length : Int) x8_1 true a0_0 a0_1 a0_2 l0_3)) = some r := H
              have A11 := Aside0.mk A110
              clear A110
              by_cases c12 : t109 = true
              · subst c12
                have H1 : (if (wrap64 (((rd_T62 l0_3 x8_1).f0) - a0_1)) ≥ 32 then (impl_PartnerRight.j1 k1 l0_3 (l0_3.length : Int) x8_1 true a0_0 a0_1 a0_2 l0_3) else ((impl_isControl.f ((rd_T62 l0_3 x8_1).f1)).bind fun t110 => (if t110 = true then ((impl_isCode.f ((rd_T62 l0_3 x8_1).f2)).bind fun t111 => (if t111 = true then (if x8_1 > 0 then (if 0 ≤ (wrap64 (x8_1 - 1)) then (if (wrap64 (x8_1 - 1)) < (l0_3.length : Int) then (impl_PartnerRight.j1 k1 l0_3 (l0_3.length : Int) x8_1 (decide (((rd_T62 l0_3 x8_1).f0) ≤ ((rd_T62 l0_3 (wrap64 (x8_1 - 1))).f0))) a0_0 a0_1 a0_2 l0_3) else (none)) else (none)) else (impl_PartnerRight.j1 k1 l0_3 (l0_3.length : Int) x8_1 false a0_0 a0_1 a0_2 l0_3)) else (impl_PartnerRight.j1 k1 l0_3 (l0_3.length : Int) x8_1 true a0_0 a0_1 a0_2 l0_3))) else (impl_PartnerRight.j1 k1 l0_3 (l0_3.length : Int) x8_1 true a0_0 a0_1 a0_2 l0_3)))) = some r := by rw [if_pos rfl] at H; exact H
                clear H
                have H := H1
                clear H1
                by_cases c13 : (wrap64 (((rd_T62 l0_3 x8_1).f0) - a0_1)) ≥ 32
                · rw [if_pos c13] at H
                  have c13b0 : decide (32 ≤ (wrap64 (((rd_T62 l0_3 x8_1).f0) - a0_1))) = true := decide_eq_true c13
                  clear c13
                  (first | rw [c13b0] | (simp only [i64_w, i32_w]; rw [c13b0]) | skip)
                  have H' := Aside0.mk H
                  clear H
                  try go_wp2
                  have n0_ : Aside0 ((((w8.setCell ⟨gb108, 0, none⟩ (.int .i64 ((rd_T62 l0_3 x8_1).f0))).setCell ⟨gb108, 1, none⟩ (.int .i64 ((rd_T62 l0_3 x8_1).f1))).setCell ⟨gb108, 2, none⟩ (.int .i64 ((rd_T62 l0_3 x8_1).f2))).heap[gb106]? = some (.cells #[.string a0_0, .int .i64 a0_1, .int .i64 a0_2, .slice (some ad107) l0_3.length c0_3] 51 (0, 0))) := ⟨au3_1⟩
                  have n1_ : Aside0 ((((w8.setCell ⟨gb108, 0, none⟩ (.int .i64 ((rd_T62 l0_3 x8_1).f0))).setCell ⟨gb108, 1, none⟩ (.int .i64 ((rd_T62 l0_3 x8_1).f1))).setCell ⟨gb108, 2, none⟩ (.int .i64 ((rd_T62 l0_3 x8_1).f2))).heap[gb108]? = some (.cells #[.int .i64 ((rd_T62 l0_3 x8_1).f0), .int .i64 ((rd_T62 l0_3 x8_1).f1), .int .i64 ((rd_T62 l0_3 x8_1).f2)] 62 (0, 0))) := ⟨au3_0⟩
                  have n2_ : Aside0 (Below w.heap.size w (((w8.setCell ⟨gb108, 0, none⟩ (.int .i64 ((rd_T62 l0_3 x8_1).f0))).setCell ⟨gb108, 1, none⟩ (.int .i64 ((rd_T62 l0_3 x8_1).f1))).setCell ⟨gb108, 2, none⟩ (.int .i64 ((rd_T62 l0_3 x8_1).f2)))) := ⟨bl_⟩
                  (try clear BK106)
                  (try clear BK108)
                  (try clear HB)
                  generalize (((w8.setCell ⟨gb108, 0, none⟩ (.int .i64 ((rd_T62 l0_3 x8_1).f0))).setCell ⟨gb108, 1, none⟩ (.int .i64 ((rd_T62 l0_3 x8_1).f1))).setCell ⟨gb108, 2, none⟩ (.int .i64 ((rd_T62 l0_3 x8_1).f2))) = w14 at n0_ n1_ n2_ ⊢
                  have BK106 := n0_
                  have BK108 := n1_
                  have HB := n2_
                  clear n0_ n1_ n2_
                  have n0_ := Aside0.mk (blk_drew BK106.out)
                  have n1_ := Aside0.mk (blk_drew BK108.out)
                  have n2_ := Aside0.mk (below_drew1 HB.out)
                  clear BK106
                  clear BK108
                  clear HB
                  have BK106 := n0_
                  have BK108 := n1_
                  have HB := n2_
                  clear n0_ n1_ n2_
                  refine start_ (n := 42) (S := fun w' => w'.cell? ⟨gb108, 0, none⟩ = some (.int .i64 ((rd_T62 l0_3 x8_1).f0)) ∧ w'.cell? ⟨gb108, 1, none⟩ = some (.int .i64 ((rd_T62 l0_3 x8_1).f1)) ∧ w'.cell? ⟨gb108, 2, none⟩ = some (.int .i64 ((rd_T62 l0_3 x8_1).f2)) ∧ w'.cell? ⟨gb106, 0, none⟩ = some (.string a0_0) ∧ w'.cell? ⟨gb106, 1, none⟩ = some (.int .i64 a0_1) ∧ w'.cell? ⟨gb106, 2, none⟩ = some (.int .i64 a0_2) ∧ w'.cell? ⟨gb106, 3, none⟩ = some (.slice (some ad107) l0_3.length c0_3)) (ds := []) (bs 42 0) (by kernel_rfl) rfl rfl ⟨(blk_cell BK108.out 0).trans rfl, (blk_cell BK108.out 1).trans rfl, (blk_cell BK108.out 2).trans rfl, (blk_cell BK106.out 0).trans rfl, (blk_cell BK106.out 1).trans rfl, (blk_cell BK106.out 2).trans rfl, (blk_cell BK106.out 3).trans rfl⟩ (fun hHeld => ?_); refine with_tabW impl_PartnerRight.tab4 impl_PartnerRight.bits4 (fun HT_ HW_ => ?_)
                  generalize w14.drew = w15 at BK106 BK108 HB hHeld ⊢
                  refine pu_ 0 13 (bs 42 1) HT_ ?_ rfl rfl
                  refine pu_ 2 15 (bs 42 5) HT_ ?_ rfl rfl
                  refine tk_ 1 14 (bs 42 7) HT_ HW_ hHeld au3_2 ?_ rfl rfl
                  refine tk_ 3 16 (bs 42 15) HT_ HW_ hHeld au3_2 ?_ rfl rfl
                  refine one_ (i := 4) (N := some 17) (bs 42 31) rfl rfl (one_of HT_.out (by kernel_rfl)) (by decide) (fun K hK => ?_)
                  refine gr_ Try.func102 #[.int .i64 ((rd_T62 l0_3 x8_1).f0), .int .i64 a0_1, .int .i64 999999] (by rfl) ?_ rfl rfl rfl
                  with_reducible refine (impl_within.calls ((rd_T62 l0_3 x8_1).f0) a0_1 999999 true _ A11.out).mono ?_
                  rintro e w' ⟨rfl, ⟨nd, rfl⟩⟩
                  refine ⟨_, rfl, ?_⟩
                  refine hK.out _ _ ⟨(blk_cell BK108.out 0).trans rfl, (blk_cell BK108.out 1).trans rfl, (blk_cell BK108.out 2).trans rfl, (blk_cell BK106.out 0).trans rfl, (blk_cell BK106.out 1).trans rfl, (blk_cell BK106.out 2).trans rfl, (blk_cell BK106.out 3).trans rfl⟩ (fun hHeld => ?_)
                  clear hK K
                  refine norm_ (a' := ?_) ?_ ?_
                  rotate_left
                  · show Act.put _ (some 17) _ = _
                    simp only [Act.put, List.setIfInBounds_toArray, List.set_cons_zero, List.set_cons_succ, i64_w, i32_w]
                    rfl
                  refine pu_ 5 18 (bs 42 63) HT_ ?_ rfl rfl
                  refine pu_ 6 19 (bs 42 127) HT_ ?_ rfl rfl
                  refine pu_ 7 20 (bs 42 255) HT_ ?_ rfl rfl
                  refine pu_ 9 22 (bs 42 767) HT_ ?_ rfl rfl
                  refine tk_ 8 21 (bs 42 1023) HT_ HW_ hHeld au3_2 ?_ rfl rfl
                  refine tk_ 10 23 (bs 42 2047) HT_ HW_ hHeld au3_2 ?_ rfl rfl
                  refine pu_ 11 24 (bs 42 4095) HT_ ?_ rfl rfl
                  refine pu_ 12 25 (bs 42 8191) HT_ ?_ rfl rfl
                  refine pu_ 13 26 (bs 42 16383) HT_ ?_ rfl rfl
                  refine pu_ 14 27 (bs 42 32767) HT_ ?_ rfl rfl
                  refine pv_ 15 28 (bs 42 65535) HT_ ?_ rfl rfl
                  refine pv_ 16 29 (bs 42 131071) HT_ ?_ rfl rfl
                  refine pv_ 17 30 (bs 42 262143) HT_ ?_ rfl rfl
                  refine pv_ 18 31 (bs 42 524287) HT_ ?_ rfl rfl
                  refine pu_ 19 32 (bs 42 1048575) HT_ ?_ rfl rfl
                  refine pu_ 20 33 (bs 42 2097151) HT_ ?_ rfl rfl
                  refine pv_ 21 34 (bs 42 4194303) HT_ ?_ rfl rfl
                  refine pv_ 22 35 (bs 42 8388607) HT_ ?_ rfl rfl
                  refine pv_ 23 36 (bs 42 16777215) HT_ ?_ rfl rfl
                  refine pv_ 24 37 (bs 42 33554431) HT_ ?_ rfl rfl
                  refine pu_ 25 38 (bs 42 67108863) HT_ ?_ rfl rfl
                  refine pu_ 26 39 (bs 42 134217727) HT_ ?_ rfl rfl
                  refine pv_ 27 40 (bs 42 268435455) HT_ ?_ rfl rfl
                  refine pv_ 28 41 (bs 42 536870911) HT_ ?_ rfl rfl
                  refine pv_ 29 42 (bs 42 1073741823) HT_ ?_ rfl rfl
                  refine pv_ 30 43 (bs 42 2147483647) HT_ ?_ rfl rfl
                  refine pv_ 31 44 (bs 42 4294967295) HT_ ?_ rfl rfl
                  refine pv_ 32 45 (bs 42 8589934591) HT_ ?_ rfl rfl
                  refine pv_ 33 46 (bs 42 17179869183) HT_ ?_ rfl rfl
                  refine pv_ 34 47 (bs 42 34359738367) HT_ ?_ rfl rfl
                  refine pv_ 35 48 (bs 42 68719476735) HT_ ?_ rfl rfl
                  refine pv_ 36 49 (bs 42 137438953471) HT_ ?_ rfl rfl
                  refine pv_ 37 50 (bs 42 274877906943) HT_ ?_ rfl rfl
                  refine pv_ 38 51 (bs 42 549755813887) HT_ ?_ rfl rfl
                  refine pv_ 39 52 (bs 42 1099511627775) HT_ ?_ rfl rfl
                  refine pv_ 40 53 (bs 42 2199023255551) HT_ ?_ rfl rfl
                  refine pu_ 41 54 (bs 42 4398046511103) HT_ ?_ rfl rfl
                  refine done_ (done_of HT_.out (by kernel_rfl)) ?_
                  try go_wp2
                  go_meet
                  case rel => exact ⟨_, (true), er_, H', ⟨au3_5⟩, ⟨bk_ BK106⟩, ⟨bk_ BK108⟩, ⟨bl_⟩⟩
                · rw [if_neg c13] at H
                  have c13b0 : decide (32 ≤ (wrap64 (((rd_T62 l0_3 x8_1).f0) - a0_1))) = false := decide_eq_false c13
                  clear c13
                  (first | rw [c13b0] | (simp only [i64_w, i32_w]; rw [c13b0]) | skip)
                  replace H := Option.bind_eq_some_iff.mp H
                  obtain ⟨t110, A160, H⟩ := H
                  replace H : (if t110 = true then ((impl_isCode.f ((rd_T62 l0_3 x8_1).f2)).bind fun t111 => (if t111 = true then (if x8_1 > 0 then (if 0 ≤ (wrap64 (x8_1 - 1)) then (if (wrap64 (x8_1 - 1)) < (l0_3.length : Int) then (impl_PartnerRight.j1 k1 l0_3 (l0_3.length : Int) x8_1 (decide (((rd_T62 l0_3 x8_1).f0) ≤ ((rd_T62 l0_3 (wrap64 (x8_1 - 1))).f0))) a0_0 a0_1 a0_2 l0_3) else (none)) else (none)) else (impl_PartnerRight.j1 k1 l0_3 (l0_3.length : Int) x8_1 false a0_0 a0_1 a0_2 l0_3)) else (impl_PartnerRight.j1 k1 l0_3 (l0_3.length : Int) x8_1 true a0_0 a0_1 a0_2 l0_3))) else (impl_PartnerRight.j1 k1 l0_3 (l0_3.length : Int) x8_1 true a0_0 a0_1 a0_2 l0_3)) = some r := H
                  have A16 := Aside0.mk A160
                  clear A160
                  by_cases c17 : t110 = true
                  · subst c17
                    have H1 : ((impl_isCode.f ((rd_T62 l0_3 x8_1).f2)).bind fun t111 => (if t111 = true then (if x8_1 > 0 then (if 0 ≤ (wrap64 (x8_1 - 1)) then (if (wrap64 (x8_1 - 1)) < (l0_3.length : Int) then (impl_PartnerRight.j1 k1 l0_3 (l0_3.length : Int) x8_1 (decide (((rd_T62 l0_3 x8_1).f0) ≤ ((rd_T62 l0_3 (wrap64 (x8_1 - 1))).f0))) a0_0 a0_1 a0_2 l0_3) else (none)) else (none)) else (impl_PartnerRight.j1 k1 l0_3 (l0_3.length : Int) x8_1 false a0_0 a0_1 a0_2 l0_3)) else (impl_PartnerRight.j1 k1 l0_3 (l0_3.length : Int) x8_1 true a0_0 a0_1 a0_2 l0_3))) = some r := by rw [if_pos rfl] at H; exact H
                    clear H
                    have H := H1
                    clear H1
                    replace H := Option.bind_eq_some_iff.mp H
                    obtain ⟨t111, A180, H⟩ := H
                    replace H : (if t111 = true then (if x8_1 > 0 then (if 0 ≤ (wrap64 (x8_1 - 1)) then (if (wrap64 (x8_1 - 1)) < (l0_3.length : Int) then (impl_PartnerRight.j1 k1 l0_3 (l0_3.length : Int) x8_1 (decide (((rd_T62 l0_3 x8_1).f0) ≤ ((rd_T62 l0_3 (wrap64 (x8_1 - 1))).f0))) a0_0 a0_1 a0_2 l0_3) else (none)) else (none)) else (impl_PartnerRight.j1 k1 l0_3 (l0_3.length : Int) x8_1 false a0_0 a0_1 a0_2 l0_3)) else (impl_PartnerRight.j1 k1 l0_3 (l0_3.length : Int) x8_1 true a0_0 a0_1 a0_2 l0_3)) = some r := H
                    have A18 := Aside0.mk A180
                    clear A180
                    by_cases c19 : t111 = true
                    · subst c19
                      have H1 : (if x8_1 > 0 then (if 0 ≤ (wrap64 (x8_1 - 1)) then (if (wrap64 (x8_1 - 1)) < (l0_3.length : Int) then (impl_PartnerRight.j1 k1 l0_3 (l0_3.length : Int) x8_1 (decide (((rd_T62 l0_3 x8_1).f0) ≤ ((rd_T62 l0_3 (wrap64 (x8_1 - 1))).f0))) a0_0 a0_1 a0_2 l0_3) else (none)) else (none)) else (impl_PartnerRight.j1 k1 l0_3 (l0_3.length : Int) x8_1 false a0_0 a0_1 a0_2 l0_3)) = some r := by rw [if_pos rfl] at H; exact H
                      clear H
                      have H := H1
                      clear H1
                      by_cases c20 : x8_1 > 0
                      · rw [if_pos c20] at H
                        have c20b0 : decide (0 < x8_1) = true := decide_eq_true c20
                        clear c20
                        obtain ⟨ji21, hji21⟩ : ∃ j_ : Int, (wrap64 (x8_1 - 1)) = j_ := ⟨_, rfl⟩
                        replace H : (if 0 ≤ (ji21) then (if (ji21) < (l0_3.length : Int) then (impl_PartnerRight.j1 k1 l0_3 (l0_3.length : Int) x8_1 (decide (((rd_T62 l0_3 x8_1).f0) ≤ ((rd_T62 l0_3 (ji21)).f0))) a0_0 a0_1 a0_2 l0_3) else (none)) else (none)) = some r := by first | (rw [hji21] at H; exact H) | (simp only [hji21] at H ⊢; exact H)
                        (try rw [hji21] at A11)
                        (try rw [hji21] at A16)
                        (try rw [hji21] at A18)
                        have hji21w : (IntKind.i64.wrap (x8_1 - 1)) = ji21 := (i64_w _).trans hji21
                        by_cases c22 : 0 ≤ (ji21)
                        · rw [if_pos c22] at H
                          have c22b0 : decide (0 ≤ (ji21)) = true := decide_eq_true c22
                          clear c22
                          by_cases c23 : (ji21) < (l0_3.length : Int)
                          · rw [if_pos c23] at H
                            have c23b0 : decide ((ji21) < (l0_3.length : Int)) = true := decide_eq_true c23
                            clear c23
                            have H' := Aside0.mk H
                            clear H
                            try go_wp2
                            have n0_ : Aside0 ((((w8.setCell ⟨gb108, 0, none⟩ (.int .i64 ((rd_T62 l0_3 x8_1).f0))).setCell ⟨gb108, 1, none⟩ (.int .i64 ((rd_T62 l0_3 x8_1).f1))).setCell ⟨gb108, 2, none⟩ (.int .i64 ((rd_T62 l0_3 x8_1).f2))).heap[gb106]? = some (.cells #[.string a0_0, .int .i64 a0_1, .int .i64 a0_2, .slice (some ad107) l0_3.length c0_3] 51 (0, 0))) := ⟨au3_1⟩
                            have n1_ : Aside0 ((((w8.setCell ⟨gb108, 0, none⟩ (.int .i64 ((rd_T62 l0_3 x8_1).f0))).setCell ⟨gb108, 1, none⟩ (.int .i64 ((rd_T62 l0_3 x8_1).f1))).setCell ⟨gb108, 2, none⟩ (.int .i64 ((rd_T62 l0_3 x8_1).f2))).heap[gb108]? = some (.cells #[.int .i64 ((rd_T62 l0_3 x8_1).f0), .int .i64 ((rd_T62 l0_3 x8_1).f1), .int .i64 ((rd_T62 l0_3 x8_1).f2)] 62 (0, 0))) := ⟨au3_0⟩
                            have n2_ : Aside0 (Below w.heap.size w (((w8.setCell ⟨gb108, 0, none⟩ (.int .i64 ((rd_T62 l0_3 x8_1).f0))).setCell ⟨gb108, 1, none⟩ (.int .i64 ((rd_T62 l0_3 x8_1).f1))).setCell ⟨gb108, 2, none⟩ (.int .i64 ((rd_T62 l0_3 x8_1).f2)))) := ⟨bl_⟩
                            (try clear BK106)
                            (try clear BK108)
                            (try clear HB)
                            generalize (((w8.setCell ⟨gb108, 0, none⟩ (.int .i64 ((rd_T62 l0_3 x8_1).f0))).setCell ⟨gb108, 1, none⟩ (.int .i64 ((rd_T62 l0_3 x8_1).f1))).setCell ⟨gb108, 2, none⟩ (.int .i64 ((rd_T62 l0_3 x8_1).f2))) = w24 at n0_ n1_ n2_ ⊢
                            have BK106 := n0_
                            have BK108 := n1_
                            have HB := n2_
                            clear n0_ n1_ n2_
                            have n0_ := Aside0.mk (blk_drew BK106.out)
                            have n1_ := Aside0.mk (blk_drew BK108.out)
                            have n2_ := Aside0.mk (below_drew1 HB.out)
                            clear BK106
                            clear BK108
                            clear HB
                            have BK106 := n0_
                            have BK108 := n1_
                            have HB := n2_
                            clear n0_ n1_ n2_
                            have p112 : 0 ≤ ((ji21) : Int) := of_decide_eq_true as_
                            have q112 : (ji21) < (l0_3.length : Int) := of_decide_eq_true as_
                            obtain ⟨ad112, e112, hx112_0, hx112_1, hx112_2⟩ := at_T62 HR0_3.out (ji21) p112 q112
                            have hw112_2 := hx112_2
                            have hw112_1 := hx112_1
                            have hw112_0 := hx112_0
                            obtain rfl : ad107 = ad112 := (by injection e112)
                            replace hx112_0 := (HB.out.cell (World.block_lt_of_cell? _ _ hx112_0)).trans hx112_0
                            replace hx112_1 := (HB.out.cell (World.block_lt_of_cell? _ _ hx112_1)).trans hx112_1
                            replace hx112_2 := (HB.out.cell (World.block_lt_of_cell? _ _ hx112_2)).trans hx112_2
                            replace p112 := eq_true p112
                            replace q112 := eq_true q112
                            refine start_ (n := 42) (S := fun w' => w'.cell? ⟨gb108, 0, none⟩ = some (.int .i64 ((rd_T62 l0_3 x8_1).f0)) ∧ w'.cell? ⟨gb108, 1, none⟩ = some (.int .i64 ((rd_T62 l0_3 x8_1).f1)) ∧ w'.cell? ⟨gb108, 2, none⟩ = some (.int .i64 ((rd_T62 l0_3 x8_1).f2)) ∧ w'.cell? ⟨gb106, 0, none⟩ = some (.string a0_0) ∧ w'.cell? ⟨gb106, 1, none⟩ = some (.int .i64 a0_1) ∧ w'.cell? ⟨gb106, 2, none⟩ = some (.int .i64 a0_2) ∧ w'.cell? ⟨gb106, 3, none⟩ = some (.slice (some ad107) l0_3.length c0_3) ∧ w'.cell? (ad107.add (((ji21)).toNat * 3)) = some (.int .i64 ((rd_T62 l0_3 (ji21)).f0)) ∧ w'.cell? ⟨(ad107.add (((ji21)).toNat * 3)).block, (ad107.add (((ji21)).toNat * 3)).off + 1, none⟩ = some (.int .i64 ((rd_T62 l0_3 (ji21)).f1)) ∧ w'.cell? ⟨(ad107.add (((ji21)).toNat * 3)).block, (ad107.add (((ji21)).toNat * 3)).off + 2, none⟩ = some (.int .i64 ((rd_T62 l0_3 (ji21)).f2))) (ds := []) (bs 42 0) (by kernel_rfl) rfl rfl ⟨(blk_cell BK108.out 0).trans rfl, (blk_cell BK108.out 1).trans rfl, (blk_cell BK108.out 2).trans rfl, (blk_cell BK106.out 0).trans rfl, (blk_cell BK106.out 1).trans rfl, (blk_cell BK106.out 2).trans rfl, (blk_cell BK106.out 3).trans rfl, ((HB.out.cell (World.block_lt_of_cell? _ _ hw112_0)).trans hw112_0), ((HB.out.cell (World.block_lt_of_cell? _ _ hw112_1)).trans hw112_1), ((HB.out.cell (World.block_lt_of_cell? _ _ hw112_2)).trans hw112_2)⟩ (fun hHeld => ?_); refine with_tabW impl_PartnerRight.tab4 impl_PartnerRight.bits4 (fun HT_ HW_ => ?_)
                            generalize w24.drew = w25 at BK106 BK108 HB hx112_0 hx112_1 hx112_2 hHeld ⊢
                            refine pu_ 0 13 (bs 42 1) HT_ ?_ rfl rfl
                            refine pu_ 2 15 (bs 42 5) HT_ ?_ rfl rfl
                            refine tk_ 1 14 (bs 42 7) HT_ HW_ hHeld au3_3 ?_ rfl rfl
                            refine tk_ 3 16 (bs 42 15) HT_ HW_ hHeld au3_3 ?_ rfl rfl
                            refine one_ (i := 4) (N := some 17) (bs 42 31) rfl rfl (one_of HT_.out (by kernel_rfl)) (by decide) (fun K hK => ?_)
                            refine gr_ Try.func102 #[.int .i64 ((rd_T62 l0_3 x8_1).f0), .int .i64 a0_1, .int .i64 999999] (by rfl) ?_ rfl rfl rfl
                            with_reducible refine (impl_within.calls ((rd_T62 l0_3 x8_1).f0) a0_1 999999 true _ A11.out).mono ?_
                            rintro e w' ⟨rfl, ⟨nd, rfl⟩⟩
                            refine ⟨_, rfl, ?_⟩
                            refine hK.out _ _ ⟨(blk_cell BK108.out 0).trans rfl, (blk_cell BK108.out 1).trans rfl, (blk_cell BK108.out 2).trans rfl, (blk_cell BK106.out 0).trans rfl, (blk_cell BK106.out 1).trans rfl, (blk_cell BK106.out 2).trans rfl, (blk_cell BK106.out 3).trans rfl, ((HB.out.cell (World.block_lt_of_cell? _ _ hw112_0)).trans hw112_0), ((HB.out.cell (World.block_lt_of_cell? _ _ hw112_1)).trans hw112_1), ((HB.out.cell (World.block_lt_of_cell? _ _ hw112_2)).trans hw112_2)⟩ (fun hHeld => ?_)
                            clear hK K
                            refine norm_ (a' := ?_) ?_ ?_
                            rotate_left
                            · show Act.put _ (some 17) _ = _
                              simp only [Act.put, List.setIfInBounds_toArray, List.set_cons_zero, List.set_cons_succ, i64_w, i32_w]
                              rfl
                            refine pu_ 5 18 (bs 42 63) HT_ ?_ rfl rfl
                            refine pu_ 6 19 (bs 42 127) HT_ ?_ rfl rfl
                            refine pu_ 7 20 (bs 42 255) HT_ ?_ rfl rfl
                            refine pu_ 9 22 (bs 42 767) HT_ ?_ rfl rfl
                            refine tk_ 8 21 (bs 42 1023) HT_ HW_ hHeld au3_3 ?_ rfl rfl
                            refine tk_ 10 23 (bs 42 2047) HT_ HW_ hHeld au3_3 ?_ rfl rfl
                            refine pu_ 11 24 (bs 42 4095) HT_ ?_ rfl rfl
                            refine pu_ 12 25 (bs 42 8191) HT_ ?_ rfl rfl
                            refine pu_ 13 26 (bs 42 16383) HT_ ?_ rfl rfl
                            refine pu_ 14 27 (bs 42 32767) HT_ ?_ rfl rfl
                            refine pu_ 15 28 (bs 42 65535) HT_ ?_ rfl rfl
                            refine tk_ 16 29 (bs 42 131071) HT_ HW_ hHeld au3_3 ?_ rfl rfl
                            refine one_ (i := 17) (N := some 30) (bs 42 262143) rfl rfl (one_of HT_.out (by kernel_rfl)) (by decide) (fun K hK => ?_)
                            refine gr_ Try.func81 #[.int .i64 ((rd_T62 l0_3 x8_1).f1)] (by rfl) ?_ rfl rfl rfl
                            with_reducible refine (impl_isControl.calls ((rd_T62 l0_3 x8_1).f1) true _ A16.out).mono ?_
                            rintro e w' ⟨rfl, ⟨nd, rfl⟩⟩
                            refine ⟨_, rfl, ?_⟩
                            refine hK.out _ _ ⟨(blk_cell BK108.out 0).trans rfl, (blk_cell BK108.out 1).trans rfl, (blk_cell BK108.out 2).trans rfl, (blk_cell BK106.out 0).trans rfl, (blk_cell BK106.out 1).trans rfl, (blk_cell BK106.out 2).trans rfl, (blk_cell BK106.out 3).trans rfl, ((HB.out.cell (World.block_lt_of_cell? _ _ hw112_0)).trans hw112_0), ((HB.out.cell (World.block_lt_of_cell? _ _ hw112_1)).trans hw112_1), ((HB.out.cell (World.block_lt_of_cell? _ _ hw112_2)).trans hw112_2)⟩ (fun hHeld => ?_)
                            clear hK K
                            refine norm_ (a' := ?_) ?_ ?_
                            rotate_left
                            · show Act.put _ (some 30) _ = _
                              simp only [Act.put, List.setIfInBounds_toArray, List.set_cons_zero, List.set_cons_succ, i64_w, i32_w]
                              rfl
                            refine pu_ 18 31 (bs 42 524287) HT_ ?_ rfl rfl
                            refine pu_ 19 32 (bs 42 1048575) HT_ ?_ rfl rfl
                            refine pu_ 20 33 (bs 42 2097151) HT_ ?_ rfl rfl
                            refine pu_ 21 34 (bs 42 4194303) HT_ ?_ rfl rfl
                            refine tk_ 22 35 (bs 42 8388607) HT_ HW_ hHeld au3_3 ?_ rfl rfl
                            refine one_ (i := 23) (N := some 36) (bs 42 16777215) rfl rfl (one_of HT_.out (by kernel_rfl)) (by decide) (fun K hK => ?_)
                            refine gr_ Try.func91 #[.int .i64 ((rd_T62 l0_3 x8_1).f2)] (by rfl) ?_ rfl rfl rfl
                            with_reducible refine (impl_isCode.calls ((rd_T62 l0_3 x8_1).f2) true _ A18.out).mono ?_
                            rintro e w' ⟨rfl, ⟨nd, rfl⟩⟩
                            refine ⟨_, rfl, ?_⟩
                            refine hK.out _ _ ⟨(blk_cell BK108.out 0).trans rfl, (blk_cell BK108.out 1).trans rfl, (blk_cell BK108.out 2).trans rfl, (blk_cell BK106.out 0).trans rfl, (blk_cell BK106.out 1).trans rfl, (blk_cell BK106.out 2).trans rfl, (blk_cell BK106.out 3).trans rfl, ((HB.out.cell (World.block_lt_of_cell? _ _ hw112_0)).trans hw112_0), ((HB.out.cell (World.block_lt_of_cell? _ _ hw112_1)).trans hw112_1), ((HB.out.cell (World.block_lt_of_cell? _ _ hw112_2)).trans hw112_2)⟩ (fun hHeld => ?_)
                            clear hK K
                            refine norm_ (a' := ?_) ?_ ?_
                            rotate_left
                            · show Act.put _ (some 36) _ = _
                              simp only [Act.put, List.setIfInBounds_toArray, List.set_cons_zero, List.set_cons_succ, i64_w, i32_w]
                              rfl
                            refine pu_ 24 37 (bs 42 33554431) HT_ ?_ rfl rfl
                            refine pu_ 25 38 (bs 42 67108863) HT_ ?_ rfl rfl
                            refine pu_ 26 39 (bs 42 134217727) HT_ ?_ rfl rfl
                            refine pu_ 27 40 (bs 42 268435455) HT_ ?_ rfl rfl
                            refine pu_ 28 41 (bs 42 536870911) HT_ ?_ rfl rfl
                            refine pu_ 29 42 (bs 42 1073741823) HT_ ?_ rfl rfl
                            refine pu_ 30 43 (bs 42 2147483647) HT_ ?_ rfl rfl
                            refine pu_ 32 45 (bs 42 6442450943) HT_ ?_ rfl rfl
                            refine pu_ 34 47 (bs 42 23622320127) HT_ ?_ rfl rfl
                            refine pu_ 35 48 (bs 42 57982058495) HT_ ?_ rfl rfl
                            refine tk_ 31 44 (bs 42 60129542143) HT_ HW_ hHeld au3_3 ?_ rfl rfl
                            refine tk_ 33 46 (bs 42 68719476735) HT_ HW_ hHeld au3_3 ?_ rfl rfl
                            refine pu_ 36 49 (bs 42 137438953471) HT_ ?_ rfl rfl
                            refine pu_ 37 50 (bs 42 274877906943) HT_ ?_ rfl rfl
                            refine tk_ 38 51 (bs 42 549755813887) HT_ HW_ hHeld au3_3 ?_ rfl rfl
                            refine pu_ 39 52 (bs 42 1099511627775) HT_ ?_ rfl rfl
                            refine pu_ 40 53 (bs 42 2199023255551) HT_ ?_ rfl rfl
                            refine pu_ 41 54 (bs 42 4398046511103) HT_ ?_ rfl rfl
                            refine done_ (done_of HT_.out (by kernel_rfl)) ?_
                            try go_wp2
                            go_meet
                            case rel => exact ⟨_, (decide (((rd_T62 l0_3 x8_1).f0) ≤ ((rd_T62 l0_3 (ji21)).f0))), (by first | rfl | (simp; done) | (simp only [← hji21] <;> (first | rfl | simp)) | (simp [*]; done)), H', ⟨au3_5⟩, ⟨bk_ BK106⟩, ⟨bk_ BK108⟩, ⟨bl_⟩⟩
                          · rw [if_neg c23] at H
                            exact absurd H (by simp)
                        · rw [if_neg c22] at H
                          exact absurd H (by simp)
                      · rw [if_neg c20] at H
                        have c20b0 : decide (0 < x8_1) = false := decide_eq_false c20
                        clear c20
                        have H' := Aside0.mk H
                        clear H
                        try go_wp2
                        have n0_ : Aside0 ((((w8.setCell ⟨gb108, 0, none⟩ (.int .i64 ((rd_T62 l0_3 x8_1).f0))).setCell ⟨gb108, 1, none⟩ (.int .i64 ((rd_T62 l0_3 x8_1).f1))).setCell ⟨gb108, 2, none⟩ (.int .i64 ((rd_T62 l0_3 x8_1).f2))).heap[gb106]? = some (.cells #[.string a0_0, .int .i64 a0_1, .int .i64 a0_2, .slice (some ad107) l0_3.length c0_3] 51 (0, 0))) := ⟨au3_1⟩
                        have n1_ : Aside0 ((((w8.setCell ⟨gb108, 0, none⟩ (.int .i64 ((rd_T62 l0_3 x8_1).f0))).setCell ⟨gb108, 1, none⟩ (.int .i64 ((rd_T62 l0_3 x8_1).f1))).setCell ⟨gb108, 2, none⟩ (.int .i64 ((rd_T62 l0_3 x8_1).f2))).heap[gb108]? = some (.cells #[.int .i64 ((rd_T62 l0_3 x8_1).f0), .int .i64 ((rd_T62 l0_3 x8_1).f1), .int .i64 ((rd_T62 l0_3 x8_1).f2)] 62 (0, 0))) := ⟨au3_0⟩
                        have n2_ : Aside0 (Below w.heap.size w (((w8.setCell ⟨gb108, 0, none⟩ (.int .i64 ((rd_T62 l0_3 x8_1).f0))).setCell ⟨gb108, 1, none⟩ (.int .i64 ((rd_T62 l0_3 x8_1).f1))).setCell ⟨gb108, 2, none⟩ (.int .i64 ((rd_T62 l0_3 x8_1).f2)))) := ⟨bl_⟩
                        (try clear BK106)
                        (try clear BK108)
                        (try clear HB)
                        generalize (((w8.setCell ⟨gb108, 0, none⟩ (.int .i64 ((rd_T62 l0_3 x8_1).f0))).setCell ⟨gb108, 1, none⟩ (.int .i64 ((rd_T62 l0_3 x8_1).f1))).setCell ⟨gb108, 2, none⟩ (.int .i64 ((rd_T62 l0_3 x8_1).f2))) = w26 at n0_ n1_ n2_ ⊢
                        have BK106 := n0_
                        have BK108 := n1_
                        have HB := n2_
                        clear n0_ n1_ n2_
                        have n0_ := Aside0.mk (blk_drew BK106.out)
                        have n1_ := Aside0.mk (blk_drew BK108.out)
                        have n2_ := Aside0.mk (below_drew1 HB.out)
                        clear BK106
                        clear BK108
                        clear HB
                        have BK106 := n0_
                        have BK108 := n1_
                        have HB := n2_
                        clear n0_ n1_ n2_
                        refine start_ (n := 42) (S := fun w' => w'.cell? ⟨gb108, 0, none⟩ = some (.int .i64 ((rd_T62 l0_3 x8_1).f0)) ∧ w'.cell? ⟨gb108, 1, none⟩ = some (.int .i64 ((rd_T62 l0_3 x8_1).f1)) ∧ w'.cell? ⟨gb108, 2, none⟩ = some (.int .i64 ((rd_T62 l0_3 x8_1).f2)) ∧ w'.cell? ⟨gb106, 0, none⟩ = some (.string a0_0) ∧ w'.cell? ⟨gb106, 1, none⟩ = some (.int .i64 a0_1) ∧ w'.cell? ⟨gb106, 2, none⟩ = some (.int .i64 a0_2) ∧ w'.cell? ⟨gb106, 3, none⟩ = some (.slice (some ad107) l0_3.length c0_3)) (ds := []) (bs 42 0) (by kernel_rfl) rfl rfl ⟨(blk_cell BK108.out 0).trans rfl, (blk_cell BK108.out 1).trans rfl, (blk_cell BK108.out 2).trans rfl, (blk_cell BK106.out 0).trans rfl, (blk_cell BK106.out 1).trans rfl, (blk_cell BK106.out 2).trans rfl, (blk_cell BK106.out 3).trans rfl⟩ (fun hHeld => ?_); refine with_tabW impl_PartnerRight.tab4 impl_PartnerRight.bits4 (fun HT_ HW_ => ?_)
                        generalize w26.drew = w27 at BK106 BK108 HB hHeld ⊢
                        refine pu_ 0 13 (bs 42 1) HT_ ?_ rfl rfl
                        refine pu_ 2 15 (bs 42 5) HT_ ?_ rfl rfl
                        refine tk_ 1 14 (bs 42 7) HT_ HW_ hHeld au3_2 ?_ rfl rfl
                        refine tk_ 3 16 (bs 42 15) HT_ HW_ hHeld au3_2 ?_ rfl rfl
                        refine one_ (i := 4) (N := some 17) (bs 42 31) rfl rfl (one_of HT_.out (by kernel_rfl)) (by decide) (fun K hK => ?_)
                        refine gr_ Try.func102 #[.int .i64 ((rd_T62 l0_3 x8_1).f0), .int .i64 a0_1, .int .i64 999999] (by rfl) ?_ rfl rfl rfl
                        with_reducible refine (impl_within.calls ((rd_T62 l0_3 x8_1).f0) a0_1 999999 true _ A11.out).mono ?_
                        rintro e w' ⟨rfl, ⟨nd, rfl⟩⟩
                        refine ⟨_, rfl, ?_⟩
                        refine hK.out _ _ ⟨(blk_cell BK108.out 0).trans rfl, (blk_cell BK108.out 1).trans rfl, (blk_cell BK108.out 2).trans rfl, (blk_cell BK106.out 0).trans rfl, (blk_cell BK106.out 1).trans rfl, (blk_cell BK106.out 2).trans rfl, (blk_cell BK106.out 3).trans rfl⟩ (fun hHeld => ?_)
                        clear hK K
                        refine norm_ (a' := ?_) ?_ ?_
                        rotate_left
                        · show Act.put _ (some 17) _ = _
                          simp only [Act.put, List.setIfInBounds_toArray, List.set_cons_zero, List.set_cons_succ, i64_w, i32_w]
                          rfl
                        refine pu_ 5 18 (bs 42 63) HT_ ?_ rfl rfl
                        refine pu_ 6 19 (bs 42 127) HT_ ?_ rfl rfl
                        refine pu_ 7 20 (bs 42 255) HT_ ?_ rfl rfl
                        refine pu_ 9 22 (bs 42 767) HT_ ?_ rfl rfl
                        refine tk_ 8 21 (bs 42 1023) HT_ HW_ hHeld au3_2 ?_ rfl rfl
                        refine tk_ 10 23 (bs 42 2047) HT_ HW_ hHeld au3_2 ?_ rfl rfl
                        refine pu_ 11 24 (bs 42 4095) HT_ ?_ rfl rfl
                        refine pu_ 12 25 (bs 42 8191) HT_ ?_ rfl rfl
                        refine pu_ 13 26 (bs 42 16383) HT_ ?_ rfl rfl
                        refine pu_ 14 27 (bs 42 32767) HT_ ?_ rfl rfl
                        refine pu_ 15 28 (bs 42 65535) HT_ ?_ rfl rfl
                        refine tk_ 16 29 (bs 42 131071) HT_ HW_ hHeld au3_2 ?_ rfl rfl
                        refine one_ (i := 17) (N := some 30) (bs 42 262143) rfl rfl (one_of HT_.out (by kernel_rfl)) (by decide) (fun K hK => ?_)
                        refine gr_ Try.func81 #[.int .i64 ((rd_T62 l0_3 x8_1).f1)] (by rfl) ?_ rfl rfl rfl
                        with_reducible refine (impl_isControl.calls ((rd_T62 l0_3 x8_1).f1) true _ A16.out).mono ?_
                        rintro e w' ⟨rfl, ⟨nd, rfl⟩⟩
                        refine ⟨_, rfl, ?_⟩
                        refine hK.out _ _ ⟨(blk_cell BK108.out 0).trans rfl, (blk_cell BK108.out 1).trans rfl, (blk_cell BK108.out 2).trans rfl, (blk_cell BK106.out 0).trans rfl, (blk_cell BK106.out 1).trans rfl, (blk_cell BK106.out 2).trans rfl, (blk_cell BK106.out 3).trans rfl⟩ (fun hHeld => ?_)
                        clear hK K
                        refine norm_ (a' := ?_) ?_ ?_
                        rotate_left
                        · show Act.put _ (some 30) _ = _
                          simp only [Act.put, List.setIfInBounds_toArray, List.set_cons_zero, List.set_cons_succ, i64_w, i32_w]
                          rfl
                        refine pu_ 18 31 (bs 42 524287) HT_ ?_ rfl rfl
                        refine pu_ 19 32 (bs 42 1048575) HT_ ?_ rfl rfl
                        refine pu_ 20 33 (bs 42 2097151) HT_ ?_ rfl rfl
                        refine pu_ 21 34 (bs 42 4194303) HT_ ?_ rfl rfl
                        refine tk_ 22 35 (bs 42 8388607) HT_ HW_ hHeld au3_2 ?_ rfl rfl
                        refine one_ (i := 23) (N := some 36) (bs 42 16777215) rfl rfl (one_of HT_.out (by kernel_rfl)) (by decide) (fun K hK => ?_)
                        refine gr_ Try.func91 #[.int .i64 ((rd_T62 l0_3 x8_1).f2)] (by rfl) ?_ rfl rfl rfl
                        with_reducible refine (impl_isCode.calls ((rd_T62 l0_3 x8_1).f2) true _ A18.out).mono ?_
                        rintro e w' ⟨rfl, ⟨nd, rfl⟩⟩
                        refine ⟨_, rfl, ?_⟩
                        refine hK.out _ _ ⟨(blk_cell BK108.out 0).trans rfl, (blk_cell BK108.out 1).trans rfl, (blk_cell BK108.out 2).trans rfl, (blk_cell BK106.out 0).trans rfl, (blk_cell BK106.out 1).trans rfl, (blk_cell BK106.out 2).trans rfl, (blk_cell BK106.out 3).trans rfl⟩ (fun hHeld => ?_)
                        clear hK K
                        refine norm_ (a' := ?_) ?_ ?_
                        rotate_left
                        · show Act.put _ (some 36) _ = _
                          simp only [Act.put, List.setIfInBounds_toArray, List.set_cons_zero, List.set_cons_succ, i64_w, i32_w]
                          rfl
                        refine pu_ 24 37 (bs 42 33554431) HT_ ?_ rfl rfl
                        refine pu_ 25 38 (bs 42 67108863) HT_ ?_ rfl rfl
                        refine pu_ 26 39 (bs 42 134217727) HT_ ?_ rfl rfl
                        refine pu_ 27 40 (bs 42 268435455) HT_ ?_ rfl rfl
                        refine pu_ 28 41 (bs 42 536870911) HT_ ?_ rfl rfl
                        refine pu_ 29 42 (bs 42 1073741823) HT_ ?_ rfl rfl
                        refine pv_ 30 43 (bs 42 2147483647) HT_ ?_ rfl rfl
                        refine pv_ 31 44 (bs 42 4294967295) HT_ ?_ rfl rfl
                        refine pv_ 32 45 (bs 42 8589934591) HT_ ?_ rfl rfl
                        refine pv_ 33 46 (bs 42 17179869183) HT_ ?_ rfl rfl
                        refine pv_ 34 47 (bs 42 34359738367) HT_ ?_ rfl rfl
                        refine pv_ 35 48 (bs 42 68719476735) HT_ ?_ rfl rfl
                        refine pv_ 36 49 (bs 42 137438953471) HT_ ?_ rfl rfl
                        refine pv_ 37 50 (bs 42 274877906943) HT_ ?_ rfl rfl
                        refine pv_ 38 51 (bs 42 549755813887) HT_ ?_ rfl rfl
                        refine pv_ 39 52 (bs 42 1099511627775) HT_ ?_ rfl rfl
                        refine pu_ 40 53 (bs 42 2199023255551) HT_ ?_ rfl rfl
                        refine pu_ 41 54 (bs 42 4398046511103) HT_ ?_ rfl rfl
                        refine done_ (done_of HT_.out (by kernel_rfl)) ?_
                        try go_wp2
                        go_meet
                        case rel => exact ⟨_, (false), er_, H', ⟨au3_5⟩, ⟨bk_ BK106⟩, ⟨bk_ BK108⟩, ⟨bl_⟩⟩
                    · replace c19 := Bool.eq_false_iff.mpr c19
                      subst c19
                      have H1 : (impl_PartnerRight.j1 k1 l0_3 (l0_3.length : Int) x8_1 true a0_0 a0_1 a0_2 l0_3) = some r := by rw [if_neg (show ¬ (false = true) by decide)] at H; exact H
                      clear H
                      have H := H1
                      clear H1
                      have H' := Aside0.mk H
                      clear H
                      try go_wp2
                      have n0_ : Aside0 ((((w8.setCell ⟨gb108, 0, none⟩ (.int .i64 ((rd_T62 l0_3 x8_1).f0))).setCell ⟨gb108, 1, none⟩ (.int .i64 ((rd_T62 l0_3 x8_1).f1))).setCell ⟨gb108, 2, none⟩ (.int .i64 ((rd_T62 l0_3 x8_1).f2))).heap[gb106]? = some (.cells #[.string a0_0, .int .i64 a0_1, .int .i64 a0_2, .slice (some ad107) l0_3.length c0_3] 51 (0, 0))) := ⟨au3_1⟩
                      have n1_ : Aside0 ((((w8.setCell ⟨gb108, 0, none⟩ (.int .i64 ((rd_T62 l0_3 x8_1).f0))).setCell ⟨gb108, 1, none⟩ (.int .i64 ((rd_T62 l0_3 x8_1).f1))).setCell ⟨gb108, 2, none⟩ (.int .i64 ((rd_T62 l0_3 x8_1).f2))).heap[gb108]? = some (.cells #[.int .i64 ((rd_T62 l0_3 x8_1).f0), .int .i64 ((rd_T62 l0_3 x8_1).f1), .int .i64 ((rd_T62 l0_3 x8_1).f2)] 62 (0, 0))) := ⟨au3_0⟩
                      have n2_ : Aside0 (Below w.heap.size w (((w8.setCell ⟨gb108, 0, none⟩ (.int .i64 ((rd_T62 l0_3 x8_1).f0))).setCell ⟨gb108, 1, none⟩ (.int .i64 ((rd_T62 l0_3 x8_1).f1))).setCell ⟨gb108, 2, none⟩ (.int .i64 ((rd_T62 l0_3 x8_1).f2)))) := ⟨bl_⟩
                      (try clear BK106)
                      (try clear BK108)
                      (try clear HB)
                      generalize (((w8.setCell ⟨gb108, 0, none⟩ (.int .i64 ((rd_T62 l0_3 x8_1).f0))).setCell ⟨gb108, 1, none⟩ (.int .i64 ((rd_T62 l0_3 x8_1).f1))).setCell ⟨gb108, 2, none⟩ (.int .i64 ((rd_T62 l0_3 x8_1).f2))) = w28 at n0_ n1_ n2_ ⊢
                      have BK106 := n0_
                      have BK108 := n1_
                      have HB := n2_
                      clear n0_ n1_ n2_
                      have n0_ := Aside0.mk (blk_drew BK106.out)
                      have n1_ := Aside0.mk (blk_drew BK108.out)
                      have n2_ := Aside0.mk (below_drew1 HB.out)
                      clear BK106
                      clear BK108
                      clear HB
                      have BK106 := n0_
                      have BK108 := n1_
                      have HB := n2_
                      clear n0_ n1_ n2_
                      refine start_ (n := 42) (S := fun w' => w'.cell? ⟨gb108, 0, none⟩ = some (.int .i64 ((rd_T62 l0_3 x8_1).f0)) ∧ w'.cell? ⟨gb108, 1, none⟩ = some (.int .i64 ((rd_T62 l0_3 x8_1).f1)) ∧ w'.cell? ⟨gb108, 2, none⟩ = some (.int .i64 ((rd_T62 l0_3 x8_1).f2)) ∧ w'.cell? ⟨gb106, 0, none⟩ = some (.string a0_0) ∧ w'.cell? ⟨gb106, 1, none⟩ = some (.int .i64 a0_1) ∧ w'.cell? ⟨gb106, 2, none⟩ = some (.int .i64 a0_2) ∧ w'.cell? ⟨gb106, 3, none⟩ = some (.slice (some ad107) l0_3.length c0_3)) (ds := []) (bs 42 0) (by kernel_rfl) rfl rfl ⟨(blk_cell BK108.out 0).trans rfl, (blk_cell BK108.out 1).trans rfl, (blk_cell BK108.out 2).trans rfl, (blk_cell BK106.out 0).trans rfl, (blk_cell BK106.out 1).trans rfl, (blk_cell BK106.out 2).trans rfl, (blk_cell BK106.out 3).trans rfl⟩ (fun hHeld => ?_); refine with_tabW impl_PartnerRight.tab4 impl_PartnerRight.bits4 (fun HT_ HW_ => ?_)
                      generalize w28.drew = w29 at BK106 BK108 HB hHeld ⊢
                      refine pu_ 0 13 (bs 42 1) HT_ ?_ rfl rfl
                      refine pu_ 2 15 (bs 42 5) HT_ ?_ rfl rfl
                      refine tk_ 1 14 (bs 42 7) HT_ HW_ hHeld au3_2 ?_ rfl rfl
                      refine tk_ 3 16 (bs 42 15) HT_ HW_ hHeld au3_2 ?_ rfl rfl
                      refine one_ (i := 4) (N := some 17) (bs 42 31) rfl rfl (one_of HT_.out (by kernel_rfl)) (by decide) (fun K hK => ?_)
                      refine gr_ Try.func102 #[.int .i64 ((rd_T62 l0_3 x8_1).f0), .int .i64 a0_1, .int .i64 999999] (by rfl) ?_ rfl rfl rfl
                      with_reducible refine (impl_within.calls ((rd_T62 l0_3 x8_1).f0) a0_1 999999 true _ A11.out).mono ?_
                      rintro e w' ⟨rfl, ⟨nd, rfl⟩⟩
                      refine ⟨_, rfl, ?_⟩
                      refine hK.out _ _ ⟨(blk_cell BK108.out 0).trans rfl, (blk_cell BK108.out 1).trans rfl, (blk_cell BK108.out 2).trans rfl, (blk_cell BK106.out 0).trans rfl, (blk_cell BK106.out 1).trans rfl, (blk_cell BK106.out 2).trans rfl, (blk_cell BK106.out 3).trans rfl⟩ (fun hHeld => ?_)
                      clear hK K
                      refine norm_ (a' := ?_) ?_ ?_
                      rotate_left
                      · show Act.put _ (some 17) _ = _
                        simp only [Act.put, List.setIfInBounds_toArray, List.set_cons_zero, List.set_cons_succ, i64_w, i32_w]
                        rfl
                      refine pu_ 5 18 (bs 42 63) HT_ ?_ rfl rfl
                      refine pu_ 6 19 (bs 42 127) HT_ ?_ rfl rfl
                      refine pu_ 7 20 (bs 42 255) HT_ ?_ rfl rfl
                      refine pu_ 9 22 (bs 42 767) HT_ ?_ rfl rfl
                      refine tk_ 8 21 (bs 42 1023) HT_ HW_ hHeld au3_2 ?_ rfl rfl
                      refine tk_ 10 23 (bs 42 2047) HT_ HW_ hHeld au3_2 ?_ rfl rfl
                      refine pu_ 11 24 (bs 42 4095) HT_ ?_ rfl rfl
                      refine pu_ 12 25 (bs 42 8191) HT_ ?_ rfl rfl
                      refine pu_ 13 26 (bs 42 16383) HT_ ?_ rfl rfl
                      refine pu_ 14 27 (bs 42 32767) HT_ ?_ rfl rfl
                      refine pu_ 15 28 (bs 42 65535) HT_ ?_ rfl rfl
                      refine tk_ 16 29 (bs 42 131071) HT_ HW_ hHeld au3_2 ?_ rfl rfl
                      refine one_ (i := 17) (N := some 30) (bs 42 262143) rfl rfl (one_of HT_.out (by kernel_rfl)) (by decide) (fun K hK => ?_)
                      refine gr_ Try.func81 #[.int .i64 ((rd_T62 l0_3 x8_1).f1)] (by rfl) ?_ rfl rfl rfl
                      with_reducible refine (impl_isControl.calls ((rd_T62 l0_3 x8_1).f1) true _ A16.out).mono ?_
                      rintro e w' ⟨rfl, ⟨nd, rfl⟩⟩
                      refine ⟨_, rfl, ?_⟩
                      refine hK.out _ _ ⟨(blk_cell BK108.out 0).trans rfl, (blk_cell BK108.out 1).trans rfl, (blk_cell BK108.out 2).trans rfl, (blk_cell BK106.out 0).trans rfl, (blk_cell BK106.out 1).trans rfl, (blk_cell BK106.out 2).trans rfl, (blk_cell BK106.out 3).trans rfl⟩ (fun hHeld => ?_)
                      clear hK K
                      refine norm_ (a' := ?_) ?_ ?_
                      rotate_left
                      · show Act.put _ (some 30) _ = _
                        simp only [Act.put, List.setIfInBounds_toArray, List.set_cons_zero, List.set_cons_succ, i64_w, i32_w]
                        rfl
                      refine pu_ 18 31 (bs 42 524287) HT_ ?_ rfl rfl
                      refine pu_ 19 32 (bs 42 1048575) HT_ ?_ rfl rfl
                      refine pu_ 20 33 (bs 42 2097151) HT_ ?_ rfl rfl
                      refine pu_ 21 34 (bs 42 4194303) HT_ ?_ rfl rfl
                      refine tk_ 22 35 (bs 42 8388607) HT_ HW_ hHeld au3_2 ?_ rfl rfl
                      refine one_ (i := 23) (N := some 36) (bs 42 16777215) rfl rfl (one_of HT_.out (by kernel_rfl)) (by decide) (fun K hK => ?_)
                      refine gr_ Try.func91 #[.int .i64 ((rd_T62 l0_3 x8_1).f2)] (by rfl) ?_ rfl rfl rfl
                      with_reducible refine (impl_isCode.calls ((rd_T62 l0_3 x8_1).f2) false _ A18.out).mono ?_
                      rintro e w' ⟨rfl, ⟨nd, rfl⟩⟩
                      refine ⟨_, rfl, ?_⟩
                      refine hK.out _ _ ⟨(blk_cell BK108.out 0).trans rfl, (blk_cell BK108.out 1).trans rfl, (blk_cell BK108.out 2).trans rfl, (blk_cell BK106.out 0).trans rfl, (blk_cell BK106.out 1).trans rfl, (blk_cell BK106.out 2).trans rfl, (blk_cell BK106.out 3).trans rfl⟩ (fun hHeld => ?_)
                      clear hK K
                      refine norm_ (a' := ?_) ?_ ?_
                      rotate_left
                      · show Act.put _ (some 36) _ = _
                        simp only [Act.put, List.setIfInBounds_toArray, List.set_cons_zero, List.set_cons_succ, i64_w, i32_w]
                        rfl
                      refine pu_ 24 37 (bs 42 33554431) HT_ ?_ rfl rfl
                      refine pu_ 25 38 (bs 42 67108863) HT_ ?_ rfl rfl
                      refine pu_ 26 39 (bs 42 134217727) HT_ ?_ rfl rfl
                      refine pv_ 27 40 (bs 42 268435455) HT_ ?_ rfl rfl
                      refine pv_ 28 41 (bs 42 536870911) HT_ ?_ rfl rfl
                      refine pv_ 29 42 (bs 42 1073741823) HT_ ?_ rfl rfl
                      refine pv_ 30 43 (bs 42 2147483647) HT_ ?_ rfl rfl
                      refine pv_ 31 44 (bs 42 4294967295) HT_ ?_ rfl rfl
                      refine pv_ 32 45 (bs 42 8589934591) HT_ ?_ rfl rfl
                      refine pv_ 33 46 (bs 42 17179869183) HT_ ?_ rfl rfl
                      refine pv_ 34 47 (bs 42 34359738367) HT_ ?_ rfl rfl
                      refine pv_ 35 48 (bs 42 68719476735) HT_ ?_ rfl rfl
                      refine pv_ 36 49 (bs 42 137438953471) HT_ ?_ rfl rfl
                      refine pv_ 37 50 (bs 42 274877906943) HT_ ?_ rfl rfl
                      refine pv_ 38 51 (bs 42 549755813887) HT_ ?_ rfl rfl
                      refine pv_ 39 52 (bs 42 1099511627775) HT_ ?_ rfl rfl
                      refine pv_ 40 53 (bs 42 2199023255551) HT_ ?_ rfl rfl
                      refine pu_ 41 54 (bs 42 4398046511103) HT_ ?_ rfl rfl
                      refine done_ (done_of HT_.out (by kernel_rfl)) ?_
                      try go_wp2
                      go_meet
                      case rel => exact ⟨_, (true), er_, H', ⟨au3_5⟩, ⟨bk_ BK106⟩, ⟨bk_ BK108⟩, ⟨bl_⟩⟩
                  · replace c17 := Bool.eq_false_iff.mpr c17
                    subst c17
                    have H1 : (impl_PartnerRight.j1 k1 l0_3 (l0_3.length : Int) x8_1 true a0_0 a0_1 a0_2 l0_3) = some r := by rw [if_neg (show ¬ (false = true) by decide)] at H; exact H
                    clear H
                    have H := H1
                    clear H1
                    have H' := Aside0.mk H
                    clear H
                    try go_wp2
                    have n0_ : Aside0 ((((w8.setCell ⟨gb108, 0, none⟩ (.int .i64 ((rd_T62 l0_3 x8_1).f0))).setCell ⟨gb108, 1, none⟩ (.int .i64 ((rd_T62 l0_3 x8_1).f1))).setCell ⟨gb108, 2, none⟩ (.int .i64 ((rd_T62 l0_3 x8_1).f2))).heap[gb106]? = some (.cells #[.string a0_0, .int .i64 a0_1, .int .i64 a0_2, .slice (some ad107) l0_3.length c0_3] 51 (0, 0))) := ⟨au3_1⟩
                    have n1_ : Aside0 ((((w8.setCell ⟨gb108, 0, none⟩ (.int .i64 ((rd_T62 l0_3 x8_1).f0))).setCell ⟨gb108, 1, none⟩ (.int .i64 ((rd_T62 l0_3 x8_1).f1))).setCell ⟨gb108, 2, none⟩ (.int .i64 ((rd_T62 l0_3 x8_1).f2))).heap[gb108]? = some (.cells #[.int .i64 ((rd_T62 l0_3 x8_1).f0), .int .i64 ((rd_T62 l0_3 x8_1).f1), .int .i64 ((rd_T62 l0_3 x8_1).f2)] 62 (0, 0))) := ⟨au3_0⟩
                    have n2_ : Aside0 (Below w.heap.size w (((w8.setCell ⟨gb108, 0, none⟩ (.int .i64 ((rd_T62 l0_3 x8_1).f0))).setCell ⟨gb108, 1, none⟩ (.int .i64 ((rd_T62 l0_3 x8_1).f1))).setCell ⟨gb108, 2, none⟩ (.int .i64 ((rd_T62 l0_3 x8_1).f2)))) := ⟨bl_⟩
                    (try clear BK106)
                    (try clear BK108)
                    (try clear HB)
                    generalize (((w8.setCell ⟨gb108, 0, none⟩ (.int .i64 ((rd_T62 l0_3 x8_1).f0))).setCell ⟨gb108, 1, none⟩ (.int .i64 ((rd_T62 l0_3 x8_1).f1))).setCell ⟨gb108, 2, none⟩ (.int .i64 ((rd_T62 l0_3 x8_1).f2))) = w30 at n0_ n1_ n2_ ⊢
                    have BK106 := n0_
                    have BK108 := n1_
                    have HB := n2_
                    clear n0_ n1_ n2_
                    have n0_ := Aside0.mk (blk_drew BK106.out)
                    have n1_ := Aside0.mk (blk_drew BK108.out)
                    have n2_ := Aside0.mk (below_drew1 HB.out)
                    clear BK106
                    clear BK108
                    clear HB
                    have BK106 := n0_
                    have BK108 := n1_
                    have HB := n2_
                    clear n0_ n1_ n2_
                    refine start_ (n := 42) (S := fun w' => w'.cell? ⟨gb108, 0, none⟩ = some (.int .i64 ((rd_T62 l0_3 x8_1).f0)) ∧ w'.cell? ⟨gb108, 1, none⟩ = some (.int .i64 ((rd_T62 l0_3 x8_1).f1)) ∧ w'.cell? ⟨gb108, 2, none⟩ = some (.int .i64 ((rd_T62 l0_3 x8_1).f2)) ∧ w'.cell? ⟨gb106, 0, none⟩ = some (.string a0_0) ∧ w'.cell? ⟨gb106, 1, none⟩ = some (.int .i64 a0_1) ∧ w'.cell? ⟨gb106, 2, none⟩ = some (.int .i64 a0_2) ∧ w'.cell? ⟨gb106, 3, none⟩ = some (.slice (some ad107) l0_3.length c0_3)) (ds := []) (bs 42 0) (by kernel_rfl) rfl rfl ⟨(blk_cell BK108.out 0).trans rfl, (blk_cell BK108.out 1).trans rfl, (blk_cell BK108.out 2).trans rfl, (blk_cell BK106.out 0).trans rfl, (blk_cell BK106.out 1).trans rfl, (blk_cell BK106.out 2).trans rfl, (blk_cell BK106.out 3).trans rfl⟩ (fun hHeld => ?_); refine with_tabW impl_PartnerRight.tab4 impl_PartnerRight.bits4 (fun HT_ HW_ => ?_)
                    generalize w30.drew = w31 at BK106 BK108 HB hHeld ⊢
                    refine pu_ 0 13 (bs 42 1) HT_ ?_ rfl rfl
                    refine pu_ 2 15 (bs 42 5) HT_ ?_ rfl rfl
                    refine tk_ 1 14 (bs 42 7) HT_ HW_ hHeld au3_2 ?_ rfl rfl
                    refine tk_ 3 16 (bs 42 15) HT_ HW_ hHeld au3_2 ?_ rfl rfl
                    refine one_ (i := 4) (N := some 17) (bs 42 31) rfl rfl (one_of HT_.out (by kernel_rfl)) (by decide) (fun K hK => ?_)
                    refine gr_ Try.func102 #[.int .i64 ((rd_T62 l0_3 x8_1).f0), .int .i64 a0_1, .int .i64 999999] (by rfl) ?_ rfl rfl rfl
                    with_reducible refine (impl_within.calls ((rd_T62 l0_3 x8_1).f0) a0_1 999999 true _ A11.out).mono ?_
                    rintro e w' ⟨rfl, ⟨nd, rfl⟩⟩
                    refine ⟨_, rfl, ?_⟩
                    refine hK.out _ _ ⟨(blk_cell BK108.out 0).trans rfl, (blk_cell BK108.out 1).trans rfl, (blk_cell BK108.out 2).trans rfl, (blk_cell BK106.out 0).trans rfl, (blk_cell BK106.out 1).trans rfl, (blk_cell BK106.out 2).trans rfl, (blk_cell BK106.out 3).trans rfl⟩ (fun hHeld => ?_)
                    clear hK K
                    refine norm_ (a' := ?_) ?_ ?_
                    rotate_left
                    · show Act.put _ (some 17) _ = _
                      simp only [Act.put, List.setIfInBounds_toArray, List.set_cons_zero, List.set_cons_succ, i64_w, i32_w]
                      rfl
                    refine pu_ 5 18 (bs 42 63) HT_ ?_ rfl rfl
                    refine pu_ 6 19 (bs 42 127) HT_ ?_ rfl rfl
                    refine pu_ 7 20 (bs 42 255) HT_ ?_ rfl rfl
                    refine pu_ 9 22 (bs 42 767) HT_ ?_ rfl rfl
                    refine tk_ 8 21 (bs 42 1023) HT_ HW_ hHeld au3_2 ?_ rfl rfl
                    refine tk_ 10 23 (bs 42 2047) HT_ HW_ hHeld au3_2 ?_ rfl rfl
                    refine pu_ 11 24 (bs 42 4095) HT_ ?_ rfl rfl
                    refine pu_ 12 25 (bs 42 8191) HT_ ?_ rfl rfl
                    refine pu_ 13 26 (bs 42 16383) HT_ ?_ rfl rfl
                    refine pu_ 14 27 (bs 42 32767) HT_ ?_ rfl rfl
                    refine pu_ 15 28 (bs 42 65535) HT_ ?_ rfl rfl
                    refine tk_ 16 29 (bs 42 131071) HT_ HW_ hHeld au3_2 ?_ rfl rfl
                    refine one_ (i := 17) (N := some 30) (bs 42 262143) rfl rfl (one_of HT_.out (by kernel_rfl)) (by decide) (fun K hK => ?_)
                    refine gr_ Try.func81 #[.int .i64 ((rd_T62 l0_3 x8_1).f1)] (by rfl) ?_ rfl rfl rfl
                    with_reducible refine (impl_isControl.calls ((rd_T62 l0_3 x8_1).f1) false _ A16.out).mono ?_
                    rintro e w' ⟨rfl, ⟨nd, rfl⟩⟩
                    refine ⟨_, rfl, ?_⟩
                    refine hK.out _ _ ⟨(blk_cell BK108.out 0).trans rfl, (blk_cell BK108.out 1).trans rfl, (blk_cell BK108.out 2).trans rfl, (blk_cell BK106.out 0).trans rfl, (blk_cell BK106.out 1).trans rfl, (blk_cell BK106.out 2).trans rfl, (blk_cell BK106.out 3).trans rfl⟩ (fun hHeld => ?_)
                    clear hK K
                    refine norm_ (a' := ?_) ?_ ?_
                    rotate_left
                    · show Act.put _ (some 30) _ = _
                      simp only [Act.put, List.setIfInBounds_toArray, List.set_cons_zero, List.set_cons_succ, i64_w, i32_w]
                      rfl
                    refine pu_ 18 31 (bs 42 524287) HT_ ?_ rfl rfl
                    refine pu_ 19 32 (bs 42 1048575) HT_ ?_ rfl rfl
                    refine pu_ 20 33 (bs 42 2097151) HT_ ?_ rfl rfl
                    refine pv_ 21 34 (bs 42 4194303) HT_ ?_ rfl rfl
                    refine pv_ 22 35 (bs 42 8388607) HT_ ?_ rfl rfl
                    refine pv_ 23 36 (bs 42 16777215) HT_ ?_ rfl rfl
                    refine pv_ 24 37 (bs 42 33554431) HT_ ?_ rfl rfl
                    refine pu_ 25 38 (bs 42 67108863) HT_ ?_ rfl rfl
                    refine pu_ 26 39 (bs 42 134217727) HT_ ?_ rfl rfl
                    refine pv_ 27 40 (bs 42 268435455) HT_ ?_ rfl rfl
                    refine pv_ 28 41 (bs 42 536870911) HT_ ?_ rfl rfl
                    refine pv_ 29 42 (bs 42 1073741823) HT_ ?_ rfl rfl
                    refine pv_ 30 43 (bs 42 2147483647) HT_ ?_ rfl rfl
                    refine pv_ 31 44 (bs 42 4294967295) HT_ ?_ rfl rfl
                    refine pv_ 32 45 (bs 42 8589934591) HT_ ?_ rfl rfl
                    refine pv_ 33 46 (bs 42 17179869183) HT_ ?_ rfl rfl
                    refine pv_ 34 47 (bs 42 34359738367) HT_ ?_ rfl rfl
                    refine pv_ 35 48 (bs 42 68719476735) HT_ ?_ rfl rfl
                    refine pv_ 36 49 (bs 42 137438953471) HT_ ?_ rfl rfl
                    refine pv_ 37 50 (bs 42 274877906943) HT_ ?_ rfl rfl
                    refine pv_ 38 51 (bs 42 549755813887) HT_ ?_ rfl rfl
                    refine pv_ 39 52 (bs 42 1099511627775) HT_ ?_ rfl rfl
                    refine pv_ 40 53 (bs 42 2199023255551) HT_ ?_ rfl rfl
                    refine pu_ 41 54 (bs 42 4398046511103) HT_ ?_ rfl rfl
                    refine done_ (done_of HT_.out (by kernel_rfl)) ?_
                    try go_wp2
                    go_meet
                    case rel => exact ⟨_, (true), er_, H', ⟨au3_5⟩, ⟨bk_ BK106⟩, ⟨bk_ BK108⟩, ⟨bl_⟩⟩
              · replace c12 := Bool.eq_false_iff.mpr c12
                subst c12
                have H1 : (impl_PartnerRight.j1 k1 l0_3 (l0_3.length : Int) x8_1 true a0_0 a0_1 a0_2 l0_3) = some r := by rw [if_neg (show ¬ (false = true) by decide)] at H; exact H
                clear H
                have H := H1
                clear H1
                have H' := Aside0.mk H
                clear H
                try go_wp2
                have n0_ : Aside0 ((((w8.setCell ⟨gb108, 0, none⟩ (.int .i64 ((rd_T62 l0_3 x8_1).f0))).setCell ⟨gb108, 1, none⟩ (.int .i64 ((rd_T62 l0_3 x8_1).f1))).setCell ⟨gb108, 2, none⟩ (.int .i64 ((rd_T62 l0_3 x8_1).f2))).heap[gb106]? = some (.cells #[.string a0_0, .int .i64 a0_1, .int .i64 a0_2, .slice (some ad107) l0_3.length c0_3] 51 (0, 0))) := ⟨au3_1⟩
                have n1_ : Aside0 ((((w8.setCell ⟨gb108, 0, none⟩ (.int .i64 ((rd_T62 l0_3 x8_1).f0))).setCell ⟨gb108, 1, none⟩ (.int .i64 ((rd_T62 l0_3 x8_1).f1))).setCell ⟨gb108, 2, none⟩ (.int .i64 ((rd_T62 l0_3 x8_1).f2))).heap[gb108]? = some (.cells #[.int .i64 ((rd_T62 l0_3 x8_1).f0), .int .i64 ((rd_T62 l0_3 x8_1).f1), .int .i64 ((rd_T62 l0_3 x8_1).f2)] 62 (0, 0))) := ⟨au3_0⟩
                have n2_ : Aside0 (Below w.heap.size w (((w8.setCell ⟨gb108, 0, none⟩ (.int .i64 ((rd_T62 l0_3 x8_1).f0))).setCell ⟨gb108, 1, none⟩ (.int .i64 ((rd_T62 l0_3 x8_1).f1))).setCell ⟨gb108, 2, none⟩ (.int .i64 ((rd_T62 l0_3 x8_1).f2)))) := ⟨bl_⟩
                (try clear BK106)
                (try clear BK108)
                (try clear HB)
                generalize (((w8.setCell ⟨gb108, 0, none⟩ (.int .i64 ((rd_T62 l0_3 x8_1).f0))).setCell ⟨gb108, 1, none⟩ (.int .i64 ((rd_T62 l0_3 x8_1).f1))).setCell ⟨gb108, 2, none⟩ (.int .i64 ((rd_T62 l0_3 x8_1).f2))) = w32 at n0_ n1_ n2_ ⊢
                have BK106 := n0_
                have BK108 := n1_
                have HB := n2_
                clear n0_ n1_ n2_
                have n0_ := Aside0.mk (blk_drew BK106.out)
                have n1_ := Aside0.mk (blk_drew BK108.out)
                have n2_ := Aside0.mk (below_drew1 HB.out)
                clear BK106
                clear BK108
                clear HB
                have BK106 := n0_
                have BK108 := n1_
                have HB := n2_
                clear n0_ n1_ n2_
                refine start_ (n := 42) (S := fun w' => w'.cell? ⟨gb108, 0, none⟩ = some (.int .i64 ((rd_T62 l0_3 x8_1).f0)) ∧ w'.cell? ⟨gb108, 1, none⟩ = some (.int .i64 ((rd_T62 l0_3 x8_1).f1)) ∧ w'.cell? ⟨gb108, 2, none⟩ = some (.int .i64 ((rd_T62 l0_3 x8_1).f2)) ∧ w'.cell? ⟨gb106, 0, none⟩ = some (.string a0_0) ∧ w'.cell? ⟨gb106, 1, none⟩ = some (.int .i64 a0_1) ∧ w'.cell? ⟨gb106, 2, none⟩ = some (.int .i64 a0_2) ∧ w'.cell? ⟨gb106, 3, none⟩ = some (.slice (some ad107) l0_3.length c0_3)) (ds := []) (bs 42 0) (by kernel_rfl) rfl rfl ⟨(blk_cell BK108.out 0).trans rfl, (blk_cell BK108.out 1).trans rfl, (blk_cell BK108.out 2).trans rfl, (blk_cell BK106.out 0).trans rfl, (blk_cell BK106.out 1).trans rfl, (blk_cell BK106.out 2).trans rfl, (blk_cell BK106.out 3).trans rfl⟩ (fun hHeld => ?_); refine with_tabW impl_PartnerRight.tab4 impl_PartnerRight.bits4 (fun HT_ HW_ => ?_)
                generalize w32.drew = w33 at BK106 BK108 HB hHeld ⊢
                refine pu_ 0 13 (bs 42 1) HT_ ?_ rfl rfl
                refine pu_ 2 15 (bs 42 5) HT_ ?_ rfl rfl
                refine tk_ 1 14 (bs 42 7) HT_ HW_ hHeld au3_2 ?_ rfl rfl
                refine tk_ 3 16 (bs 42 15) HT_ HW_ hHeld au3_2 ?_ rfl rfl
                refine one_ (i := 4) (N := some 17) (bs 42 31) rfl rfl (one_of HT_.out (by kernel_rfl)) (by decide) (fun K hK => ?_)
                refine gr_ Try.func102 #[.int .i64 ((rd_T62 l0_3 x8_1).f0), .int .i64 a0_1, .int .i64 999999] (by rfl) ?_ rfl rfl rfl
                with_reducible refine (impl_within.calls ((rd_T62 l0_3 x8_1).f0) a0_1 999999 false _ A11.out).mono ?_
                rintro e w' ⟨rfl, ⟨nd, rfl⟩⟩
                refine ⟨_, rfl, ?_⟩
                refine hK.out _ _ ⟨(blk_cell BK108.out 0).trans rfl, (blk_cell BK108.out 1).trans rfl, (blk_cell BK108.out 2).trans rfl, (blk_cell BK106.out 0).trans rfl, (blk_cell BK106.out 1).trans rfl, (blk_cell BK106.out 2).trans rfl, (blk_cell BK106.out 3).trans rfl⟩ (fun hHeld => ?_)
                clear hK K
                refine norm_ (a' := ?_) ?_ ?_
                rotate_left
                · show Act.put _ (some 17) _ = _
                  simp only [Act.put, List.setIfInBounds_toArray, List.set_cons_zero, List.set_cons_succ, i64_w, i32_w]
                  rfl
                refine pu_ 5 18 (bs 42 63) HT_ ?_ rfl rfl
                refine pu_ 6 19 (bs 42 127) HT_ ?_ rfl rfl
                refine pv_ 7 20 (bs 42 255) HT_ ?_ rfl rfl
                refine pv_ 8 21 (bs 42 511) HT_ ?_ rfl rfl
                refine pv_ 9 22 (bs 42 1023) HT_ ?_ rfl rfl
                refine pv_ 10 23 (bs 42 2047) HT_ ?_ rfl rfl
                refine pv_ 11 24 (bs 42 4095) HT_ ?_ rfl rfl
                refine pv_ 12 25 (bs 42 8191) HT_ ?_ rfl rfl
                refine pu_ 13 26 (bs 42 16383) HT_ ?_ rfl rfl
                refine pu_ 14 27 (bs 42 32767) HT_ ?_ rfl rfl
                refine pv_ 15 28 (bs 42 65535) HT_ ?_ rfl rfl
                refine pv_ 16 29 (bs 42 131071) HT_ ?_ rfl rfl
                refine pv_ 17 30 (bs 42 262143) HT_ ?_ rfl rfl
                refine pv_ 18 31 (bs 42 524287) HT_ ?_ rfl rfl
                refine pu_ 19 32 (bs 42 1048575) HT_ ?_ rfl rfl
                refine pu_ 20 33 (bs 42 2097151) HT_ ?_ rfl rfl
                refine pv_ 21 34 (bs 42 4194303) HT_ ?_ rfl rfl
                refine pv_ 22 35 (bs 42 8388607) HT_ ?_ rfl rfl
                refine pv_ 23 36 (bs 42 16777215) HT_ ?_ rfl rfl
                refine pv_ 24 37 (bs 42 33554431) HT_ ?_ rfl rfl
                refine pu_ 25 38 (bs 42 67108863) HT_ ?_ rfl rfl
                refine pu_ 26 39 (bs 42 134217727) HT_ ?_ rfl rfl
                refine pv_ 27 40 (bs 42 268435455) HT_ ?_ rfl rfl
                refine pv_ 28 41 (bs 42 536870911) HT_ ?_ rfl rfl
                refine pv_ 29 42 (bs 42 1073741823) HT_ ?_ rfl rfl
                refine pv_ 30 43 (bs 42 2147483647) HT_ ?_ rfl rfl
                refine pv_ 31 44 (bs 42 4294967295) HT_ ?_ rfl rfl
                refine pv_ 32 45 (bs 42 8589934591) HT_ ?_ rfl rfl
                refine pv_ 33 46 (bs 42 17179869183) HT_ ?_ rfl rfl
                refine pv_ 34 47 (bs 42 34359738367) HT_ ?_ rfl rfl
                refine pv_ 35 48 (bs 42 68719476735) HT_ ?_ rfl rfl
                refine pv_ 36 49 (bs 42 137438953471) HT_ ?_ rfl rfl
                refine pv_ 37 50 (bs 42 274877906943) HT_ ?_ rfl rfl
                refine pv_ 38 51 (bs 42 549755813887) HT_ ?_ rfl rfl
                refine pv_ 39 52 (bs 42 1099511627775) HT_ ?_ rfl rfl
                refine pv_ 40 53 (bs 42 2199023255551) HT_ ?_ rfl rfl
                refine pu_ 41 54 (bs 42 4398046511103) HT_ ?_ rfl rfl
                refine done_ (done_of HT_.out (by kernel_rfl)) ?_
                try go_wp2
                go_meet
                case rel => exact ⟨_, (true), er_, H', ⟨au3_5⟩, ⟨bk_ BK106⟩, ⟨bk_ BK108⟩, ⟨bl_⟩⟩
            case rest =>
              clear HC7
              try clear c1
              try clear p2
              try clear c8
              try clear c10
              try clear c12
              try clear c17
              obtain ⟨kq, x54_6, rfl, HA, HJ6, BK106, BK108, HB⟩ := hcut
              cases kq with
              | zero => exact absurd HA.out (by simp [impl_PartnerRight.j1])
              | succ kj6 =>
                have H := HA.out
                clear HA
                simp only [impl_PartnerRight.j1] at H
                by_cases c34 : x54_6 = true
                · subst c34
                  have H1 : (some false) = some r := by rw [if_pos rfl] at H; exact H
                  clear H
                  have H := H1
                  clear H1
                  obtain rfl := Option.some.inj H
                  go_wp2
                  go_ret
                  exact ⟨au3_4, bl_⟩
                · replace c34 := Bool.eq_false_iff.mpr c34
                  subst c34
                  have H1 : (impl_PartnerRight.l0 kj6 l0_3 (l0_3.length : Int) (wrap64 (x8_1 + 1)) a0_0 a0_1 a0_2 l0_3) = some r := by rw [if_neg (show ¬ (false = true) by decide)] at H; exact H
                  clear H
                  have H := H1
                  clear H1
                  have H' := Aside0.mk H
                  clear H
                  go_wp2
                  go_roundg kj6
                  case measure => have := HK1.out; have := HJ6.out; omega
                  case rel => exact ⟨(wrap64 (x8_1 + 1)), er_, H', ⟨by have := HK1.out; have := HJ6.out; omega⟩, ⟨bk_ BK106⟩, ⟨bl_⟩⟩
          · rw [if_neg c6] at H
            exact absurd H (by simp)
        · rw [if_neg c5] at H
          exact absurd H (by simp)
      · rw [if_neg c4] at H
        have c4b0 : decide (x8_1 < (l0_3.length : Int)) = false := decide_eq_false c4
        clear c4
        replace H := Option.bind_eq_some_iff.mp H
        obtain ⟨t113, A350, H⟩ := H
        replace H : (if t113 = true then ((impl_isControl.f a0_1).bind fun t114 => (if t114 = true then ((impl_isControl.f a0_2).bind fun t115 => (some t115)) else (some false))) else (some false)) = some r := H
        have A35 := Aside0.mk A350
        clear A350
        by_cases c36 : t113 = true
        · subst c36
          have H1 : ((impl_isControl.f a0_1).bind fun t114 => (if t114 = true then ((impl_isControl.f a0_2).bind fun t115 => (some t115)) else (some false))) = some r := by rw [if_pos rfl] at H; exact H
          clear H
          have H := H1
          clear H1
          replace H := Option.bind_eq_some_iff.mp H
          obtain ⟨t114, A370, H⟩ := H
          replace H : (if t114 = true then ((impl_isControl.f a0_2).bind fun t115 => (some t115)) else (some false)) = some r := H
          have A37 := Aside0.mk A370
          clear A370
          by_cases c38 : t114 = true
          · subst c38
            have H1 : ((impl_isControl.f a0_2).bind fun t115 => (some t115)) = some r := by rw [if_pos rfl] at H; exact H
            clear H
            have H := H1
            clear H1
            replace H := Option.bind_eq_some_iff.mp H
            obtain ⟨t115, A390, H⟩ := H
            replace H : (some t115) = some r := H
            have A39 := Aside0.mk A390
            clear A390
            obtain rfl := Option.some.inj H
            obtain ⟨hcz40_0, hcz40_1, hcz40_2, hcz40_3, hfz40_0, hfz40_1, hfz40_2, hfz40_3⟩ := cellsF4 BK106.out
            go_wp2_with (first | (go_at_call 56; (with_reducible refine (impl_isName.calls k1 a0_0 true _ A35.out).mono ?_); rintro e w' ⟨rfl, ⟨nd, rfl⟩⟩; (try clear A35)) | (go_at_call 81; (with_reducible refine (impl_isControl.calls a0_1 true _ A37.out).mono ?_); rintro e w' ⟨rfl, ⟨nd, rfl⟩⟩; (try clear A37)) | (go_at_call 81; (with_reducible refine (impl_isControl.calls a0_2 t115 _ A39.out).mono ?_); rintro e w' ⟨rfl, ⟨nd, rfl⟩⟩; (try clear A39)))
            go_ret
            exact ⟨au3_4, bl_⟩
          · replace c38 := Bool.eq_false_iff.mpr c38
            subst c38
            have H1 : (some false) = some r := by rw [if_neg (show ¬ (false = true) by decide)] at H; exact H
            clear H
            have H := H1
            clear H1
            obtain rfl := Option.some.inj H
            obtain ⟨hcz41_0, hcz41_1, hcz41_2, hcz41_3, hfz41_0, hfz41_1, hfz41_2, hfz41_3⟩ := cellsF4 BK106.out
            go_wp2_with (first | (go_at_call 56; (with_reducible refine (impl_isName.calls k1 a0_0 true _ A35.out).mono ?_); rintro e w' ⟨rfl, ⟨nd, rfl⟩⟩; (try clear A35)) | (go_at_call 81; (with_reducible refine (impl_isControl.calls a0_1 false _ A37.out).mono ?_); rintro e w' ⟨rfl, ⟨nd, rfl⟩⟩; (try clear A37)))
            go_ret
            exact ⟨au3_4, bl_⟩
        · replace c36 := Bool.eq_false_iff.mpr c36
          subst c36
          have H1 : (some false) = some r := by rw [if_neg (show ¬ (false = true) by decide)] at H; exact H
          clear H
          have H := H1
          clear H1
          obtain rfl := Option.some.inj H
          obtain ⟨hcz42_0, hcz42_1, hcz42_2, hcz42_3, hfz42_0, hfz42_1, hfz42_2, hfz42_3⟩ := cellsF4 BK106.out
          go_wp2_with (first | (go_at_call 56; (with_reducible refine (impl_isName.calls k1 a0_0 false _ A35.out).mono ?_); rintro e w' ⟨rfl, ⟨nd, rfl⟩⟩; (try clear A35)))
          go_ret
          exact ⟨au3_4, bl_⟩

end Go.Proofs.Ytjffakoifpldeaa.PFnTakeOnce
