-- printed by a program of this session (wip/xp/xprint.py) out of the translation; Lean checks it
import Derived.Test.YtchoalagkcdbhaaPFnExactSegmentsTextx0
import Derived.Test.YtchoalagkcdbhaaPFnExactSegmentsTextx2
namespace Go.Proofs.Ytchoalagkcdbhaa.PFnExactSegmentsText
open Go.RowKit Go.Proofs.YtchoalagkcdbhaaW.PrintWords Go.Proofs.YtchoalagkcdbhaaW.PrintLast Go.Proofs.YtchoalagkcdbhaaW.PrintMore
attribute [local go_sem] max2_int min2_int max_two min_two max_three min_three max_four min_four   -- for this text's walks alone
set_option linter.unusedVariables false
set_option linter.unusedSimpArgs false

theorem au3_0 {p : Prop} (h : p := by first | rfl | (simp [errW_none, errW_some] <;> rfl) | (simp [*, errW_none, errW_some] <;> rfl)) : p := h
theorem au3_1 {p : Prop} (h : p := by have := HJ1.out; have := HK2.out; first | omega | exact Nat.le_refl _) : p := h
theorem au3_2 {p : Prop} (h : p := by have := HJ1.out; have := HK2.out; have := HJ10.out; have := HK4.out; omega) : p := h

/-! ### spec_SegmentRight: function 34 -/
mutual
def spec_SegmentRight.j0 : Nat → Bool → ByteArray → List (S102) → Option (Bool)
  | 0, _, _, _ => none
  | k + 1, x15, x124000, x124001 => if x15 = true then (some false) else (spec_SegmentRight.l0 k 0 x124000 x124001)
def spec_SegmentRight.l0 : Nat → Int → ByteArray → List (S102) → Option (Bool)
  | 0, _, _, _ => none
  | k + 1, x3, x124000, x124001 => if x3 < (x124001.length : Int) then (if 0 ≤ x3 then (if (((rd_T102 x124001 x3).f0).length : Int) < 1 then (spec_SegmentRight.j2 k x3 ((rd_T102 x124001 x3).f0) true x124000 x124001) else (if (((rd_T102 x124001 x3).f0).length : Int) > 4 then (spec_SegmentRight.j2 k x3 ((rd_T102 x124001 x3).f0) true x124000 x124001) else (if (((rd_T102 x124001 x3).f0).length : Int) > 1 then (if 0 ≤ (wrap64 ((((rd_T102 x124001 x3).f0).length : Int) - 1)) then (if (wrap64 ((((rd_T102 x124001 x3).f0).length : Int) - 1)) < (((rd_T102 x124001 x3).f0).length : Int) then (spec_SegmentRight.j2 k x3 ((rd_T102 x124001 x3).f0) ((rdOf ByteArray.empty ((rd_T102 x124001 x3).f0) (wrap64 ((((rd_T102 x124001 x3).f0).length : Int) - 1))).toList == ([] : List UInt8)) x124000 x124001) else (none)) else (none)) else (spec_SegmentRight.j2 k x3 ((rd_T102 x124001 x3).f0) false x124000 x124001)))) else (none)) else (if (x124001.length : Int) = 0 then (some true) else (if 0 ≤ (wrap64 ((x124001.length : Int) - 1)) then (if (wrap64 ((x124001.length : Int) - 1)) < (x124001.length : Int) then ((spec_l02Empty.f ((rd_T102 x124001 (wrap64 ((x124001.length : Int) - 1))).f0)).bind fun t126 => (some (!t126))) else (none)) else (none)))
def spec_SegmentRight.j2 : Nat → Int → List ByteArray → Bool → ByteArray → List (S102) → Option (Bool)
  | 0, _, _, _, _, _ => none
  | k + 1, x3, x4, x50, x124000, x124001 => if x50 = true then (some false) else (spec_SegmentRight.l1 k x3 x4 0 x124000 x124001)
def spec_SegmentRight.l1 : Nat → Int → List ByteArray → Int → ByteArray → List (S102) → Option (Bool)
  | 0, _, _, _, _, _ => none
  | k + 1, x3, x4, x5, x124000, x124001 => if x5 < (x4.length : Int) then (if 0 ≤ x5 then ((spec_l02Part.f k (rdOf ByteArray.empty x4 x5)).bind fun t130 => (if t130 = true then (spec_SegmentRight.l1 k x3 x4 (wrap64 (x5 + 1)) x124000 x124001) else (some false))) else (none)) else (spec_SegmentRight.l0 k (wrap64 (x3 + 1)) x124000 x124001)
end
def spec_SegmentRight.f (k : Nat) (a0_0 : ByteArray) (l0_1 : List (S102)) : Option (Bool) := (spec_l02Tag.f k a0_0).bind fun t124 => (if t124 = true then (spec_SegmentRight.j0 k (decide ((l0_1.length : Int) > 10)) a0_0 l0_1) else (spec_SegmentRight.j0 k true a0_0 l0_1))
theorem spec_SegmentRight.mono_l : ∀ k, (∀ y0 y1 y2, LeO (spec_SegmentRight.j0 k y0 y1 y2) (spec_SegmentRight.j0 (k + 1) y0 y1 y2)) ∧ (∀ y0 y1 y2, LeO (spec_SegmentRight.l0 k y0 y1 y2) (spec_SegmentRight.l0 (k + 1) y0 y1 y2)) ∧ (∀ y0 y1 y2 y3 y4, LeO (spec_SegmentRight.j2 k y0 y1 y2 y3 y4) (spec_SegmentRight.j2 (k + 1) y0 y1 y2 y3 y4)) ∧ (∀ y0 y1 y2 y3 y4, LeO (spec_SegmentRight.l1 k y0 y1 y2 y3 y4) (spec_SegmentRight.l1 (k + 1) y0 y1 y2 y3 y4))
  | 0 => ⟨fun _ _ _ r h => by simp [spec_SegmentRight.j0] at h, fun _ _ _ r h => by simp [spec_SegmentRight.l0] at h, fun _ _ _ _ _ r h => by simp [spec_SegmentRight.j2] at h, fun _ _ _ _ _ r h => by simp [spec_SegmentRight.l1] at h⟩
  | k + 1 => by
    obtain ⟨ih0, ih1, ih2, ih3⟩ := spec_SegmentRight.mono_l k
    refine ⟨?_, ?_, ?_, ?_⟩
    · intro y0 y1 y2
      unfold spec_SegmentRight.j0
      repeat' first
      | (with_reducible exact ih0 _ _ _)
      | (with_reducible exact ih1 _ _ _)
      | (with_reducible exact ih2 _ _ _ _ _)
      | (with_reducible exact ih3 _ _ _ _ _)
      | (with_reducible exact spec_l02Part.mono _ _)
      | (with_reducible exact spec_l02Tag.mono _ _)
      | (with_reducible exact LeO.refl _)
      | (with_reducible exact LeO.none _)
      | (with_reducible refine LeO.ite ?_ ?_)
      | (with_reducible refine LeO.bind ?_ (fun _ => ?_))
      | exact ih0 _ _ _
      | exact ih1 _ _ _
      | exact ih2 _ _ _ _ _
      | exact ih3 _ _ _ _ _
      | exact spec_l02Part.mono _ _
      | exact spec_l02Tag.mono _ _
      | exact LeO.none _
      | refine LeO.ite ?_ ?_
      | refine LeO.bind ?_ (fun _ => ?_)
    · intro y0 y1 y2
      unfold spec_SegmentRight.l0
      repeat' first
      | (with_reducible exact ih0 _ _ _)
      | (with_reducible exact ih1 _ _ _)
      | (with_reducible exact ih2 _ _ _ _ _)
      | (with_reducible exact ih3 _ _ _ _ _)
      | (with_reducible exact spec_l02Part.mono _ _)
      | (with_reducible exact spec_l02Tag.mono _ _)
      | (with_reducible exact LeO.refl _)
      | (with_reducible exact LeO.none _)
      | (with_reducible refine LeO.ite ?_ ?_)
      | (with_reducible refine LeO.bind ?_ (fun _ => ?_))
      | exact ih0 _ _ _
      | exact ih1 _ _ _
      | exact ih2 _ _ _ _ _
      | exact ih3 _ _ _ _ _
      | exact spec_l02Part.mono _ _
      | exact spec_l02Tag.mono _ _
      | exact LeO.none _
      | refine LeO.ite ?_ ?_
      | refine LeO.bind ?_ (fun _ => ?_)
    · intro y0 y1 y2 y3 y4
      unfold spec_SegmentRight.j2
      repeat' first
      | (with_reducible exact ih0 _ _ _)
      | (with_reducible exact ih1 _ _ _)
      | (with_reducible exact ih2 _ _ _ _ _)
      | (with_reducible exact ih3 _ _ _ _ _)
      | (with_reducible exact spec_l02Part.mono _ _)
      | (with_reducible exact spec_l02Tag.mono _ _)
      | (with_reducible exact LeO.refl _)
      | (with_reducible exact LeO.none _)
      | (with_reducible refine LeO.ite ?_ ?_)
      | (with_reducible refine LeO.bind ?_ (fun _ => ?_))
      | exact ih0 _ _ _
      | exact ih1 _ _ _
      | exact ih2 _ _ _ _ _
      | exact ih3 _ _ _ _ _
      | exact spec_l02Part.mono _ _
      | exact spec_l02Tag.mono _ _
      | exact LeO.none _
      | refine LeO.ite ?_ ?_
      | refine LeO.bind ?_ (fun _ => ?_)
    · intro y0 y1 y2 y3 y4
      unfold spec_SegmentRight.l1
      repeat' first
      | (with_reducible exact ih0 _ _ _)
      | (with_reducible exact ih1 _ _ _)
      | (with_reducible exact ih2 _ _ _ _ _)
      | (with_reducible exact ih3 _ _ _ _ _)
      | (with_reducible exact spec_l02Part.mono _ _)
      | (with_reducible exact spec_l02Tag.mono _ _)
      | (with_reducible exact LeO.refl _)
      | (with_reducible exact LeO.none _)
      | (with_reducible refine LeO.ite ?_ ?_)
      | (with_reducible refine LeO.bind ?_ (fun _ => ?_))
      | exact ih0 _ _ _
      | exact ih1 _ _ _
      | exact ih2 _ _ _ _ _
      | exact ih3 _ _ _ _ _
      | exact spec_l02Part.mono _ _
      | exact spec_l02Tag.mono _ _
      | exact LeO.none _
      | refine LeO.ite ?_ ?_
      | refine LeO.bind ?_ (fun _ => ?_)
theorem spec_SegmentRight.mono : ∀ a0 a1 k, LeO (spec_SegmentRight.f k a0 a1) (spec_SegmentRight.f (k + 1) a0 a1) := by
  intro a0 a1 k
  obtain ⟨ih0, ih1, ih2, ih3⟩ := spec_SegmentRight.mono_l k
  unfold spec_SegmentRight.f
  repeat' first
      | (with_reducible exact ih0 _ _ _)
      | (with_reducible exact ih1 _ _ _)
      | (with_reducible exact ih2 _ _ _ _ _)
      | (with_reducible exact ih3 _ _ _ _ _)
      | (with_reducible exact spec_l02Part.mono _ _)
      | (with_reducible exact spec_l02Tag.mono _ _)
      | (with_reducible exact LeO.refl _)
      | (with_reducible exact LeO.none _)
      | (with_reducible refine LeO.ite ?_ ?_)
      | (with_reducible refine LeO.bind ?_ (fun _ => ?_))
      | exact ih0 _ _ _
      | exact ih1 _ _ _
      | exact ih2 _ _ _ _ _
      | exact ih3 _ _ _ _ _
      | exact spec_l02Part.mono _ _
      | exact spec_l02Tag.mono _ _
      | exact LeO.none _
      | refine LeO.ite ?_ ?_
      | refine LeO.bind ?_ (fun _ => ?_)
set_option maxHeartbeats 8000000 in
set_option maxRecDepth 100000 in
theorem spec_SegmentRight.calls (k : Nat) (a0_0 : ByteArray) (A0_1 : Option Addr) (c0_1 : Nat) (l0_1 : List (S102)) (r : Bool) (w : World) (hr0_1 : Kd.C k102 w A0_1 l0_1.length l0_1) (hc0_1 : l0_1.length ≤ c0_1) (h : spec_SegmentRight.f k a0_0 l0_1 = some r) :
    Calls Try.prog 34 #[.agg #[.string a0_0, .slice A0_1 l0_1.length c0_1]] w fun e w' => e = .returned (.bool r) ∧ Below w.heap.size w w' := by
  have hu59 := Try.underlying59
  have hu102 := Try.underlying102
  have HR0_1 := Aside0.mk hr0_1
  have HC0_1 := Aside0.mk hc0_1
  clear hr0_1 hc0_1
  have HB := Aside0.mk (Below.refl w.heap.size w)
  have H : ((spec_l02Tag.f k a0_0).bind fun t124 => (if t124 = true then (spec_SegmentRight.j0 k (decide ((l0_1.length : Int) > 10)) a0_0 l0_1) else (spec_SegmentRight.j0 k true a0_0 l0_1))) = some r := h
  clear h
  have HC2 := Aside0.mk H
  clear H
  go_enter Try.func34, Try.ntmps34
  go_upto_region 1 with (first | ((with_reducible refine gate_dst (N := 1) rfl ?_); (try (refine gate_guard (by rfl) ?_; dsimp only)); refine box_event ?hg (N := 1) ?hd (cs := #[.string a0_0, .slice A0_1 l0_1.length c0_1]) (t := 59) ?hr ?_; (case hd => rfl); (case hg => rfl); (case hr => exact hr_); intro gb123 hg w3 hbox hb; have n0_ := Aside0.mk (below_step bl_ hb); have n1_ := Aside0.mk (hbox); have n2_ := Aside0.mk (gw_ hg bl_); have n3_ := Aside0.mk (gw_ hg bl_); clear HB; have HB := n0_; have BK123 := n1_; have GW123 := n2_; have GE123 := n3_; clear n0_ n1_ n2_ n3_; clear hb hbox hg))
  (try simp only [Act.put, List.setIfInBounds_toArray, List.set_cons_zero, List.set_cons_succ])
  go_cut [15] (fun v15 wc => ∃ (kq : Nat) (x15_1 : Bool), v15 = .bool x15_1 ∧ Aside0 (spec_SegmentRight.j0 kq x15_1 a0_0 l0_1 = some r) ∧ Aside0 (kq ≤ k) ∧ Aside0 (wc.heap[gb123]? = some (.cells #[.string a0_0, (.slice A0_1 l0_1.length c0_1)] 59 (0, 0))) ∧ Aside0 (Below w.heap.size w wc))
  case first =>
    have H := HC2.out
    clear HC2
    replace H := Option.bind_eq_some_iff.mp H
    obtain ⟨t124, A40, H⟩ := H
    replace H : (if t124 = true then (spec_SegmentRight.j0 k (decide ((l0_1.length : Int) > 10)) a0_0 l0_1) else (spec_SegmentRight.j0 k true a0_0 l0_1)) = some r := H
    have A4 := Aside0.mk A40
    clear A40
    by_cases c5 : t124 = true
    · subst c5
      have H1 : (spec_SegmentRight.j0 k (decide ((l0_1.length : Int) > 10)) a0_0 l0_1) = some r := by rw [if_pos rfl] at H; exact H
      clear H
      have H := H1
      clear H1
      have H' := Aside0.mk H
      clear H
      obtain ⟨hcz6_0, hcz6_1, hfz6_0, hfz6_1⟩ := cellsF2 BK123.out
      go_wp2_with (first | (go_at_call 75; (with_reducible refine (spec_l02Tag.calls k a0_0 true _ A4.out).mono ?_); rintro e w' ⟨rfl, ⟨nd, rfl⟩⟩; (try clear A4)))
      go_meet
      case rel => exact ⟨_, (decide ((l0_1.length : Int) > 10)), er_, H', ⟨by first | omega | exact Nat.le_refl _⟩, ⟨bk_ BK123⟩, ⟨bl_⟩⟩
    · replace c5 := Bool.eq_false_iff.mpr c5
      subst c5
      have H1 : (spec_SegmentRight.j0 k true a0_0 l0_1) = some r := by rw [if_neg (show ¬ (false = true) by decide)] at H; exact H
      clear H
      have H := H1
      clear H1
      have H' := Aside0.mk H
      clear H
      obtain ⟨hcz7_0, hcz7_1, hfz7_0, hfz7_1⟩ := cellsF2 BK123.out
      go_wp2_with (first | (go_at_call 75; (with_reducible refine (spec_l02Tag.calls k a0_0 false _ A4.out).mono ?_); rintro e w' ⟨rfl, ⟨nd, rfl⟩⟩; (try clear A4)))
      go_meet
      case rel => exact ⟨_, (true), er_, H', ⟨by first | omega | exact Nat.le_refl _⟩, ⟨bk_ BK123⟩, ⟨bl_⟩⟩
  case rest =>
    clear HC2
    try clear p2
    try clear c3
    try clear c5
    try clear hcz6_0
    try clear hcz6_1
    try clear hcz7_0
    try clear hcz7_1
    try clear hfz6_0
    try clear hfz6_1
    try clear hfz7_0
    try clear hfz7_1
    obtain ⟨kq, x15_1, rfl, HA, HJ1, BK123, HB⟩ := hcut
    cases kq with
    | zero => exact absurd HA.out (by simp [spec_SegmentRight.j0])
    | succ kj1 =>
      have H := HA.out
      clear HA
      simp only [spec_SegmentRight.j0] at H
      by_cases c8 : x15_1 = true
      · subst c8
        have H1 : (some false) = some r := by rw [if_pos rfl] at H; exact H
        clear H
        have H := H1
        clear H1
        obtain rfl := Option.some.inj H
        go_wp2
        go_ret
        exact ⟨au3_0, bl_⟩
      · replace c8 := Bool.eq_false_iff.mpr c8
        subst c8
        have H1 : (spec_SegmentRight.l0 kj1 0 a0_0 l0_1) = some r := by rw [if_neg (show ¬ (false = true) by decide)] at H; exact H
        clear H
        have H := H1
        clear H1
        have H' := Aside0.mk H
        clear H
        go_wp2
        go_loopg [3] kj1 (fun kq v3 w' => ∃ (x3_2 : Int), v3 = .int .i64 x3_2 ∧ Aside0 (spec_SegmentRight.l0 kq x3_2 a0_0 l0_1 = some r) ∧ Aside0 (kq ≤ kj1) ∧ Aside0 (w'.heap[gb123]? = some (.cells #[.string a0_0, (.slice A0_1 l0_1.length c0_1)] 59 (0, 0))) ∧ Aside0 (Below w.heap.size w w'))
        case atStart => exact ⟨(0), er_, H', ⟨Nat.le_refl _⟩, ⟨bk_ BK123⟩, ⟨bl_⟩⟩
        case round =>
          clear H'
          try clear p2
          try clear c3
          try clear c5
          try clear c8
          try clear hcz6_0
          try clear hcz6_1
          try clear hcz7_0
          try clear hcz7_1
          try clear hfz6_0
          try clear hfz6_1
          try clear hfz7_0
          try clear hfz7_1
          try clear p2
          obtain ⟨x3_2, rfl, HA, HK2, BK123, HB⟩ := hrel
          cases gk with
          | zero => exact absurd HA.out (by simp [spec_SegmentRight.l0])
          | succ k2 =>
            have H := HA.out
            clear HA
            simp only [spec_SegmentRight.l0] at H
            by_cases c9 : x3_2 < (l0_1.length : Int)
            · rw [if_pos c9] at H
              have c9b0 : decide (x3_2 < (l0_1.length : Int)) = true := decide_eq_true c9
              clear c9
              by_cases c10 : 0 ≤ x3_2
              · rw [if_pos c10] at H
                have c10b0 : decide (0 ≤ x3_2) = true := decide_eq_true c10
                clear c10
                have HC11 := Aside0.mk H
                clear H
                obtain ⟨hcz12_0, hcz12_1, hfz12_0, hfz12_1⟩ := cellsF2 BK123.out
                have p127 : 0 ≤ (x3_2 : Int) := of_decide_eq_true as_
                have q127 : x3_2 < (l0_1.length : Int) := of_decide_eq_true as_
                obtain ⟨ad127, A127_0, c127_0, e127, hx127_0, hl127_0, hi127_0⟩ := at_T102 HR0_1.out x3_2 p127 q127
                cases e127
                replace hx127_0 := (HB.out.cell (World.block_lt_of_cell? _ _ hx127_0)).trans hx127_0
                have HR127_0 := Aside0.mk hi127_0
                have HC127_0 := Aside0.mk hl127_0
                clear hi127_0 hl127_0
                replace p127 := eq_true p127
                replace q127 := eq_true q127
                go_upto_region 7 with (fail)
                go_cut [50] (fun v50 wc => ∃ (kq : Nat) (x50_10 : Bool), v50 = .bool x50_10 ∧ Aside0 (spec_SegmentRight.j2 kq x3_2 ((rd_T102 l0_1 x3_2).f0) x50_10 a0_0 l0_1 = some r) ∧ Aside0 (kq ≤ k2) ∧ Aside0 (wc.heap[gb123]? = some (.cells #[.string a0_0, (.slice (some ad127) l0_1.length c0_1)] 59 (0, 0))) ∧ Aside0 (Below w.heap.size w wc))
                case first =>
                  have H := HC11.out
                  clear HC11
                  by_cases c13 : (((rd_T102 l0_1 x3_2).f0).length : Int) < 1
                  · rw [if_pos c13] at H
                    have c13b0 : decide ((((rd_T102 l0_1 x3_2).f0).length : Int) < 1) = true := decide_eq_true c13
                    have c13b1 : decide (((rd_T102 l0_1 x3_2).f0).length < 1) = true := decide_eq_true (by omega)
                    clear c13
                    (first | rw [c13b0] | (simp only [i64_w, i32_w]; rw [c13b0]) | skip)
                    have H' := Aside0.mk H
                    clear H
                    go_wp2
                    go_meet
                    case rel => exact ⟨_, (true), er_, H', ⟨au3_1⟩, ⟨bk_ BK123⟩, ⟨bl_⟩⟩
                  · rw [if_neg c13] at H
                    have c13b0 : decide ((((rd_T102 l0_1 x3_2).f0).length : Int) < 1) = false := decide_eq_false c13
                    have c13b1 : decide (((rd_T102 l0_1 x3_2).f0).length < 1) = false := decide_eq_false (by omega)
                    clear c13
                    (first | rw [c13b0] | (simp only [i64_w, i32_w]; rw [c13b0]) | skip)
                    by_cases c14 : (((rd_T102 l0_1 x3_2).f0).length : Int) > 4
                    · rw [if_pos c14] at H
                      have c14b0 : decide (4 < (((rd_T102 l0_1 x3_2).f0).length : Int)) = true := decide_eq_true c14
                      have c14b1 : decide (4 < ((rd_T102 l0_1 x3_2).f0).length) = true := decide_eq_true (by omega)
                      clear c14
                      have H' := Aside0.mk H
                      clear H
                      go_wp2
                      go_meet
                      case rel => exact ⟨_, (true), er_, H', ⟨au3_1⟩, ⟨bk_ BK123⟩, ⟨bl_⟩⟩
                    · rw [if_neg c14] at H
                      have c14b0 : decide (4 < (((rd_T102 l0_1 x3_2).f0).length : Int)) = false := decide_eq_false c14
                      have c14b1 : decide (4 < ((rd_T102 l0_1 x3_2).f0).length) = false := decide_eq_false (by omega)
                      clear c14
                      by_cases c15 : (((rd_T102 l0_1 x3_2).f0).length : Int) > 1
                      · rw [if_pos c15] at H
                        have c15b0 : decide (1 < (((rd_T102 l0_1 x3_2).f0).length : Int)) = true := decide_eq_true c15
                        have c15b1 : decide (1 < ((rd_T102 l0_1 x3_2).f0).length) = true := decide_eq_true (by omega)
                        clear c15
                        obtain ⟨ji16, hji16⟩ : ∃ j_ : Int, (wrap64 ((((rd_T102 l0_1 x3_2).f0).length : Int) - 1)) = j_ := ⟨_, rfl⟩
                        replace H : (if 0 ≤ (ji16) then (if (ji16) < (((rd_T102 l0_1 x3_2).f0).length : Int) then (spec_SegmentRight.j2 k2 x3_2 ((rd_T102 l0_1 x3_2).f0) ((rdOf ByteArray.empty ((rd_T102 l0_1 x3_2).f0) (ji16)).toList == ([] : List UInt8)) a0_0 l0_1) else (none)) else (none)) = some r := by first | (rw [hji16] at H; exact H) | (simp only [hji16] at H ⊢; exact H)
                        have hji16w : (IntKind.i64.wrap ((((rd_T102 l0_1 x3_2).f0).length : Int) - 1)) = ji16 := (i64_w _).trans hji16
                        by_cases c17 : 0 ≤ (ji16)
                        · rw [if_pos c17] at H
                          have c17b0 : decide (0 ≤ (ji16)) = true := decide_eq_true c17
                          clear c17
                          by_cases c18 : (ji16) < (((rd_T102 l0_1 x3_2).f0).length : Int)
                          · rw [if_pos c18] at H
                            have c18b0 : decide ((ji16) < (((rd_T102 l0_1 x3_2).f0).length : Int)) = true := decide_eq_true c18
                            clear c18
                            have H' := Aside0.mk H
                            clear H
                            have p128 : 0 ≤ ((ji16) : Int) := of_decide_eq_true as_
                            have q128 : (ji16) < (((rd_T102 l0_1 x3_2).f0).length : Int) := of_decide_eq_true as_
                            obtain ⟨ad128, e128, hx128_0⟩ := Kd.at_string HR127_0.out (ji16) p128 q128
                            cases e128
                            replace hx128_0 := (HB.out.cell (World.block_lt_of_cell? _ _ hx128_0)).trans hx128_0
                            replace p128 := eq_true p128
                            replace q128 := eq_true q128
                            go_wp2
                            go_meet
                            case rel => exact ⟨_, (((rdOf ByteArray.empty ((rd_T102 l0_1 x3_2).f0) (ji16)).toList == ([] : List UInt8))), (by first | rfl | (simp; done) | (simp only [← hji16] <;> (first | rfl | simp)) | (simp [*]; done)), H', ⟨au3_1⟩, ⟨bk_ BK123⟩, ⟨bl_⟩⟩
                          · rw [if_neg c18] at H
                            exact absurd H (by simp)
                        · rw [if_neg c17] at H
                          exact absurd H (by simp)
                      · rw [if_neg c15] at H
                        have c15b0 : decide (1 < (((rd_T102 l0_1 x3_2).f0).length : Int)) = false := decide_eq_false c15
                        have c15b1 : decide (1 < ((rd_T102 l0_1 x3_2).f0).length) = false := decide_eq_false (by omega)
                        clear c15
                        have H' := Aside0.mk H
                        clear H
                        go_wp2
                        go_meet
                        case rel => exact ⟨_, (false), er_, H', ⟨au3_1⟩, ⟨bk_ BK123⟩, ⟨bl_⟩⟩
                case rest =>
                  clear HC11
                  try clear c1
                  try clear p1
                  try clear q1
                  try clear hx1
                  try clear p2
                  try clear c3
                  try clear c5
                  try clear p6
                  try clear c8
                  try clear c9
                  try clear c9b0
                  try clear c10
                  try clear c10b0
                  try clear c12
                  try clear p12
                  try clear q12
                  try clear hx12
                  try clear c13
                  try clear c13b0
                  try clear c13b1
                  try clear c14
                  try clear c14b0
                  try clear c14b1
                  try clear c15
                  try clear c15b0
                  try clear c15b1
                  try clear c17
                  try clear c17b0
                  try clear c18
                  try clear c18b0
                  try clear hcz12_0
                  try clear hcz12_1
                  try clear hcz6_0
                  try clear hcz6_1
                  try clear hcz7_0
                  try clear hcz7_1
                  try clear hfz12_0
                  try clear hfz12_1
                  try clear hfz6_0
                  try clear hfz6_1
                  try clear hfz7_0
                  try clear hfz7_1
                  try clear hx127_0
                  try clear hx128_0
                  try clear p127
                  try clear p128
                  try clear p2
                  try clear q127
                  try clear q128
                  obtain ⟨kq, x50_10, rfl, HA, HJ10, BK123, HB⟩ := hcut
                  cases kq with
                  | zero => exact absurd HA.out (by simp [spec_SegmentRight.j2])
                  | succ kj10 =>
                    have H := HA.out
                    clear HA
                    simp only [spec_SegmentRight.j2] at H
                    by_cases c19 : x50_10 = true
                    · subst c19
                      have H1 : (some false) = some r := by rw [if_pos rfl] at H; exact H
                      clear H
                      have H := H1
                      clear H1
                      obtain rfl := Option.some.inj H
                      go_wp2
                      go_ret
                      exact ⟨au3_0, bl_⟩
                    · replace c19 := Bool.eq_false_iff.mpr c19
                      subst c19
                      have H1 : (spec_SegmentRight.l1 kj10 x3_2 ((rd_T102 l0_1 x3_2).f0) 0 a0_0 l0_1) = some r := by rw [if_neg (show ¬ (false = true) by decide)] at H; exact H
                      clear H
                      have H := H1
                      clear H1
                      have H' := Aside0.mk H
                      clear H
                      go_wp2
                      go_loopg [5] kj10 (fun kq v5 w' => ∃ (x5_4 : Int), v5 = .int .i64 x5_4 ∧ Aside0 (spec_SegmentRight.l1 kq x3_2 ((rd_T102 l0_1 x3_2).f0) x5_4 a0_0 l0_1 = some r) ∧ Aside0 (kq ≤ kj10) ∧ Aside0 (w'.heap[gb123]? = some (.cells #[.string a0_0, (.slice (some ad127) l0_1.length c0_1)] 59 (0, 0))) ∧ Aside0 (Below w.heap.size w w'))
                      case atStart => exact ⟨(0), er_, H', ⟨Nat.le_refl _⟩, ⟨bk_ BK123⟩, ⟨bl_⟩⟩
                      case round =>
                        clear H'
                        try clear c1
                        try clear p1
                        try clear q1
                        try clear hx1
                        try clear p2
                        try clear c3
                        try clear c5
                        try clear p6
                        try clear c8
                        try clear c9
                        try clear c9b0
                        try clear c10
                        try clear c10b0
                        try clear c12
                        try clear p12
                        try clear q12
                        try clear hx12
                        try clear c13
                        try clear c13b0
                        try clear c13b1
                        try clear c14
                        try clear c14b0
                        try clear c14b1
                        try clear c15
                        try clear c15b0
                        try clear c15b1
                        try clear c17
                        try clear c17b0
                        try clear c18
                        try clear c18b0
                        try clear c19
                        try clear hcz12_0
                        try clear hcz12_1
                        try clear hcz6_0
                        try clear hcz6_1
                        try clear hcz7_0
                        try clear hcz7_1
                        try clear hfz12_0
                        try clear hfz12_1
                        try clear hfz6_0
                        try clear hfz6_1
                        try clear hfz7_0
                        try clear hfz7_1
                        try clear hx127_0
                        try clear hx128_0
                        try clear p1
                        try clear p12
                        try clear p127
                        try clear p128
                        try clear p2
                        try clear p6
                        try clear q1
                        try clear q12
                        try clear q127
                        try clear q128
                        obtain ⟨x5_4, rfl, HA, HK4, BK123, HB⟩ := hrel
                        cases gk with
                        | zero => exact absurd HA.out (by simp [spec_SegmentRight.l1])
                        | succ k4 =>
                          have H := HA.out
                          clear HA
                          simp only [spec_SegmentRight.l1] at H
                          by_cases c20 : x5_4 < (((rd_T102 l0_1 x3_2).f0).length : Int)
                          · rw [if_pos c20] at H
                            have c20b0 : decide (x5_4 < (((rd_T102 l0_1 x3_2).f0).length : Int)) = true := decide_eq_true c20
                            clear c20
                            by_cases c21 : 0 ≤ x5_4
                            · rw [if_pos c21] at H
                              have c21b0 : decide (0 ≤ x5_4) = true := decide_eq_true c21
                              clear c21
                              replace H := Option.bind_eq_some_iff.mp H
                              obtain ⟨t130, A220, H⟩ := H
                              replace H : (if t130 = true then (spec_SegmentRight.l1 k4 x3_2 ((rd_T102 l0_1 x3_2).f0) (wrap64 (x5_4 + 1)) a0_0 l0_1) else (some false)) = some r := H
                              have A22 := Aside0.mk A220
                              clear A220
                              by_cases c23 : t130 = true
                              · subst c23
                                have H1 : (spec_SegmentRight.l1 k4 x3_2 ((rd_T102 l0_1 x3_2).f0) (wrap64 (x5_4 + 1)) a0_0 l0_1) = some r := by rw [if_pos rfl] at H; exact H
                                clear H
                                have H := H1
                                clear H1
                                have H' := Aside0.mk H
                                clear H
                                have p129 : 0 ≤ (x5_4 : Int) := of_decide_eq_true as_
                                have q129 : x5_4 < (((rd_T102 l0_1 x3_2).f0).length : Int) := of_decide_eq_true as_
                                obtain ⟨ad129, e129, hx129_0⟩ := Kd.at_string HR127_0.out x5_4 p129 q129
                                cases e129
                                replace hx129_0 := (HB.out.cell (World.block_lt_of_cell? _ _ hx129_0)).trans hx129_0
                                replace p129 := eq_true p129
                                replace q129 := eq_true q129
                                go_wp2_with (first | (go_at_call 76; (with_reducible refine (spec_l02Part.calls k4 (rdOf ByteArray.empty ((rd_T102 l0_1 x3_2).f0) x5_4) true _ A22.out).mono ?_); rintro e w' ⟨rfl, ⟨nd, rfl⟩⟩; (try clear A22)))
                                go_roundg k4
                                case measure => have := HJ1.out; have := HK2.out; have := HJ10.out; have := HK4.out; omega
                                case rel => exact ⟨(wrap64 (x5_4 + 1)), er_, H', ⟨au3_2⟩, ⟨bk_ BK123⟩, ⟨bl_⟩⟩
                              · replace c23 := Bool.eq_false_iff.mpr c23
                                subst c23
                                have H1 : (some false) = some r := by rw [if_neg (show ¬ (false = true) by decide)] at H; exact H
                                clear H
                                have H := H1
                                clear H1
                                obtain rfl := Option.some.inj H
                                have p129 : 0 ≤ (x5_4 : Int) := of_decide_eq_true as_
                                have q129 : x5_4 < (((rd_T102 l0_1 x3_2).f0).length : Int) := of_decide_eq_true as_
                                obtain ⟨ad129, e129, hx129_0⟩ := Kd.at_string HR127_0.out x5_4 p129 q129
                                cases e129
                                replace hx129_0 := (HB.out.cell (World.block_lt_of_cell? _ _ hx129_0)).trans hx129_0
                                replace p129 := eq_true p129
                                replace q129 := eq_true q129
                                go_wp2_with (first | (go_at_call 76; (with_reducible refine (spec_l02Part.calls k4 (rdOf ByteArray.empty ((rd_T102 l0_1 x3_2).f0) x5_4) false _ A22.out).mono ?_); rintro e w' ⟨rfl, ⟨nd, rfl⟩⟩; (try clear A22)))
                                go_ret
                                exact ⟨au3_0, bl_⟩
                            · rw [if_neg c21] at H
                              exact absurd H (by simp)
                          · rw [if_neg c20] at H
                            have c20b0 : decide (x5_4 < (((rd_T102 l0_1 x3_2).f0).length : Int)) = false := decide_eq_false c20
                            clear c20
                            have H' := Aside0.mk H
                            clear H
                            go_wp2
                            go_roundg k4
                            case measure => have := HJ1.out; have := HK2.out; have := HJ10.out; have := HK4.out; omega
                            case rel => exact ⟨(wrap64 (x3_2 + 1)), er_, H', ⟨au3_2⟩, ⟨bk_ BK123⟩, ⟨bl_⟩⟩
              · rw [if_neg c10] at H
                exact absurd H (by simp)
            · rw [if_neg c9] at H
              have c9b0 : decide (x3_2 < (l0_1.length : Int)) = false := decide_eq_false c9
              clear c9
              by_cases c24 : (l0_1.length : Int) = 0
              · rw [if_pos c24] at H
                have c24b0 : ((l0_1.length : Int) == 0) = true := beq_iff_eq.mpr c24
                have c24b1 : ((l0_1.length : Int) != 0) = false := bne_eq_false_iff_eq.mpr c24
                clear c24
                obtain rfl := Option.some.inj H
                obtain ⟨hcz25_0, hcz25_1, hfz25_0, hfz25_1⟩ := cellsF2 BK123.out
                go_wp2
                go_ret
                exact ⟨au3_0, bl_⟩
              · rw [if_neg c24] at H
                have c24b0 : ((l0_1.length : Int) == 0) = false := beq_eq_false_iff_ne.mpr c24
                have c24b1 : ((l0_1.length : Int) != 0) = true := bne_iff_ne.mpr c24
                have c24b2 : ¬ (l0_1 = []) := fun h_ => c24 (by rw [h_]; rfl)
                obtain ⟨ji26, hji26⟩ : ∃ j_ : Int, (wrap64 ((l0_1.length : Int) - 1)) = j_ := ⟨_, rfl⟩
                replace H : (if 0 ≤ (ji26) then (if (ji26) < (l0_1.length : Int) then ((spec_l02Empty.f ((rd_T102 l0_1 (ji26)).f0)).bind fun t126 => (some (!t126))) else (none)) else (none)) = some r := by first | (rw [hji26] at H; exact H) | (simp only [hji26] at H ⊢; exact H)
                have hji26w : (IntKind.i64.wrap ((l0_1.length : Int) - 1)) = ji26 := (i64_w _).trans hji26
                by_cases c27 : 0 ≤ (ji26)
                · rw [if_pos c27] at H
                  have c27b0 : decide (0 ≤ (ji26)) = true := decide_eq_true c27
                  clear c27
                  by_cases c28 : (ji26) < (l0_1.length : Int)
                  · rw [if_pos c28] at H
                    have c28b0 : decide ((ji26) < (l0_1.length : Int)) = true := decide_eq_true c28
                    clear c28
                    replace H := Option.bind_eq_some_iff.mp H
                    obtain ⟨t126, A290, H⟩ := H
                    replace H : (some (!t126)) = some r := H
                    have A29 := Aside0.mk A290
                    clear A290
                    obtain rfl := Option.some.inj H
                    obtain ⟨hcz30_0, hcz30_1, hfz30_0, hfz30_1⟩ := cellsF2 BK123.out
                    have p125 : 0 ≤ ((ji26) : Int) := of_decide_eq_true as_
                    have q125 : (ji26) < (l0_1.length : Int) := of_decide_eq_true as_
                    obtain ⟨ad125, A125_0, c125_0, e125, hx125_0, hl125_0, hi125_0⟩ := at_T102 HR0_1.out (ji26) p125 q125
                    cases e125
                    replace hx125_0 := (HB.out.cell (World.block_lt_of_cell? _ _ hx125_0)).trans hx125_0
                    have HR125_0 := Aside0.mk hi125_0
                    have HC125_0 := Aside0.mk hl125_0
                    clear hi125_0 hl125_0
                    replace p125 := eq_true p125
                    replace q125 := eq_true q125
                    go_wp2_with (first | (go_at_call 77; (with_reducible refine (spec_l02Empty.calls _ _ ((rd_T102 l0_1 (ji26)).f0) t126 _ ?side1 ?side2 A29.out).mono ?_); (case side1 => repeat (first | exact (Kd.C_below HR125_0.out HB.out) | (with_reducible refine Kd.C_alloc ?_ _) | (with_reducible refine Kd.C_drewN ?_ _) | (with_reducible refine Kd.C_drew ?_))); (case side2 => exact HC125_0.out); rintro e w31 ⟨rfl, hb⟩; (try clear A29); have n0_ := Aside0.mk (blkb_ BK123 hb); have n1_ := Aside0.mk (below_step bl_ hb); clear BK123; clear HB; have BK123 := n0_; have HB := n1_; clear n0_ n1_; (try clear hb); (try clear hb2); (try clear hk); (try clear hi)))
                    go_ret
                    exact ⟨by first | rfl | (simp [errW_none, errW_some] <;> rfl) | (simp only [← hji26]; first | rfl | (simp [errW_none, errW_some] <;> rfl)) | (simp [*, errW_none, errW_some] <;> rfl), bl_⟩
                  · rw [if_neg c28] at H
                    exact absurd H (by simp)
                · rw [if_neg c27] at H
                  exact absurd H (by simp)

/-! ### spec_l01Own: function 62 -/
def spec_l01Own.f (a0_0 : Int) (a0_1 : Int) (a0_2 : Int) (a0_3 : Int) (a1 : Int) : Option (Bool) := if (wrap64 (a1)) = a0_0 then (some true) else (if (wrap64 (a1)) = a0_1 then (some true) else (if (wrap64 (a1)) = a0_2 then (some true) else (some ((wrap64 (a1)) == a0_3))))
set_option maxHeartbeats 8000000 in
set_option maxRecDepth 100000 in
theorem spec_l01Own.calls (a0_0 : Int) (a0_1 : Int) (a0_2 : Int) (a0_3 : Int) (a1 : Int) (r : Bool) (w : World) (h : spec_l01Own.f a0_0 a0_1 a0_2 a0_3 a1 = some r) :
    Calls Try.prog 62 #[.agg #[.int .i64 a0_0, .int .i64 a0_1, .int .i64 a0_2, .int .i64 a0_3], .int .u8 a1] w fun e w' => e = .returned (.bool r) ∧ Below w.heap.size w w' := by
  have hu23 := Try.underlying23
  have HB := Aside0.mk (Below.refl w.heap.size w)
  have H : (if (wrap64 (a1)) = a0_0 then (some true) else (if (wrap64 (a1)) = a0_1 then (some true) else (if (wrap64 (a1)) = a0_2 then (some true) else (some ((wrap64 (a1)) == a0_3))))) = some r := h
  clear h
  by_cases c3 : (wrap64 (a1)) = a0_0
  · rw [if_pos c3] at H
    have c3b0 : ((wrap64 (a1)) == a0_0) = true := beq_iff_eq.mpr c3
    have c3b1 : ((wrap64 (a1)) != a0_0) = false := bne_eq_false_iff_eq.mpr c3
    clear c3
    obtain rfl := Option.some.inj H
    go_enter Try.func62, Try.ntmps62
    go_wp2_with (first | ((with_reducible refine gate_dst (N := 2) rfl ?_); refine box_event ?hg (N := 2) ?hd (cs := #[.int .i64 a0_0, .int .i64 a0_1, .int .i64 a0_2, .int .i64 a0_3]) (t := 23) ?hr ?_; (case hd => rfl); (case hg => rfl); (case hr => exact hr_); intro gb131 hg w4 hbox hb; have n0_ := Aside0.mk (below_step bl_ hb); have n1_ := Aside0.mk (hbox); have n2_ := Aside0.mk (gw_ hg bl_); have n3_ := Aside0.mk (gw_ hg bl_); clear HB; have HB := n0_; have BK131 := n1_; have GW131 := n2_; have GE131 := n3_; clear n0_ n1_ n2_ n3_; clear hb hbox hg; obtain ⟨hcz5_0, hcz5_1, hcz5_2, hcz5_3, hfz5_0, hfz5_1, hfz5_2, hfz5_3⟩ := cellsF4 BK131.out))
    go_ret
    exact ⟨au3_0, bl_⟩
  · rw [if_neg c3] at H
    have c3b0 : ((wrap64 (a1)) == a0_0) = false := beq_eq_false_iff_ne.mpr c3
    have c3b1 : ((wrap64 (a1)) != a0_0) = true := bne_iff_ne.mpr c3
    by_cases c6 : (wrap64 (a1)) = a0_1
    · rw [if_pos c6] at H
      have c6b0 : ((wrap64 (a1)) == a0_1) = true := beq_iff_eq.mpr c6
      have c6b1 : ((wrap64 (a1)) != a0_1) = false := bne_eq_false_iff_eq.mpr c6
      clear c6
      obtain rfl := Option.some.inj H
      go_enter Try.func62, Try.ntmps62
      go_wp2_with (first | ((with_reducible refine gate_dst (N := 2) rfl ?_); refine box_event ?hg (N := 2) ?hd (cs := #[.int .i64 a0_0, .int .i64 a0_1, .int .i64 a0_2, .int .i64 a0_3]) (t := 23) ?hr ?_; (case hd => rfl); (case hg => rfl); (case hr => exact hr_); intro gb131 hg w7 hbox hb; have n0_ := Aside0.mk (below_step bl_ hb); have n1_ := Aside0.mk (hbox); have n2_ := Aside0.mk (gw_ hg bl_); have n3_ := Aside0.mk (gw_ hg bl_); clear HB; have HB := n0_; have BK131 := n1_; have GW131 := n2_; have GE131 := n3_; clear n0_ n1_ n2_ n3_; clear hb hbox hg; obtain ⟨hcz8_0, hcz8_1, hcz8_2, hcz8_3, hfz8_0, hfz8_1, hfz8_2, hfz8_3⟩ := cellsF4 BK131.out))
      go_ret
      exact ⟨au3_0, bl_⟩
    · rw [if_neg c6] at H
      have c6b0 : ((wrap64 (a1)) == a0_1) = false := beq_eq_false_iff_ne.mpr c6
      have c6b1 : ((wrap64 (a1)) != a0_1) = true := bne_iff_ne.mpr c6
      by_cases c9 : (wrap64 (a1)) = a0_2
      · rw [if_pos c9] at H
        have c9b0 : ((wrap64 (a1)) == a0_2) = true := beq_iff_eq.mpr c9
        have c9b1 : ((wrap64 (a1)) != a0_2) = false := bne_eq_false_iff_eq.mpr c9
        clear c9
        obtain rfl := Option.some.inj H
        go_enter Try.func62, Try.ntmps62
        go_wp2_with (first | ((with_reducible refine gate_dst (N := 2) rfl ?_); refine box_event ?hg (N := 2) ?hd (cs := #[.int .i64 a0_0, .int .i64 a0_1, .int .i64 a0_2, .int .i64 a0_3]) (t := 23) ?hr ?_; (case hd => rfl); (case hg => rfl); (case hr => exact hr_); intro gb131 hg w10 hbox hb; have n0_ := Aside0.mk (below_step bl_ hb); have n1_ := Aside0.mk (hbox); have n2_ := Aside0.mk (gw_ hg bl_); have n3_ := Aside0.mk (gw_ hg bl_); clear HB; have HB := n0_; have BK131 := n1_; have GW131 := n2_; have GE131 := n3_; clear n0_ n1_ n2_ n3_; clear hb hbox hg; obtain ⟨hcz11_0, hcz11_1, hcz11_2, hcz11_3, hfz11_0, hfz11_1, hfz11_2, hfz11_3⟩ := cellsF4 BK131.out))
        go_ret
        exact ⟨au3_0, bl_⟩
      · rw [if_neg c9] at H
        have c9b0 : ((wrap64 (a1)) == a0_2) = false := beq_eq_false_iff_ne.mpr c9
        have c9b1 : ((wrap64 (a1)) != a0_2) = true := bne_iff_ne.mpr c9
        obtain rfl := Option.some.inj H
        go_enter Try.func62, Try.ntmps62
        go_wp2_with (first | ((with_reducible refine gate_dst (N := 2) rfl ?_); refine box_event ?hg (N := 2) ?hd (cs := #[.int .i64 a0_0, .int .i64 a0_1, .int .i64 a0_2, .int .i64 a0_3]) (t := 23) ?hr ?_; (case hd => rfl); (case hg => rfl); (case hr => exact hr_); intro gb131 hg w12 hbox hb; have n0_ := Aside0.mk (below_step bl_ hb); have n1_ := Aside0.mk (hbox); have n2_ := Aside0.mk (gw_ hg bl_); have n3_ := Aside0.mk (gw_ hg bl_); clear HB; have HB := n0_; have BK131 := n1_; have GW131 := n2_; have GE131 := n3_; clear n0_ n1_ n2_ n3_; clear hb hbox hg; obtain ⟨hcz13_0, hcz13_1, hcz13_2, hcz13_3, hfz13_0, hfz13_1, hfz13_2, hfz13_3⟩ := cellsF4 BK131.out))
        go_ret
        exact ⟨au3_0, bl_⟩

end Go.Proofs.Ytchoalagkcdbhaa.PFnExactSegmentsText
