-- printed by a program of this session (wip/xp/xprint.py) out of the translation; Lean checks it
import Derived.Test.YtjffakoifpldeaaPFnTakeOncex0
import Derived.Test.YtjffakoifpldeaaPFnTakeOncex4
namespace Go.Proofs.Ytjffakoifpldeaa.PFnTakeOnce
open Go.RowKit Go.Proofs.YtjffakoifpldeaaW.PrintWords Go.Proofs.YtjffakoifpldeaaW.PrintLast Go.Proofs.YtjffakoifpldeaaW.PrintMore
attribute [local go_sem] max2_int min2_int max_two min_two max_three min_three max_four min_four   -- for this text's walks alone
set_option linter.unusedVariables false
set_option linter.unusedSimpArgs false

theorem au5_0 {p : Prop} (h : p := by (with_reducible repeat (first | refine blk_drewN ?_ _ | refine blk_drew ?_ | refine blk_alloc ?_ _)); refine blk_put (cs := #[.int .i64 ((rd_T62 l0_3 x3_2).f0), .int .i64 ((rd_T62 l0_3 x3_2).f1), .int .i64 0]) ?_ 2 _ rfl; (with_reducible repeat (first | refine blk_drewN ?_ _ | refine blk_drew ?_ | refine blk_alloc ?_ _)); refine blk_put (cs := #[.int .i64 ((rd_T62 l0_3 x3_2).f0), .int .i64 0, .int .i64 0]) ?_ 1 _ rfl; (with_reducible repeat (first | refine blk_drewN ?_ _ | refine blk_drew ?_ | refine blk_alloc ?_ _)); refine blk_put (cs := #[.int .i64 0, .int .i64 0, .int .i64 0]) ?_ 0 _ rfl; (with_reducible repeat (first | refine blk_drewN ?_ _ | refine blk_drew ?_ | refine blk_alloc ?_ _)); exact BK137.out) : p := h
theorem au5_1 {p : Prop} (h : p := by (with_reducible repeat (first | refine blk_drewN ?_ _ | refine blk_drew ?_ | refine blk_alloc ?_ _)); refine blk_far ?_ NB132_137.out _; (with_reducible repeat (first | refine blk_drewN ?_ _ | refine blk_drew ?_ | refine blk_alloc ?_ _)); refine blk_far ?_ NB132_137.out _; (with_reducible repeat (first | refine blk_drewN ?_ _ | refine blk_drew ?_ | refine blk_alloc ?_ _)); refine blk_far ?_ NB132_137.out _; (with_reducible repeat (first | refine blk_drewN ?_ _ | refine blk_drew ?_ | refine blk_alloc ?_ _)); exact BK132.out) : p := h
theorem au5_2 {p : Prop} (h : p := by first | (rw [add_block]; exact hn138_0) | (show (Addr.add _ _).block ≠ _; rw [add_block]; exact hn138_0) | exact hn138_0) : p := h
theorem au5_3 {p : Prop} (h : p := by first | (rw [add_block]; exact hn138_1) | (show (Addr.add _ _).block ≠ _; rw [add_block]; exact hn138_1) | exact hn138_1) : p := h
theorem au5_4 {p : Prop} (h : p := by first | (rw [add_block]; exact hn138_2) | (show (Addr.add _ _).block ≠ _; rw [add_block]; exact hn138_2) | exact hn138_2) : p := h
theorem au5_5 {p : Prop} (h : p := by have := World.block_lt_of_cell? _ _ hx138_0; first | rwa [add_block] at this | exact this) : p := h
theorem au5_6 {p : Prop} (h : p := by have := HJ1.out; have := HK2.out; first | omega | exact Nat.le_refl _) : p := h
theorem au5_7 {p : Prop} (h : p := by first | rfl | (simp [errW_none, errW_some] <;> rfl) | (simp [*, errW_none, errW_some] <;> rfl)) : p := h
theorem au5_8 {p : Prop} (h : p := by first | omega | exact Nat.le_refl _) : p := h

/-! ### spec_PartnerRight: function 77 -/
mutual
def spec_PartnerRight.j0 : Nat → Bool → ByteArray → Int → Int → List (S62) → Option (Bool)
  | 0, _, _, _, _, _ => none
  | k + 1, x26, x133000, x133001, x133002, x133003 => if x26 = true then (some false) else (spec_PartnerRight.l0 k 0 x133000 x133001 x133002 x133003)
def spec_PartnerRight.l0 : Nat → Int → ByteArray → Int → Int → List (S62) → Option (Bool)
  | 0, _, _, _, _, _ => none
  | k + 1, x3, x133000, x133001, x133002, x133003 => if x3 < (x133003.length : Int) then (if 0 ≤ x3 then (if ((rd_T62 x133003 x3).f0) < x133001 then (spec_PartnerRight.j2 k x3 true x133000 x133001 x133002 x133003) else (if ((rd_T62 x133003 x3).f0) ≥ (wrap64 (x133001 + 32)) then (spec_PartnerRight.j2 k x3 true x133000 x133001 x133002 x133003) else (if ((rd_T62 x133003 x3).f0) > 999999 then (spec_PartnerRight.j2 k x3 true x133000 x133001 x133002 x133003) else (if x3 > 0 then (if 0 ≤ (wrap64 (x3 - 1)) then (if (wrap64 (x3 - 1)) < (x133003.length : Int) then (if ((rd_T62 x133003 x3).f0) ≤ ((rd_T62 x133003 (wrap64 (x3 - 1))).f0) then (spec_PartnerRight.j2 k x3 true x133000 x133001 x133002 x133003) else ((spec_l01Control.f ((rd_T62 x133003 x3).f1)).bind fun t139 => (if t139 = true then (if ((rd_T62 x133003 x3).f2) < 0 then (spec_PartnerRight.j2 k x3 true x133000 x133001 x133002 x133003) else (spec_PartnerRight.j2 k x3 (decide (((rd_T62 x133003 x3).f2) > 13)) x133000 x133001 x133002 x133003)) else (spec_PartnerRight.j2 k x3 true x133000 x133001 x133002 x133003)))) else (none)) else (none)) else ((spec_l01Control.f ((rd_T62 x133003 x3).f1)).bind fun t140 => (if t140 = true then (if ((rd_T62 x133003 x3).f2) < 0 then (spec_PartnerRight.j2 k x3 true x133000 x133001 x133002 x133003) else (spec_PartnerRight.j2 k x3 (decide (((rd_T62 x133003 x3).f2) > 13)) x133000 x133001 x133002 x133003)) else (spec_PartnerRight.j2 k x3 true x133000 x133001 x133002 x133003))))))) else (none)) else (some true)
def spec_PartnerRight.j2 : Nat → Int → Bool → ByteArray → Int → Int → List (S62) → Option (Bool)
  | 0, _, _, _, _, _, _ => none
  | k + 1, x3, x88, x133000, x133001, x133002, x133003 => if x88 = true then (some false) else (spec_PartnerRight.l0 k (wrap64 (x3 + 1)) x133000 x133001 x133002 x133003)
end
def spec_PartnerRight.f (k : Nat) (a0_0 : ByteArray) (a0_1 : Int) (a0_2 : Int) (l0_3 : List (S62)) : Option (Bool) := (spec_l01Name.f k a0_0).bind fun t133 => (if t133 = true then ((spec_l01Control.f a0_1).bind fun t134 => (if t134 = true then ((spec_l01Control.f a0_2).bind fun t135 => (if t135 = true then (spec_PartnerRight.j0 k (decide ((l0_3.length : Int) > 32)) a0_0 a0_1 a0_2 l0_3) else (spec_PartnerRight.j0 k true a0_0 a0_1 a0_2 l0_3))) else (spec_PartnerRight.j0 k true a0_0 a0_1 a0_2 l0_3))) else (spec_PartnerRight.j0 k true a0_0 a0_1 a0_2 l0_3))
theorem spec_PartnerRight.mono_l : ∀ k, (∀ y0 y1 y2 y3 y4, LeO (spec_PartnerRight.j0 k y0 y1 y2 y3 y4) (spec_PartnerRight.j0 (k + 1) y0 y1 y2 y3 y4)) ∧ (∀ y0 y1 y2 y3 y4, LeO (spec_PartnerRight.l0 k y0 y1 y2 y3 y4) (spec_PartnerRight.l0 (k + 1) y0 y1 y2 y3 y4)) ∧ (∀ y0 y1 y2 y3 y4 y5, LeO (spec_PartnerRight.j2 k y0 y1 y2 y3 y4 y5) (spec_PartnerRight.j2 (k + 1) y0 y1 y2 y3 y4 y5))
  | 0 => ⟨fun _ _ _ _ _ r h => by simp [spec_PartnerRight.j0] at h, fun _ _ _ _ _ r h => by simp [spec_PartnerRight.l0] at h, fun _ _ _ _ _ _ r h => by simp [spec_PartnerRight.j2] at h⟩
  | k + 1 => by
    obtain ⟨ih0, ih1, ih2⟩ := spec_PartnerRight.mono_l k
    refine ⟨?_, ?_, ?_⟩
    · intro y0 y1 y2 y3 y4
      unfold spec_PartnerRight.j0
      repeat' first
      | (with_reducible exact ih0 _ _ _ _ _)
      | (with_reducible exact ih1 _ _ _ _ _)
      | (with_reducible exact ih2 _ _ _ _ _ _)
      | (with_reducible exact spec_l01Name.mono _ _)
      | (with_reducible exact LeO.refl _)
      | (with_reducible exact LeO.none _)
      | (with_reducible refine LeO.ite ?_ ?_)
      | (with_reducible refine LeO.bind ?_ (fun _ => ?_))
      | exact ih0 _ _ _ _ _
      | exact ih1 _ _ _ _ _
      | exact ih2 _ _ _ _ _ _
      | exact spec_l01Name.mono _ _
      | exact LeO.none _
      | refine LeO.ite ?_ ?_
      | refine LeO.bind ?_ (fun _ => ?_)
    · intro y0 y1 y2 y3 y4
      unfold spec_PartnerRight.l0
      repeat' first
      | (with_reducible exact ih0 _ _ _ _ _)
      | (with_reducible exact ih1 _ _ _ _ _)
      | (with_reducible exact ih2 _ _ _ _ _ _)
      | (with_reducible exact spec_l01Name.mono _ _)
      | (with_reducible exact LeO.refl _)
      | (with_reducible exact LeO.none _)
      | (with_reducible refine LeO.ite ?_ ?_)
      | (with_reducible refine LeO.bind ?_ (fun _ => ?_))
      | exact ih0 _ _ _ _ _
      | exact ih1 _ _ _ _ _
      | exact ih2 _ _ _ _ _ _
      | exact spec_l01Name.mono _ _
      | exact LeO.none _
      | refine LeO.ite ?_ ?_
      | refine LeO.bind ?_ (fun _ => ?_)
    · intro y0 y1 y2 y3 y4 y5
      unfold spec_PartnerRight.j2
      repeat' first
      | (with_reducible exact ih0 _ _ _ _ _)
      | (with_reducible exact ih1 _ _ _ _ _)
      | (with_reducible exact ih2 _ _ _ _ _ _)
      | (with_reducible exact spec_l01Name.mono _ _)
      | (with_reducible exact LeO.refl _)
      | (with_reducible exact LeO.none _)
      | (with_reducible refine LeO.ite ?_ ?_)
      | (with_reducible refine LeO.bind ?_ (fun _ => ?_))
      | exact ih0 _ _ _ _ _
      | exact ih1 _ _ _ _ _
      | exact ih2 _ _ _ _ _ _
      | exact spec_l01Name.mono _ _
      | exact LeO.none _
      | refine LeO.ite ?_ ?_
      | refine LeO.bind ?_ (fun _ => ?_)
theorem spec_PartnerRight.mono : ∀ a0 a1 a2 a3 k, LeO (spec_PartnerRight.f k a0 a1 a2 a3) (spec_PartnerRight.f (k + 1) a0 a1 a2 a3) := by
  intro a0 a1 a2 a3 k
  obtain ⟨ih0, ih1, ih2⟩ := spec_PartnerRight.mono_l k
  unfold spec_PartnerRight.f
  repeat' first
      | (with_reducible exact ih0 _ _ _ _ _)
      | (with_reducible exact ih1 _ _ _ _ _)
      | (with_reducible exact ih2 _ _ _ _ _ _)
      | (with_reducible exact spec_l01Name.mono _ _)
      | (with_reducible exact LeO.refl _)
      | (with_reducible exact LeO.none _)
      | (with_reducible refine LeO.ite ?_ ?_)
      | (with_reducible refine LeO.bind ?_ (fun _ => ?_))
      | exact ih0 _ _ _ _ _
      | exact ih1 _ _ _ _ _
      | exact ih2 _ _ _ _ _ _
      | exact spec_l01Name.mono _ _
      | exact LeO.none _
      | refine LeO.ite ?_ ?_
      | refine LeO.bind ?_ (fun _ => ?_)
set_option maxHeartbeats 8000000 in
set_option maxRecDepth 100000 in
theorem spec_PartnerRight.calls (k : Nat) (a0_0 : ByteArray) (a0_1 : Int) (a0_2 : Int) (A0_3 : Option Addr) (c0_3 : Nat) (l0_3 : List (S62)) (r : Bool) (w : World) (hr0_3 : Kd.C k62 w A0_3 l0_3.length l0_3) (hc0_3 : l0_3.length ≤ c0_3) (h : spec_PartnerRight.f k a0_0 a0_1 a0_2 l0_3 = some r) :
    Calls Try.prog 77 #[.agg #[.string a0_0, .int .i64 a0_1, .int .i64 a0_2, .slice A0_3 l0_3.length c0_3]] w fun e w' => e = .returned (.bool r) ∧ Below w.heap.size w w' := by
  have hu51 := Try.underlying51
  have hu62 := Try.underlying62
  have HR0_3 := Aside0.mk hr0_3
  have HC0_3 := Aside0.mk hc0_3
  clear hr0_3 hc0_3
  have HB := Aside0.mk (Below.refl w.heap.size w)
  have H : ((spec_l01Name.f k a0_0).bind fun t133 => (if t133 = true then ((spec_l01Control.f a0_1).bind fun t134 => (if t134 = true then ((spec_l01Control.f a0_2).bind fun t135 => (if t135 = true then (spec_PartnerRight.j0 k (decide ((l0_3.length : Int) > 32)) a0_0 a0_1 a0_2 l0_3) else (spec_PartnerRight.j0 k true a0_0 a0_1 a0_2 l0_3))) else (spec_PartnerRight.j0 k true a0_0 a0_1 a0_2 l0_3))) else (spec_PartnerRight.j0 k true a0_0 a0_1 a0_2 l0_3))) = some r := h
  clear h
  have HC2 := Aside0.mk H
  clear H
  go_enter Try.func77, Try.ntmps77
  go_upto_region 1 with (first | ((with_reducible refine gate_dst (N := 1) rfl ?_); (try (refine gate_guard (by rfl) ?_; dsimp only)); refine box_event ?hg (N := 1) ?hd (cs := #[.string a0_0, .int .i64 a0_1, .int .i64 a0_2, .slice A0_3 l0_3.length c0_3]) (t := 51) ?hr ?_; (case hd => rfl); (case hg => rfl); (case hr => exact hr_); intro gb132 hg w3 hbox hb; have n0_ := Aside0.mk (below_step bl_ hb); have n1_ := Aside0.mk (hbox); have n2_ := Aside0.mk (gw_ hg bl_); have n3_ := Aside0.mk (gw_ hg bl_); clear HB; have HB := n0_; have BK132 := n1_; have GW132 := n2_; have GE132 := n3_; clear n0_ n1_ n2_ n3_; clear hb hbox hg))
  repeat (go_quiet (first | ((with_reducible refine gate_dst (N := 1) rfl ?_); (try (refine gate_guard (by rfl) ?_; dsimp only)); refine box_event ?hg (N := 1) ?hd (cs := #[.string a0_0, .int .i64 a0_1, .int .i64 a0_2, .slice A0_3 l0_3.length c0_3]) (t := 51) ?hr ?_; (case hd => rfl); (case hg => rfl); (case hr => exact hr_); intro gb132 hg w3 hbox hb; have n0_ := Aside0.mk (below_step bl_ hb); have n1_ := Aside0.mk (hbox); have n2_ := Aside0.mk (gw_ hg bl_); have n3_ := Aside0.mk (gw_ hg bl_); clear HB; have HB := n0_; have BK132 := n1_; have GW132 := n2_; have GE132 := n3_; clear n0_ n1_ n2_ n3_; clear hb hbox hg)); go_upto_region 1 with (first | ((with_reducible refine gate_dst (N := 1) rfl ?_); (try (refine gate_guard (by rfl) ?_; dsimp only)); refine box_event ?hg (N := 1) ?hd (cs := #[.string a0_0, .int .i64 a0_1, .int .i64 a0_2, .slice A0_3 l0_3.length c0_3]) (t := 51) ?hr ?_; (case hd => rfl); (case hg => rfl); (case hr => exact hr_); intro gb132 hg w3 hbox hb; have n0_ := Aside0.mk (below_step bl_ hb); have n1_ := Aside0.mk (hbox); have n2_ := Aside0.mk (gw_ hg bl_); have n3_ := Aside0.mk (gw_ hg bl_); clear HB; have HB := n0_; have BK132 := n1_; have GW132 := n2_; have GE132 := n3_; clear n0_ n1_ n2_ n3_; clear hb hbox hg)))
  (try simp only [Act.put, List.setIfInBounds_toArray, List.set_cons_zero, List.set_cons_succ])
  go_cut [26] (fun v26 wc => ∃ (kq : Nat) (x26_1 : Bool), v26 = .bool x26_1 ∧ Aside0 (spec_PartnerRight.j0 kq x26_1 a0_0 a0_1 a0_2 l0_3 = some r) ∧ Aside0 (kq ≤ k) ∧ Aside0 (wc.heap[gb132]? = some (.cells #[.string a0_0, .int .i64 a0_1, .int .i64 a0_2, (.slice A0_3 l0_3.length c0_3)] 51 (0, 0))) ∧ Aside0 (Below w.heap.size w wc))
  case first =>
    have H := HC2.out
    clear HC2
    replace H := Option.bind_eq_some_iff.mp H
    obtain ⟨t133, A40, H⟩ := H
    replace H : (if t133 = true then ((spec_l01Control.f a0_1).bind fun t134 => (if t134 = true then ((spec_l01Control.f a0_2).bind fun t135 => (if t135 = true then (spec_PartnerRight.j0 k (decide ((l0_3.length : Int) > 32)) a0_0 a0_1 a0_2 l0_3) else (spec_PartnerRight.j0 k true a0_0 a0_1 a0_2 l0_3))) else (spec_PartnerRight.j0 k true a0_0 a0_1 a0_2 l0_3))) else (spec_PartnerRight.j0 k true a0_0 a0_1 a0_2 l0_3)) = some r := H
    have A4 := Aside0.mk A40
    clear A40
    by_cases c5 : t133 = true
    · subst c5
      have H1 : ((spec_l01Control.f a0_1).bind fun t134 => (if t134 = true then ((spec_l01Control.f a0_2).bind fun t135 => (if t135 = true then (spec_PartnerRight.j0 k (decide ((l0_3.length : Int) > 32)) a0_0 a0_1 a0_2 l0_3) else (spec_PartnerRight.j0 k true a0_0 a0_1 a0_2 l0_3))) else (spec_PartnerRight.j0 k true a0_0 a0_1 a0_2 l0_3))) = some r := by rw [if_pos rfl] at H; exact H
      clear H
      have H := H1
      clear H1
      replace H := Option.bind_eq_some_iff.mp H
      obtain ⟨t134, A60, H⟩ := H
      replace H : (if t134 = true then ((spec_l01Control.f a0_2).bind fun t135 => (if t135 = true then (spec_PartnerRight.j0 k (decide ((l0_3.length : Int) > 32)) a0_0 a0_1 a0_2 l0_3) else (spec_PartnerRight.j0 k true a0_0 a0_1 a0_2 l0_3))) else (spec_PartnerRight.j0 k true a0_0 a0_1 a0_2 l0_3)) = some r := H
      have A6 := Aside0.mk A60
      clear A60
      by_cases c7 : t134 = true
      · subst c7
        have H1 : ((spec_l01Control.f a0_2).bind fun t135 => (if t135 = true then (spec_PartnerRight.j0 k (decide ((l0_3.length : Int) > 32)) a0_0 a0_1 a0_2 l0_3) else (spec_PartnerRight.j0 k true a0_0 a0_1 a0_2 l0_3))) = some r := by rw [if_pos rfl] at H; exact H
        clear H
        have H := H1
        clear H1
        replace H := Option.bind_eq_some_iff.mp H
        obtain ⟨t135, A80, H⟩ := H
        replace H : (if t135 = true then (spec_PartnerRight.j0 k (decide ((l0_3.length : Int) > 32)) a0_0 a0_1 a0_2 l0_3) else (spec_PartnerRight.j0 k true a0_0 a0_1 a0_2 l0_3)) = some r := H
        have A8 := Aside0.mk A80
        clear A80
        by_cases c9 : t135 = true
        · subst c9
          have H1 : (spec_PartnerRight.j0 k (decide ((l0_3.length : Int) > 32)) a0_0 a0_1 a0_2 l0_3) = some r := by rw [if_pos rfl] at H; exact H
          clear H
          have H := H1
          clear H1
          have H' := Aside0.mk H
          clear H
          obtain ⟨hcz10_0, hcz10_1, hcz10_2, hcz10_3, hfz10_0, hfz10_1, hfz10_2, hfz10_3⟩ := cellsF4 BK132.out
          go_wp2_with (first | (go_at_call 54; (with_reducible refine (spec_l01Name.calls k a0_0 true _ A4.out).mono ?_); rintro e w' ⟨rfl, ⟨nd, rfl⟩⟩; (try clear A4); (try first | exact ⟨rfl, _, World.drewN_drewN _ _ _⟩ | exact ⟨rfl, _, Eq.trans (World.drewN_drewN _ _ _) (congrArg (World.drewN _) (Nat.add_assoc _ _ _))⟩)) | (go_at_call 78; (with_reducible refine (spec_l01Control.calls a0_1 true _ A6.out).mono ?_); rintro e w' ⟨rfl, ⟨nd, rfl⟩⟩; (try clear A6); (try first | exact ⟨rfl, _, World.drewN_drewN _ _ _⟩ | exact ⟨rfl, _, Eq.trans (World.drewN_drewN _ _ _) (congrArg (World.drewN _) (Nat.add_assoc _ _ _))⟩)) | (go_at_call 78; (with_reducible refine (spec_l01Control.calls a0_2 true _ A8.out).mono ?_); rintro e w' ⟨rfl, ⟨nd, rfl⟩⟩; (try clear A8); (try first | exact ⟨rfl, _, World.drewN_drewN _ _ _⟩ | exact ⟨rfl, _, Eq.trans (World.drewN_drewN _ _ _) (congrArg (World.drewN _) (Nat.add_assoc _ _ _))⟩)))
          repeat (go_quiet (first | (go_at_call 54; (with_reducible refine (spec_l01Name.calls k a0_0 true _ A4.out).mono ?_); rintro e w' ⟨rfl, ⟨nd, rfl⟩⟩; (try clear A4); (try first | exact ⟨rfl, _, World.drewN_drewN _ _ _⟩ | exact ⟨rfl, _, Eq.trans (World.drewN_drewN _ _ _) (congrArg (World.drewN _) (Nat.add_assoc _ _ _))⟩)) | (go_at_call 78; (with_reducible refine (spec_l01Control.calls a0_1 true _ A6.out).mono ?_); rintro e w' ⟨rfl, ⟨nd, rfl⟩⟩; (try clear A6); (try first | exact ⟨rfl, _, World.drewN_drewN _ _ _⟩ | exact ⟨rfl, _, Eq.trans (World.drewN_drewN _ _ _) (congrArg (World.drewN _) (Nat.add_assoc _ _ _))⟩)) | (go_at_call 78; (with_reducible refine (spec_l01Control.calls a0_2 true _ A8.out).mono ?_); rintro e w' ⟨rfl, ⟨nd, rfl⟩⟩; (try clear A8); (try first | exact ⟨rfl, _, World.drewN_drewN _ _ _⟩ | exact ⟨rfl, _, Eq.trans (World.drewN_drewN _ _ _) (congrArg (World.drewN _) (Nat.add_assoc _ _ _))⟩))); try go_wp2_with (first | (go_at_call 54; (with_reducible refine (spec_l01Name.calls k a0_0 true _ A4.out).mono ?_); rintro e w' ⟨rfl, ⟨nd, rfl⟩⟩; (try clear A4); (try first | exact ⟨rfl, _, World.drewN_drewN _ _ _⟩ | exact ⟨rfl, _, Eq.trans (World.drewN_drewN _ _ _) (congrArg (World.drewN _) (Nat.add_assoc _ _ _))⟩)) | (go_at_call 78; (with_reducible refine (spec_l01Control.calls a0_1 true _ A6.out).mono ?_); rintro e w' ⟨rfl, ⟨nd, rfl⟩⟩; (try clear A6); (try first | exact ⟨rfl, _, World.drewN_drewN _ _ _⟩ | exact ⟨rfl, _, Eq.trans (World.drewN_drewN _ _ _) (congrArg (World.drewN _) (Nat.add_assoc _ _ _))⟩)) | (go_at_call 78; (with_reducible refine (spec_l01Control.calls a0_2 true _ A8.out).mono ?_); rintro e w' ⟨rfl, ⟨nd, rfl⟩⟩; (try clear A8); (try first | exact ⟨rfl, _, World.drewN_drewN _ _ _⟩ | exact ⟨rfl, _, Eq.trans (World.drewN_drewN _ _ _) (congrArg (World.drewN _) (Nat.add_assoc _ _ _))⟩))))
          go_meet
          case rel => exact ⟨_, (decide ((l0_3.length : Int) > 32)), er_, H', ⟨au5_8⟩, ⟨bk_ BK132⟩, ⟨bl_⟩⟩
        · replace c9 := Bool.eq_false_iff.mpr c9
          subst c9
          have H1 : (spec_PartnerRight.j0 k true a0_0 a0_1 a0_2 l0_3) = some r := by rw [if_neg (show ¬ (false = true) by decide)] at H; exact H
          clear H
          have H := H1
          clear H1
          have H' := Aside0.mk H
          clear H
          obtain ⟨hcz11_0, hcz11_1, hcz11_2, hcz11_3, hfz11_0, hfz11_1, hfz11_2, hfz11_3⟩ := cellsF4 BK132.out
          go_wp2_with (first | (go_at_call 54; (with_reducible refine (spec_l01Name.calls k a0_0 true _ A4.out).mono ?_); rintro e w' ⟨rfl, ⟨nd, rfl⟩⟩; (try clear A4); (try first | exact ⟨rfl, _, World.drewN_drewN _ _ _⟩ | exact ⟨rfl, _, Eq.trans (World.drewN_drewN _ _ _) (congrArg (World.drewN _) (Nat.add_assoc _ _ _))⟩)) | (go_at_call 78; (with_reducible refine (spec_l01Control.calls a0_1 true _ A6.out).mono ?_); rintro e w' ⟨rfl, ⟨nd, rfl⟩⟩; (try clear A6); (try first | exact ⟨rfl, _, World.drewN_drewN _ _ _⟩ | exact ⟨rfl, _, Eq.trans (World.drewN_drewN _ _ _) (congrArg (World.drewN _) (Nat.add_assoc _ _ _))⟩)) | (go_at_call 78; (with_reducible refine (spec_l01Control.calls a0_2 false _ A8.out).mono ?_); rintro e w' ⟨rfl, ⟨nd, rfl⟩⟩; (try clear A8); (try first | exact ⟨rfl, _, World.drewN_drewN _ _ _⟩ | exact ⟨rfl, _, Eq.trans (World.drewN_drewN _ _ _) (congrArg (World.drewN _) (Nat.add_assoc _ _ _))⟩)))
          repeat (go_quiet (first | (go_at_call 54; (with_reducible refine (spec_l01Name.calls k a0_0 true _ A4.out).mono ?_); rintro e w' ⟨rfl, ⟨nd, rfl⟩⟩; (try clear A4); (try first | exact ⟨rfl, _, World.drewN_drewN _ _ _⟩ | exact ⟨rfl, _, Eq.trans (World.drewN_drewN _ _ _) (congrArg (World.drewN _) (Nat.add_assoc _ _ _))⟩)) | (go_at_call 78; (with_reducible refine (spec_l01Control.calls a0_1 true _ A6.out).mono ?_); rintro e w' ⟨rfl, ⟨nd, rfl⟩⟩; (try clear A6); (try first | exact ⟨rfl, _, World.drewN_drewN _ _ _⟩ | exact ⟨rfl, _, Eq.trans (World.drewN_drewN _ _ _) (congrArg (World.drewN _) (Nat.add_assoc _ _ _))⟩)) | (go_at_call 78; (with_reducible refine (spec_l01Control.calls a0_2 false _ A8.out).mono ?_); rintro e w' ⟨rfl, ⟨nd, rfl⟩⟩; (try clear A8); (try first | exact ⟨rfl, _, World.drewN_drewN _ _ _⟩ | exact ⟨rfl, _, Eq.trans (World.drewN_drewN _ _ _) (congrArg (World.drewN _) (Nat.add_assoc _ _ _))⟩))); try go_wp2_with (first | (go_at_call 54; (with_reducible refine (spec_l01Name.calls k a0_0 true _ A4.out).mono ?_); rintro e w' ⟨rfl, ⟨nd, rfl⟩⟩; (try clear A4); (try first | exact ⟨rfl, _, World.drewN_drewN _ _ _⟩ | exact ⟨rfl, _, Eq.trans (World.drewN_drewN _ _ _) (congrArg (World.drewN _) (Nat.add_assoc _ _ _))⟩)) | (go_at_call 78; (with_reducible refine (spec_l01Control.calls a0_1 true _ A6.out).mono ?_); rintro e w' ⟨rfl, ⟨nd, rfl⟩⟩; (try clear A6); (try first | exact ⟨rfl, _, World.drewN_drewN _ _ _⟩ | exact ⟨rfl, _, Eq.trans (World.drewN_drewN _ _ _) (congrArg (World.drewN _) (Nat.add_assoc _ _ _))⟩)) | (go_at_call 78; (with_reducible refine (spec_l01Control.calls a0_2 false _ A8.out).mono ?_); rintro e w' ⟨rfl, ⟨nd, rfl⟩⟩; (try clear A8); (try first | exact ⟨rfl, _, World.drewN_drewN _ _ _⟩ | exact ⟨rfl, _, Eq.trans (World.drewN_drewN _ _ _) (congrArg (World.drewN _) (Nat.add_assoc _ _ _))⟩))))
          go_meet
          case rel => exact ⟨_, (true), er_, H', ⟨au5_8⟩, ⟨bk_ BK132⟩, ⟨bl_⟩⟩
      · replace c7 := Bool.eq_false_iff.mpr c7
        subst c7
        have H1 : (spec_PartnerRight.j0 k true a0_0 a0_1 a0_2 l0_3) = some r := by rw [if_neg (show ¬ (false = true) by decide)] at H; exact H
        clear H
        have H := H1
        clear H1
        have H' := Aside0.mk H
        clear H
        obtain ⟨hcz12_0, hcz12_1, hcz12_2, hcz12_3, hfz12_0, hfz12_1, hfz12_2, hfz12_3⟩ := cellsF4 BK132.out
        go_wp2_with (first | (go_at_call 54; (with_reducible refine (spec_l01Name.calls k a0_0 true _ A4.out).mono ?_); rintro e w' ⟨rfl, ⟨nd, rfl⟩⟩; (try clear A4); (try first | exact ⟨rfl, _, World.drewN_drewN _ _ _⟩ | exact ⟨rfl, _, Eq.trans (World.drewN_drewN _ _ _) (congrArg (World.drewN _) (Nat.add_assoc _ _ _))⟩)) | (go_at_call 78; (with_reducible refine (spec_l01Control.calls a0_1 false _ A6.out).mono ?_); rintro e w' ⟨rfl, ⟨nd, rfl⟩⟩; (try clear A6); (try first | exact ⟨rfl, _, World.drewN_drewN _ _ _⟩ | exact ⟨rfl, _, Eq.trans (World.drewN_drewN _ _ _) (congrArg (World.drewN _) (Nat.add_assoc _ _ _))⟩)))
        repeat (go_quiet (first | (go_at_call 54; (with_reducible refine (spec_l01Name.calls k a0_0 true _ A4.out).mono ?_); rintro e w' ⟨rfl, ⟨nd, rfl⟩⟩; (try clear A4); (try first | exact ⟨rfl, _, World.drewN_drewN _ _ _⟩ | exact ⟨rfl, _, Eq.trans (World.drewN_drewN _ _ _) (congrArg (World.drewN _) (Nat.add_assoc _ _ _))⟩)) | (go_at_call 78; (with_reducible refine (spec_l01Control.calls a0_1 false _ A6.out).mono ?_); rintro e w' ⟨rfl, ⟨nd, rfl⟩⟩; (try clear A6); (try first | exact ⟨rfl, _, World.drewN_drewN _ _ _⟩ | exact ⟨rfl, _, Eq.trans (World.drewN_drewN _ _ _) (congrArg (World.drewN _) (Nat.add_assoc _ _ _))⟩))); try go_wp2_with (first | (go_at_call 54; (with_reducible refine (spec_l01Name.calls k a0_0 true _ A4.out).mono ?_); rintro e w' ⟨rfl, ⟨nd, rfl⟩⟩; (try clear A4); (try first | exact ⟨rfl, _, World.drewN_drewN _ _ _⟩ | exact ⟨rfl, _, Eq.trans (World.drewN_drewN _ _ _) (congrArg (World.drewN _) (Nat.add_assoc _ _ _))⟩)) | (go_at_call 78; (with_reducible refine (spec_l01Control.calls a0_1 false _ A6.out).mono ?_); rintro e w' ⟨rfl, ⟨nd, rfl⟩⟩; (try clear A6); (try first | exact ⟨rfl, _, World.drewN_drewN _ _ _⟩ | exact ⟨rfl, _, Eq.trans (World.drewN_drewN _ _ _) (congrArg (World.drewN _) (Nat.add_assoc _ _ _))⟩))))
        go_meet
        case rel => exact ⟨_, (true), er_, H', ⟨au5_8⟩, ⟨bk_ BK132⟩, ⟨bl_⟩⟩
    · replace c5 := Bool.eq_false_iff.mpr c5
      subst c5
      have H1 : (spec_PartnerRight.j0 k true a0_0 a0_1 a0_2 l0_3) = some r := by rw [if_neg (show ¬ (false = true) by decide)] at H; exact H
      clear H
      have H := H1
      clear H1
      have H' := Aside0.mk H
      clear H
      obtain ⟨hcz13_0, hcz13_1, hcz13_2, hcz13_3, hfz13_0, hfz13_1, hfz13_2, hfz13_3⟩ := cellsF4 BK132.out
      go_wp2_with (first | (go_at_call 54; (with_reducible refine (spec_l01Name.calls k a0_0 false _ A4.out).mono ?_); rintro e w' ⟨rfl, ⟨nd, rfl⟩⟩; (try clear A4); (try first | exact ⟨rfl, _, World.drewN_drewN _ _ _⟩ | exact ⟨rfl, _, Eq.trans (World.drewN_drewN _ _ _) (congrArg (World.drewN _) (Nat.add_assoc _ _ _))⟩)))
      repeat (go_quiet (first | (go_at_call 54; (with_reducible refine (spec_l01Name.calls k a0_0 false _ A4.out).mono ?_); rintro e w' ⟨rfl, ⟨nd, rfl⟩⟩; (try clear A4); (try first | exact ⟨rfl, _, World.drewN_drewN _ _ _⟩ | exact ⟨rfl, _, Eq.trans (World.drewN_drewN _ _ _) (congrArg (World.drewN _) (Nat.add_assoc _ _ _))⟩))); try go_wp2_with (first | (go_at_call 54; (with_reducible refine (spec_l01Name.calls k a0_0 false _ A4.out).mono ?_); rintro e w' ⟨rfl, ⟨nd, rfl⟩⟩; (try clear A4); (try first | exact ⟨rfl, _, World.drewN_drewN _ _ _⟩ | exact ⟨rfl, _, Eq.trans (World.drewN_drewN _ _ _) (congrArg (World.drewN _) (Nat.add_assoc _ _ _))⟩))))
      go_meet
      case rel => exact ⟨_, (true), er_, H', ⟨au5_8⟩, ⟨bk_ BK132⟩, ⟨bl_⟩⟩
  case rest =>
    clear HC2
    try clear p2
    try clear c5
    try clear c7
    try clear c9
    try clear hcz10_0
    try clear hcz10_1
    try clear hcz10_2
    try clear hcz10_3
    try clear hcz11_0
    try clear hcz11_1
    try clear hcz11_2
    try clear hcz11_3
    try clear hcz12_0
    try clear hcz12_1
    try clear hcz12_2
    try clear hcz12_3
    try clear hcz13_0
    try clear hcz13_1
    try clear hcz13_2
    try clear hcz13_3
    try clear hfz10_0
    try clear hfz10_1
    try clear hfz10_2
    try clear hfz10_3
    try clear hfz11_0
    try clear hfz11_1
    try clear hfz11_2
    try clear hfz11_3
    try clear hfz12_0
    try clear hfz12_1
    try clear hfz12_2
    try clear hfz12_3
    try clear hfz13_0
    try clear hfz13_1
    try clear hfz13_2
    try clear hfz13_3
    obtain ⟨kq, x26_1, rfl, HA, HJ1, BK132, HB⟩ := hcut
    cases kq with
    | zero => exact absurd HA.out (by simp [spec_PartnerRight.j0])
    | succ kj1 =>
      have H := HA.out
      clear HA
      simp only [spec_PartnerRight.j0] at H
      by_cases c14 : x26_1 = true
      · subst c14
        have H1 : (some false) = some r := by rw [if_pos rfl] at H; exact H
        clear H
        have H := H1
        clear H1
        obtain rfl := Option.some.inj H
        go_wp2
        repeat (go_quiet (fail); try go_wp2)
        go_ret
        exact ⟨au5_7, bl_⟩
      · replace c14 := Bool.eq_false_iff.mpr c14
        subst c14
        have H1 : (spec_PartnerRight.l0 kj1 0 a0_0 a0_1 a0_2 l0_3) = some r := by rw [if_neg (show ¬ (false = true) by decide)] at H; exact H
        clear H
        have H := H1
        clear H1
        have H' := Aside0.mk H
        clear H
        go_wp2
        repeat (go_quiet (fail); try go_wp2)
        go_loopg [3] kj1 (fun kq v3 w' => ∃ (x3_2 : Int), v3 = .int .i64 x3_2 ∧ Aside0 (spec_PartnerRight.l0 kq x3_2 a0_0 a0_1 a0_2 l0_3 = some r) ∧ Aside0 (kq ≤ kj1) ∧ Aside0 (w'.heap[gb132]? = some (.cells #[.string a0_0, .int .i64 a0_1, .int .i64 a0_2, (.slice A0_3 l0_3.length c0_3)] 51 (0, 0))) ∧ Aside0 (Below w.heap.size w w'))
        case atStart => exact ⟨(0), er_, H', ⟨Nat.le_refl _⟩, ⟨bk_ BK132⟩, ⟨bl_⟩⟩
        case round =>
          clear H'
          try clear c1
          try clear p2
          try clear c5
          try clear c7
          try clear c9
          try clear c14
          try clear hcz10_0
          try clear hcz10_1
          try clear hcz10_2
          try clear hcz10_3
          try clear hcz11_0
          try clear hcz11_1
          try clear hcz11_2
          try clear hcz11_3
          try clear hcz12_0
          try clear hcz12_1
          try clear hcz12_2
          try clear hcz12_3
          try clear hcz13_0
          try clear hcz13_1
          try clear hcz13_2
          try clear hcz13_3
          try clear hfz10_0
          try clear hfz10_1
          try clear hfz10_2
          try clear hfz10_3
          try clear hfz11_0
          try clear hfz11_1
          try clear hfz11_2
          try clear hfz11_3
          try clear hfz12_0
          try clear hfz12_1
          try clear hfz12_2
          try clear hfz12_3
          try clear hfz13_0
          try clear hfz13_1
          try clear hfz13_2
          try clear hfz13_3
          try clear p2
          obtain ⟨x3_2, rfl, HA, HK2, BK132, HB⟩ := hrel
          cases gk with
          | zero => exact absurd HA.out (by simp [spec_PartnerRight.l0])
          | succ k2 =>
            have H := HA.out
            clear HA
            simp only [spec_PartnerRight.l0] at H
            by_cases c15 : x3_2 < (l0_3.length : Int)
            · rw [if_pos c15] at H
              have c15b0 : decide (x3_2 < (l0_3.length : Int)) = true := decide_eq_true c15
              clear c15
              by_cases c16 : 0 ≤ x3_2
              · rw [if_pos c16] at H
                have c16b0 : decide (0 ≤ x3_2) = true := decide_eq_true c16
                clear c16
                have HC17 := Aside0.mk H
                clear H
                obtain ⟨hcz18_0, hcz18_1, hcz18_2, hcz18_3, hfz18_0, hfz18_1, hfz18_2, hfz18_3⟩ := cellsF4 BK132.out
                have p136 : 0 ≤ (x3_2 : Int) := of_decide_eq_true as_
                have q136 : x3_2 < (l0_3.length : Int) := of_decide_eq_true as_
                obtain ⟨ad136, e136, hx136_0, hx136_1, hx136_2⟩ := at_T62 HR0_3.out x3_2 p136 q136
                cases e136
                replace hx136_0 := (HB.out.cell (World.block_lt_of_cell? _ _ hx136_0)).trans hx136_0
                replace hx136_1 := (HB.out.cell (World.block_lt_of_cell? _ _ hx136_1)).trans hx136_1
                replace hx136_2 := (HB.out.cell (World.block_lt_of_cell? _ _ hx136_2)).trans hx136_2
                replace p136 := eq_true p136
                replace q136 := eq_true q136
                go_upto_region 7 with (first | ((with_reducible refine gate_dst (N := 4) rfl ?_); (try (refine gate_guard (by rfl) ?_; dsimp only)); refine box_event ?hg (N := 4) ?hd (cs := #[.int .i64 0, .int .i64 0, .int .i64 0]) (t := 62) ?hr ?_; (case hd => rfl); (case hg => rfl); (case hr => exact hr_); intro gb137 hg w19 hbox hb; have n0_ := Aside0.mk (blkb_ BK132 hb); have n1_ := Aside0.mk (below_step bl_ hb); have n2_ := Aside0.mk (hbox); have n3_ := Aside0.mk (gw_ hg bl_); have n4_ := Aside0.mk (gw_ hg bl_); have n5_ := Aside0.mk (gn_ hg (blkl_ BK132)); have n6_ := Aside0.mk (gm_ hg (blkl_ BK132)); clear BK132; clear HB; have BK132 := n0_; have HB := n1_; have BK137 := n2_; have GW137 := n3_; have GE137 := n4_; have NB132_137 := n5_; have NB137_132 := n6_; clear n0_ n1_ n2_ n3_ n4_ n5_ n6_; clear hb hbox hg; have hnb20 := NB137_132.out; have hnc20 := NB132_137.out; obtain ⟨hcz21_0, hcz21_1, hcz21_2, hfz21_0, hfz21_1, hfz21_2⟩ := cellsF3 BK137.out))
                repeat (go_quiet (first | ((with_reducible refine gate_dst (N := 4) rfl ?_); (try (refine gate_guard (by rfl) ?_; dsimp only)); refine box_event ?hg (N := 4) ?hd (cs := #[.int .i64 0, .int .i64 0, .int .i64 0]) (t := 62) ?hr ?_; (case hd => rfl); (case hg => rfl); (case hr => exact hr_); intro gb137 hg w19 hbox hb; have n0_ := Aside0.mk (blkb_ BK132 hb); have n1_ := Aside0.mk (below_step bl_ hb); have n2_ := Aside0.mk (hbox); have n3_ := Aside0.mk (gw_ hg bl_); have n4_ := Aside0.mk (gw_ hg bl_); have n5_ := Aside0.mk (gn_ hg (blkl_ BK132)); have n6_ := Aside0.mk (gm_ hg (blkl_ BK132)); clear BK132; clear HB; have BK132 := n0_; have HB := n1_; have BK137 := n2_; have GW137 := n3_; have GE137 := n4_; have NB132_137 := n5_; have NB137_132 := n6_; clear n0_ n1_ n2_ n3_ n4_ n5_ n6_; clear hb hbox hg; have hnb20 := NB137_132.out; have hnc20 := NB132_137.out; obtain ⟨hcz21_0, hcz21_1, hcz21_2, hfz21_0, hfz21_1, hfz21_2⟩ := cellsF3 BK137.out)); go_upto_region 7 with (first | ((with_reducible refine gate_dst (N := 4) rfl ?_); (try (refine gate_guard (by rfl) ?_; dsimp only)); refine box_event ?hg (N := 4) ?hd (cs := #[.int .i64 0, .int .i64 0, .int .i64 0]) (t := 62) ?hr ?_; (case hd => rfl); (case hg => rfl); (case hr => exact hr_); intro gb137 hg w19 hbox hb; have n0_ := Aside0.mk (blkb_ BK132 hb); have n1_ := Aside0.mk (below_step bl_ hb); have n2_ := Aside0.mk (hbox); have n3_ := Aside0.mk (gw_ hg bl_); have n4_ := Aside0.mk (gw_ hg bl_); have n5_ := Aside0.mk (gn_ hg (blkl_ BK132)); have n6_ := Aside0.mk (gm_ hg (blkl_ BK132)); clear BK132; clear HB; have BK132 := n0_; have HB := n1_; have BK137 := n2_; have GW137 := n3_; have GE137 := n4_; have NB132_137 := n5_; have NB137_132 := n6_; clear n0_ n1_ n2_ n3_ n4_ n5_ n6_; clear hb hbox hg; have hnb20 := NB137_132.out; have hnc20 := NB132_137.out; obtain ⟨hcz21_0, hcz21_1, hcz21_2, hfz21_0, hfz21_1, hfz21_2⟩ := cellsF3 BK137.out)))
                (try simp only [Act.put, List.setIfInBounds_toArray, List.set_cons_zero, List.set_cons_succ])
                go_cut [88] (fun v88 wc => ∃ (kq : Nat) (x88_16 : Bool), v88 = .bool x88_16 ∧ Aside0 (spec_PartnerRight.j2 kq x3_2 x88_16 a0_0 a0_1 a0_2 l0_3 = some r) ∧ Aside0 (kq ≤ k2) ∧ Aside0 (wc.heap[gb132]? = some (.cells #[.string a0_0, .int .i64 a0_1, .int .i64 a0_2, (.slice (some ad136) l0_3.length c0_3)] 51 (0, 0))) ∧ Aside0 (wc.heap[gb137]? = some (.cells #[.int .i64 ((rd_T62 l0_3 x3_2).f0), .int .i64 ((rd_T62 l0_3 x3_2).f1), .int .i64 ((rd_T62 l0_3 x3_2).f2)] 62 (0, 0))) ∧ Aside0 (Below w.heap.size w wc))
                case first =>
                  have H := HC17.out
                  clear HC17
                  by_cases c22 : ((rd_T62 l0_3 x3_2).f0) < a0_1
                  · rw [if_pos c22] at H
                    have c22b0 : decide (((rd_T62 l0_3 x3_2).f0) < a0_1) = true := decide_eq_true c22
                    clear c22
                    (first | rw [c22b0] | (simp only [i64_w, i32_w]; rw [c22b0]) | skip)
                    have H' := Aside0.mk H
                    clear H
                    have hnb23 := NB137_132.out
                    have hnc23 := NB132_137.out
                    obtain ⟨hcz24_0, hcz24_1, hcz24_2, hfz24_0, hfz24_1, hfz24_2⟩ := cellsF3 BK137.out
                    obtain ⟨hcz25_0, hcz25_1, hcz25_2, hcz25_3, hfz25_0, hfz25_1, hfz25_2, hfz25_3⟩ := cellsF4 BK132.out
                    go_wp2
                    repeat (go_quiet (fail); try go_wp2)
                    go_meet
                    case rel => exact ⟨_, (true), er_, H', ⟨au5_6⟩, ⟨au5_1⟩, ⟨au5_0⟩, ⟨bl_⟩⟩
                  · rw [if_neg c22] at H
                    have c22b0 : decide (((rd_T62 l0_3 x3_2).f0) < a0_1) = false := decide_eq_false c22
                    clear c22
                    (first | rw [c22b0] | (simp only [i64_w, i32_w]; rw [c22b0]) | skip)
                    by_cases c26 : ((rd_T62 l0_3 x3_2).f0) ≥ (wrap64 (a0_1 + 32))
                    · rw [if_pos c26] at H
                      have c26b0 : decide ((wrap64 (a0_1 + 32)) ≤ ((rd_T62 l0_3 x3_2).f0)) = true := decide_eq_true c26
                      clear c26
                      have H' := Aside0.mk H
                      clear H
                      have hnb27 := NB137_132.out
                      have hnc27 := NB132_137.out
                      obtain ⟨hcz28_0, hcz28_1, hcz28_2, hfz28_0, hfz28_1, hfz28_2⟩ := cellsF3 BK137.out
                      obtain ⟨hcz29_0, hcz29_1, hcz29_2, hcz29_3, hfz29_0, hfz29_1, hfz29_2, hfz29_3⟩ := cellsF4 BK132.out
                      go_wp2
                      repeat (go_quiet (fail); try go_wp2)
                      go_meet
                      case rel => exact ⟨_, (true), er_, H', ⟨au5_6⟩, ⟨au5_1⟩, ⟨au5_0⟩, ⟨bl_⟩⟩
                    · rw [if_neg c26] at H
                      have c26b0 : decide ((wrap64 (a0_1 + 32)) ≤ ((rd_T62 l0_3 x3_2).f0)) = false := decide_eq_false c26
                      clear c26
                      by_cases c30 : ((rd_T62 l0_3 x3_2).f0) > 999999
                      · rw [if_pos c30] at H
                        have c30b0 : decide (999999 < ((rd_T62 l0_3 x3_2).f0)) = true := decide_eq_true c30
                        clear c30
                        have H' := Aside0.mk H
                        clear H
                        have hnb31 := NB137_132.out
                        have hnc31 := NB132_137.out
                        obtain ⟨hcz32_0, hcz32_1, hcz32_2, hfz32_0, hfz32_1, hfz32_2⟩ := cellsF3 BK137.out
                        obtain ⟨hcz33_0, hcz33_1, hcz33_2, hcz33_3, hfz33_0, hfz33_1, hfz33_2, hfz33_3⟩ := cellsF4 BK132.out
                        go_wp2
                        repeat (go_quiet (fail); try go_wp2)
                        go_meet
                        case rel => exact ⟨_, (true), er_, H', ⟨au5_6⟩, ⟨au5_1⟩, ⟨au5_0⟩, ⟨bl_⟩⟩
                      · rw [if_neg c30] at H
                        have c30b0 : decide (999999 < ((rd_T62 l0_3 x3_2).f0)) = false := decide_eq_false c30
                        clear c30
                        by_cases c34 : x3_2 > 0
                        · rw [if_pos c34] at H
                          have c34b0 : decide (0 < x3_2) = true := decide_eq_true c34
                          clear c34
                          obtain ⟨ji35, hji35⟩ : ∃ j_ : Int, (wrap64 (x3_2 - 1)) = j_ := ⟨_, rfl⟩
                          replace H : (if 0 ≤ (ji35) then (if (ji35) < (l0_3.length : Int) then (if ((rd_T62 l0_3 x3_2).f0) ≤ ((rd_T62 l0_3 (ji35)).f0) then (spec_PartnerRight.j2 k2 x3_2 true a0_0 a0_1 a0_2 l0_3) else ((spec_l01Control.f ((rd_T62 l0_3 x3_2).f1)).bind fun t139 => (if t139 = true then (if ((rd_T62 l0_3 x3_2).f2) < 0 then (spec_PartnerRight.j2 k2 x3_2 true a0_0 a0_1 a0_2 l0_3) else (spec_PartnerRight.j2 k2 x3_2 (decide (((rd_T62 l0_3 x3_2).f2) > 13)) a0_0 a0_1 a0_2 l0_3)) else (spec_PartnerRight.j2 k2 x3_2 true a0_0 a0_1 a0_2 l0_3)))) else (none)) else (none)) = some r := by first | (rw [hji35] at H; exact H) | (simp only [hji35] at H ⊢; exact H)
                          have hji35w : (IntKind.i64.wrap (x3_2 - 1)) = ji35 := (i64_w _).trans hji35
                          by_cases c36 : 0 ≤ (ji35)
                          · rw [if_pos c36] at H
                            have c36b0 : decide (0 ≤ (ji35)) = true := decide_eq_true c36
                            clear c36
                            by_cases c37 : (ji35) < (l0_3.length : Int)
                            · rw [if_pos c37] at H
                              have c37b0 : decide ((ji35) < (l0_3.length : Int)) = true := decide_eq_true c37
                              clear c37
                              by_cases c38 : ((rd_T62 l0_3 x3_2).f0) ≤ ((rd_T62 l0_3 (ji35)).f0)
                              · rw [if_pos c38] at H
                                have c38b0 : decide (((rd_T62 l0_3 x3_2).f0) ≤ ((rd_T62 l0_3 (ji35)).f0)) = true := decide_eq_true c38
                                clear c38
                                have H' := Aside0.mk H
                                clear H
                                have hnb39 := NB137_132.out
                                have hnc39 := NB132_137.out
                                obtain ⟨hcz40_0, hcz40_1, hcz40_2, hfz40_0, hfz40_1, hfz40_2⟩ := cellsF3 BK137.out
                                obtain ⟨hcz41_0, hcz41_1, hcz41_2, hcz41_3, hfz41_0, hfz41_1, hfz41_2, hfz41_3⟩ := cellsF4 BK132.out
                                have p138 : 0 ≤ ((ji35) : Int) := of_decide_eq_true as_
                                have q138 : (ji35) < (l0_3.length : Int) := of_decide_eq_true as_
                                obtain ⟨ad138, e138, hx138_0, hx138_1, hx138_2⟩ := at_T62 HR0_3.out (ji35) p138 q138
                                obtain rfl : ad136 = ad138 := (by injection e138)
                                have hn138_0 : ad136.block ≠ gb137 := Nat.ne_of_lt (Nat.lt_of_lt_of_le au5_5 GW137.out)
                                have hn138_1 : ad136.block ≠ gb137 := Nat.ne_of_lt (Nat.lt_of_lt_of_le au5_5 GW137.out)
                                have hn138_2 : ad136.block ≠ gb137 := Nat.ne_of_lt (Nat.lt_of_lt_of_le au5_5 GW137.out)
                                replace hx138_0 := (HB.out.cell (World.block_lt_of_cell? _ _ hx138_0)).trans hx138_0
                                replace hx138_1 := (HB.out.cell (World.block_lt_of_cell? _ _ hx138_1)).trans hx138_1
                                replace hx138_2 := (HB.out.cell (World.block_lt_of_cell? _ _ hx138_2)).trans hx138_2
                                replace hx138_0 := (cell_far (p := ⟨gb137, 0, none⟩) au5_2 (.int .i64 ((rd_T62 l0_3 x3_2).f0))).trans hx138_0
                                replace hx138_1 := (cell_far (p := ⟨gb137, 0, none⟩) au5_2 (.int .i64 ((rd_T62 l0_3 x3_2).f0))).trans hx138_1
                                replace hx138_2 := (cell_far (p := ⟨gb137, 0, none⟩) au5_2 (.int .i64 ((rd_T62 l0_3 x3_2).f0))).trans hx138_2
                                replace hx138_0 := (cell_far (p := ⟨gb137, 1, none⟩) au5_3 (.int .i64 ((rd_T62 l0_3 x3_2).f1))).trans hx138_0
                                replace hx138_1 := (cell_far (p := ⟨gb137, 1, none⟩) au5_3 (.int .i64 ((rd_T62 l0_3 x3_2).f1))).trans hx138_1
                                replace hx138_2 := (cell_far (p := ⟨gb137, 1, none⟩) au5_3 (.int .i64 ((rd_T62 l0_3 x3_2).f1))).trans hx138_2
                                replace hx138_0 := (cell_far (p := ⟨gb137, 2, none⟩) au5_4 (.int .i64 ((rd_T62 l0_3 x3_2).f2))).trans hx138_0
                                replace hx138_1 := (cell_far (p := ⟨gb137, 2, none⟩) au5_4 (.int .i64 ((rd_T62 l0_3 x3_2).f2))).trans hx138_1
                                replace hx138_2 := (cell_far (p := ⟨gb137, 2, none⟩) au5_4 (.int .i64 ((rd_T62 l0_3 x3_2).f2))).trans hx138_2
                                (try have hy138_0 := fun (n_ : Nat) => (show (((((w19.drewN n_).setCell ⟨gb137, 0, none⟩ (.int .i64 ((rd_T62 l0_3 x3_2).f0))).setCell ⟨gb137, 1, none⟩ (.int .i64 ((rd_T62 l0_3 x3_2).f1))).setCell ⟨gb137, 2, none⟩ (.int .i64 ((rd_T62 l0_3 x3_2).f2)))).cell? _ = some _ from hx138_0))
                                (try have hy138_1 := fun (n_ : Nat) => (show (((((w19.drewN n_).setCell ⟨gb137, 0, none⟩ (.int .i64 ((rd_T62 l0_3 x3_2).f0))).setCell ⟨gb137, 1, none⟩ (.int .i64 ((rd_T62 l0_3 x3_2).f1))).setCell ⟨gb137, 2, none⟩ (.int .i64 ((rd_T62 l0_3 x3_2).f2)))).cell? _ = some _ from hx138_1))
                                (try have hy138_2 := fun (n_ : Nat) => (show (((((w19.drewN n_).setCell ⟨gb137, 0, none⟩ (.int .i64 ((rd_T62 l0_3 x3_2).f0))).setCell ⟨gb137, 1, none⟩ (.int .i64 ((rd_T62 l0_3 x3_2).f1))).setCell ⟨gb137, 2, none⟩ (.int .i64 ((rd_T62 l0_3 x3_2).f2)))).cell? _ = some _ from hx138_2))
                                clear hn138_0
                                clear hn138_1
                                clear hn138_2
                                replace p138 := eq_true p138
                                replace q138 := eq_true q138
                                go_wp2
                                repeat (go_quiet (fail); try go_wp2)
                                go_meet
                                case rel => exact ⟨_, (true), er_, H', ⟨au5_6⟩, ⟨au5_1⟩, ⟨au5_0⟩, ⟨bl_⟩⟩
                              · rw [if_neg c38] at H
                                have c38b0 : decide (((rd_T62 l0_3 x3_2).f0) ≤ ((rd_T62 l0_3 (ji35)).f0)) = false := decide_eq_false c38
                                clear c38
                                replace H := Option.bind_eq_some_iff.mp H
                                obtain ⟨t139, A420, H⟩ := H
                                replace H : (if t139 = true then (if ((rd_T62 l0_3 x3_2).f2) < 0 then (spec_PartnerRight.j2 k2 x3_2 true a0_0 a0_1 a0_2 l0_3) else (spec_PartnerRight.j2 k2 x3_2 (decide (((rd_T62 l0_3 x3_2).f2) > 13)) a0_0 a0_1 a0_2 l0_3)) else (spec_PartnerRight.j2 k2 x3_2 true a0_0 a0_1 a0_2 l0_3)) = some r := H
                                have A42 := Aside0.mk A420
                                clear A420
                                by_cases c43 : t139 = true
                                · subst c43
                                  have H1 : (if ((rd_T62 l0_3 x3_2).f2) < 0 then (spec_PartnerRight.j2 k2 x3_2 true a0_0 a0_1 a0_2 l0_3) else (spec_PartnerRight.j2 k2 x3_2 (decide (((rd_T62 l0_3 x3_2).f2) > 13)) a0_0 a0_1 a0_2 l0_3)) = some r := by rw [if_pos rfl] at H; exact H
                                  clear H
                                  have H := H1
                                  clear H1
                                  by_cases c44 : ((rd_T62 l0_3 x3_2).f2) < 0
                                  · rw [if_pos c44] at H
                                    have c44b0 : decide (((rd_T62 l0_3 x3_2).f2) < 0) = true := decide_eq_true c44
                                    clear c44
                                    have H' := Aside0.mk H
                                    clear H
                                    have hnb45 := NB137_132.out
                                    have hnc45 := NB132_137.out
                                    obtain ⟨hcz46_0, hcz46_1, hcz46_2, hfz46_0, hfz46_1, hfz46_2⟩ := cellsF3 BK137.out
                                    obtain ⟨hcz47_0, hcz47_1, hcz47_2, hcz47_3, hfz47_0, hfz47_1, hfz47_2, hfz47_3⟩ := cellsF4 BK132.out
                                    have p138 : 0 ≤ ((ji35) : Int) := of_decide_eq_true as_
                                    have q138 : (ji35) < (l0_3.length : Int) := of_decide_eq_true as_
                                    obtain ⟨ad138, e138, hx138_0, hx138_1, hx138_2⟩ := at_T62 HR0_3.out (ji35) p138 q138
                                    obtain rfl : ad136 = ad138 := (by injection e138)
                                    have hn138_0 : ad136.block ≠ gb137 := Nat.ne_of_lt (Nat.lt_of_lt_of_le au5_5 GW137.out)
                                    have hn138_1 : ad136.block ≠ gb137 := Nat.ne_of_lt (Nat.lt_of_lt_of_le au5_5 GW137.out)
                                    have hn138_2 : ad136.block ≠ gb137 := Nat.ne_of_lt (Nat.lt_of_lt_of_le au5_5 GW137.out)
                                    replace hx138_0 := (HB.out.cell (World.block_lt_of_cell? _ _ hx138_0)).trans hx138_0
                                    replace hx138_1 := (HB.out.cell (World.block_lt_of_cell? _ _ hx138_1)).trans hx138_1
                                    replace hx138_2 := (HB.out.cell (World.block_lt_of_cell? _ _ hx138_2)).trans hx138_2
                                    replace hx138_0 := (cell_far (p := ⟨gb137, 0, none⟩) au5_2 (.int .i64 ((rd_T62 l0_3 x3_2).f0))).trans hx138_0
                                    replace hx138_1 := (cell_far (p := ⟨gb137, 0, none⟩) au5_2 (.int .i64 ((rd_T62 l0_3 x3_2).f0))).trans hx138_1
                                    replace hx138_2 := (cell_far (p := ⟨gb137, 0, none⟩) au5_2 (.int .i64 ((rd_T62 l0_3 x3_2).f0))).trans hx138_2
                                    replace hx138_0 := (cell_far (p := ⟨gb137, 1, none⟩) au5_3 (.int .i64 ((rd_T62 l0_3 x3_2).f1))).trans hx138_0
                                    replace hx138_1 := (cell_far (p := ⟨gb137, 1, none⟩) au5_3 (.int .i64 ((rd_T62 l0_3 x3_2).f1))).trans hx138_1
                                    replace hx138_2 := (cell_far (p := ⟨gb137, 1, none⟩) au5_3 (.int .i64 ((rd_T62 l0_3 x3_2).f1))).trans hx138_2
                                    replace hx138_0 := (cell_far (p := ⟨gb137, 2, none⟩) au5_4 (.int .i64 ((rd_T62 l0_3 x3_2).f2))).trans hx138_0
                                    replace hx138_1 := (cell_far (p := ⟨gb137, 2, none⟩) au5_4 (.int .i64 ((rd_T62 l0_3 x3_2).f2))).trans hx138_1
                                    replace hx138_2 := (cell_far (p := ⟨gb137, 2, none⟩) au5_4 (.int .i64 ((rd_T62 l0_3 x3_2).f2))).trans hx138_2
                                    (try have hy138_0 := fun (n_ : Nat) => (show (((((w19.drewN n_).setCell ⟨gb137, 0, none⟩ (.int .i64 ((rd_T62 l0_3 x3_2).f0))).setCell ⟨gb137, 1, none⟩ (.int .i64 ((rd_T62 l0_3 x3_2).f1))).setCell ⟨gb137, 2, none⟩ (.int .i64 ((rd_T62 l0_3 x3_2).f2)))).cell? _ = some _ from hx138_0))
                                    (try have hy138_1 := fun (n_ : Nat) => (show (((((w19.drewN n_).setCell ⟨gb137, 0, none⟩ (.int .i64 ((rd_T62 l0_3 x3_2).f0))).setCell ⟨gb137, 1, none⟩ (.int .i64 ((rd_T62 l0_3 x3_2).f1))).setCell ⟨gb137, 2, none⟩ (.int .i64 ((rd_T62 l0_3 x3_2).f2)))).cell? _ = some _ from hx138_1))
                                    (try have hy138_2 := fun (n_ : Nat) => (show (((((w19.drewN n_).setCell ⟨gb137, 0, none⟩ (.int .i64 ((rd_T62 l0_3 x3_2).f0))).setCell ⟨gb137, 1, none⟩ (.int .i64 ((rd_T62 l0_3 x3_2).f1))).setCell ⟨gb137, 2, none⟩ (.int .i64 ((rd_T62 l0_3 x3_2).f2)))).cell? _ = some _ from hx138_2))
                                    clear hn138_0
                                    clear hn138_1
                                    clear hn138_2
                                    replace p138 := eq_true p138
                                    replace q138 := eq_true q138
                                    go_wp2_with (first | (go_at_call 78; (with_reducible refine (spec_l01Control.calls ((rd_T62 l0_3 x3_2).f1) true _ A42.out).mono ?_); rintro e w' ⟨rfl, ⟨nd, rfl⟩⟩; (try clear A42); (try first | exact ⟨rfl, _, World.drewN_drewN _ _ _⟩ | exact ⟨rfl, _, Eq.trans (World.drewN_drewN _ _ _) (congrArg (World.drewN _) (Nat.add_assoc _ _ _))⟩)))
                                    repeat (go_quiet (first | (go_at_call 78; (with_reducible refine (spec_l01Control.calls ((rd_T62 l0_3 x3_2).f1) true _ A42.out).mono ?_); rintro e w' ⟨rfl, ⟨nd, rfl⟩⟩; (try clear A42); (try first | exact ⟨rfl, _, World.drewN_drewN _ _ _⟩ | exact ⟨rfl, _, Eq.trans (World.drewN_drewN _ _ _) (congrArg (World.drewN _) (Nat.add_assoc _ _ _))⟩))); try go_wp2_with (first | (go_at_call 78; (with_reducible refine (spec_l01Control.calls ((rd_T62 l0_3 x3_2).f1) true _ A42.out).mono ?_); rintro e w' ⟨rfl, ⟨nd, rfl⟩⟩; (try clear A42); (try first | exact ⟨rfl, _, World.drewN_drewN _ _ _⟩ | exact ⟨rfl, _, Eq.trans (World.drewN_drewN _ _ _) (congrArg (World.drewN _) (Nat.add_assoc _ _ _))⟩))))
                                    go_meet
                                    case rel => exact ⟨_, (true), er_, H', ⟨au5_6⟩, ⟨au5_1⟩, ⟨au5_0⟩, ⟨bl_⟩⟩
                                  · rw [if_neg c44] at H
                                    have c44b0 : decide (((rd_T62 l0_3 x3_2).f2) < 0) = false := decide_eq_false c44
                                    clear c44
                                    have H' := Aside0.mk H
                                    clear H
                                    have hnb48 := NB137_132.out
                                    have hnc48 := NB132_137.out
                                    obtain ⟨hcz49_0, hcz49_1, hcz49_2, hfz49_0, hfz49_1, hfz49_2⟩ := cellsF3 BK137.out
                                    obtain ⟨hcz50_0, hcz50_1, hcz50_2, hcz50_3, hfz50_0, hfz50_1, hfz50_2, hfz50_3⟩ := cellsF4 BK132.out
                                    have p138 : 0 ≤ ((ji35) : Int) := of_decide_eq_true as_
                                    have q138 : (ji35) < (l0_3.length : Int) := of_decide_eq_true as_
                                    obtain ⟨ad138, e138, hx138_0, hx138_1, hx138_2⟩ := at_T62 HR0_3.out (ji35) p138 q138
                                    obtain rfl : ad136 = ad138 := (by injection e138)
                                    have hn138_0 : ad136.block ≠ gb137 := Nat.ne_of_lt (Nat.lt_of_lt_of_le au5_5 GW137.out)
                                    have hn138_1 : ad136.block ≠ gb137 := Nat.ne_of_lt (Nat.lt_of_lt_of_le au5_5 GW137.out)
                                    have hn138_2 : ad136.block ≠ gb137 := Nat.ne_of_lt (Nat.lt_of_lt_of_le au5_5 GW137.out)
                                    replace hx138_0 := (HB.out.cell (World.block_lt_of_cell? _ _ hx138_0)).trans hx138_0
                                    replace hx138_1 := (HB.out.cell (World.block_lt_of_cell? _ _ hx138_1)).trans hx138_1
                                    replace hx138_2 := (HB.out.cell (World.block_lt_of_cell? _ _ hx138_2)).trans hx138_2
                                    replace hx138_0 := (cell_far (p := ⟨gb137, 0, none⟩) au5_2 (.int .i64 ((rd_T62 l0_3 x3_2).f0))).trans hx138_0
                                    replace hx138_1 := (cell_far (p := ⟨gb137, 0, none⟩) au5_2 (.int .i64 ((rd_T62 l0_3 x3_2).f0))).trans hx138_1
                                    replace hx138_2 := (cell_far (p := ⟨gb137, 0, none⟩) au5_2 (.int .i64 ((rd_T62 l0_3 x3_2).f0))).trans hx138_2
                                    replace hx138_0 := (cell_far (p := ⟨gb137, 1, none⟩) au5_3 (.int .i64 ((rd_T62 l0_3 x3_2).f1))).trans hx138_0
                                    replace hx138_1 := (cell_far (p := ⟨gb137, 1, none⟩) au5_3 (.int .i64 ((rd_T62 l0_3 x3_2).f1))).trans hx138_1
                                    replace hx138_2 := (cell_far (p := ⟨gb137, 1, none⟩) au5_3 (.int .i64 ((rd_T62 l0_3 x3_2).f1))).trans hx138_2
                                    replace hx138_0 := (cell_far (p := ⟨gb137, 2, none⟩) au5_4 (.int .i64 ((rd_T62 l0_3 x3_2).f2))).trans hx138_0
                                    replace hx138_1 := (cell_far (p := ⟨gb137, 2, none⟩) au5_4 (.int .i64 ((rd_T62 l0_3 x3_2).f2))).trans hx138_1
                                    replace hx138_2 := (cell_far (p := ⟨gb137, 2, none⟩) au5_4 (.int .i64 ((rd_T62 l0_3 x3_2).f2))).trans hx138_2
                                    (try have hy138_0 := fun (n_ : Nat) => (show (((((w19.drewN n_).setCell ⟨gb137, 0, none⟩ (.int .i64 ((rd_T62 l0_3 x3_2).f0))).setCell ⟨gb137, 1, none⟩ (.int .i64 ((rd_T62 l0_3 x3_2).f1))).setCell ⟨gb137, 2, none⟩ (.int .i64 ((rd_T62 l0_3 x3_2).f2)))).cell? _ = some _ from hx138_0))
                                    (try have hy138_1 := fun (n_ : Nat) => (show (((((w19.drewN n_).setCell ⟨gb137, 0, none⟩ (.int .i64 ((rd_T62 l0_3 x3_2).f0))).setCell ⟨gb137, 1, none⟩ (.int .i64 ((rd_T62 l0_3 x3_2).f1))).setCell ⟨gb137, 2, none⟩ (.int .i64 ((rd_T62 l0_3 x3_2).f2)))).cell? _ = some _ from hx138_1))
                                    (try have hy138_2 := fun (n_ : Nat) => (show (((((w19.drewN n_).setCell ⟨gb137, 0, none⟩ (.int .i64 ((rd_T62 l0_3 x3_2).f0))).setCell ⟨gb137, 1, none⟩ (.int .i64 ((rd_T62 l0_3 x3_2).f1))).setCell ⟨gb137, 2, none⟩ (.int .i64 ((rd_T62 l0_3 x3_2).f2)))).cell? _ = some _ from hx138_2))
                                    clear hn138_0
                                    clear hn138_1
                                    clear hn138_2
                                    replace p138 := eq_true p138
                                    replace q138 := eq_true q138
                                    go_wp2_with (first | (go_at_call 78; (with_reducible refine (spec_l01Control.calls ((rd_T62 l0_3 x3_2).f1) true _ A42.out).mono ?_); rintro e w' ⟨rfl, ⟨nd, rfl⟩⟩; (try clear A42); (try first | exact ⟨rfl, _, World.drewN_drewN _ _ _⟩ | exact ⟨rfl, _, Eq.trans (World.drewN_drewN _ _ _) (congrArg (World.drewN _) (Nat.add_assoc _ _ _))⟩)))
                                    repeat (go_quiet (first | (go_at_call 78; (with_reducible refine (spec_l01Control.calls ((rd_T62 l0_3 x3_2).f1) true _ A42.out).mono ?_); rintro e w' ⟨rfl, ⟨nd, rfl⟩⟩; (try clear A42); (try first | exact ⟨rfl, _, World.drewN_drewN _ _ _⟩ | exact ⟨rfl, _, Eq.trans (World.drewN_drewN _ _ _) (congrArg (World.drewN _) (Nat.add_assoc _ _ _))⟩))); try go_wp2_with (first | (go_at_call 78; (with_reducible refine (spec_l01Control.calls ((rd_T62 l0_3 x3_2).f1) true _ A42.out).mono ?_); rintro e w' ⟨rfl, ⟨nd, rfl⟩⟩; (try clear A42); (try first | exact ⟨rfl, _, World.drewN_drewN _ _ _⟩ | exact ⟨rfl, _, Eq.trans (World.drewN_drewN _ _ _) (congrArg (World.drewN _) (Nat.add_assoc _ _ _))⟩))))
                                    go_meet
                                    case rel => exact ⟨_, (decide (((rd_T62 l0_3 x3_2).f2) > 13)), er_, H', ⟨au5_6⟩, ⟨au5_1⟩, ⟨au5_0⟩, ⟨bl_⟩⟩
                                · replace c43 := Bool.eq_false_iff.mpr c43
                                  subst c43
                                  have H1 : (spec_PartnerRight.j2 k2 x3_2 true a0_0 a0_1 a0_2 l0_3) = some r := by rw [if_neg (show ¬ (false = true) by decide)] at H; exact H
                                  clear H
                                  have H := H1
                                  clear H1
                                  have H' := Aside0.mk H
                                  clear H
                                  have hnb51 := NB137_132.out
                                  have hnc51 := NB132_137.out
                                  obtain ⟨hcz52_0, hcz52_1, hcz52_2, hfz52_0, hfz52_1, hfz52_2⟩ := cellsF3 BK137.out
                                  obtain ⟨hcz53_0, hcz53_1, hcz53_2, hcz53_3, hfz53_0, hfz53_1, hfz53_2, hfz53_3⟩ := cellsF4 BK132.out
                                  have p138 : 0 ≤ ((ji35) : Int) := of_decide_eq_true as_
                                  have q138 : (ji35) < (l0_3.length : Int) := of_decide_eq_true as_
                                  obtain ⟨ad138, e138, hx138_0, hx138_1, hx138_2⟩ := at_T62 HR0_3.out (ji35) p138 q138
                                  obtain rfl : ad136 = ad138 := (by injection e138)
                                  have hn138_0 : ad136.block ≠ gb137 := Nat.ne_of_lt (Nat.lt_of_lt_of_le au5_5 GW137.out)
                                  have hn138_1 : ad136.block ≠ gb137 := Nat.ne_of_lt (Nat.lt_of_lt_of_le au5_5 GW137.out)
                                  have hn138_2 : ad136.block ≠ gb137 := Nat.ne_of_lt (Nat.lt_of_lt_of_le au5_5 GW137.out)
                                  replace hx138_0 := (HB.out.cell (World.block_lt_of_cell? _ _ hx138_0)).trans hx138_0
                                  replace hx138_1 := (HB.out.cell (World.block_lt_of_cell? _ _ hx138_1)).trans hx138_1
                                  replace hx138_2 := (HB.out.cell (World.block_lt_of_cell? _ _ hx138_2)).trans hx138_2
                                  replace hx138_0 := (cell_far (p := ⟨gb137, 0, none⟩) au5_2 (.int .i64 ((rd_T62 l0_3 x3_2).f0))).trans hx138_0
                                  replace hx138_1 := (cell_far (p := ⟨gb137, 0, none⟩) au5_2 (.int .i64 ((rd_T62 l0_3 x3_2).f0))).trans hx138_1
                                  replace hx138_2 := (cell_far (p := ⟨gb137, 0, none⟩) au5_2 (.int .i64 ((rd_T62 l0_3 x3_2).f0))).trans hx138_2
                                  replace hx138_0 := (cell_far (p := ⟨gb137, 1, none⟩) au5_3 (.int .i64 ((rd_T62 l0_3 x3_2).f1))).trans hx138_0
                                  replace hx138_1 := (cell_far (p := ⟨gb137, 1, none⟩) au5_3 (.int .i64 ((rd_T62 l0_3 x3_2).f1))).trans hx138_1
                                  replace hx138_2 := (cell_far (p := ⟨gb137, 1, none⟩) au5_3 (.int .i64 ((rd_T62 l0_3 x3_2).f1))).trans hx138_2
                                  replace hx138_0 := (cell_far (p := ⟨gb137, 2, none⟩) au5_4 (.int .i64 ((rd_T62 l0_3 x3_2).f2))).trans hx138_0
                                  replace hx138_1 := (cell_far (p := ⟨gb137, 2, none⟩) au5_4 (.int .i64 ((rd_T62 l0_3 x3_2).f2))).trans hx138_1
                                  replace hx138_2 := (cell_far (p := ⟨gb137, 2, none⟩) au5_4 (.int .i64 ((rd_T62 l0_3 x3_2).f2))).trans hx138_2
                                  (try have hy138_0 := fun (n_ : Nat) => (show (((((w19.drewN n_).setCell ⟨gb137, 0, none⟩ (.int .i64 ((rd_T62 l0_3 x3_2).f0))).setCell ⟨gb137, 1, none⟩ (.int .i64 ((rd_T62 l0_3 x3_2).f1))).setCell ⟨gb137, 2, none⟩ (.int .i64 ((rd_T62 l0_3 x3_2).f2)))).cell? _ = some _ from hx138_0))
                                  (try have hy138_1 := fun (n_ : Nat) => (show (((((w19.drewN n_).setCell ⟨gb137, 0, none⟩ (.int .i64 ((rd_T62 l0_3 x3_2).f0))).setCell ⟨gb137, 1, none⟩ (.int .i64 ((rd_T62 l0_3 x3_2).f1))).setCell ⟨gb137, 2, none⟩ (.int .i64 ((rd_T62 l0_3 x3_2).f2)))).cell? _ = some _ from hx138_1))
                                  (try have hy138_2 := fun (n_ : Nat) => (show (((((w19.drewN n_).setCell ⟨gb137, 0, none⟩ (.int .i64 ((rd_T62 l0_3 x3_2).f0))).setCell ⟨gb137, 1, none⟩ (.int .i64 ((rd_T62 l0_3 x3_2).f1))).setCell ⟨gb137, 2, none⟩ (.int .i64 ((rd_T62 l0_3 x3_2).f2)))).cell? _ = some _ from hx138_2))
                                  clear hn138_0
                                  clear hn138_1
                                  clear hn138_2
                                  replace p138 := eq_true p138
                                  replace q138 := eq_true q138
                                  go_wp2_with (first | (go_at_call 78; (with_reducible refine (spec_l01Control.calls ((rd_T62 l0_3 x3_2).f1) false _ A42.out).mono ?_); rintro e w' ⟨rfl, ⟨nd, rfl⟩⟩; (try clear A42); (try first | exact ⟨rfl, _, World.drewN_drewN _ _ _⟩ | exact ⟨rfl, _, Eq.trans (World.drewN_drewN _ _ _) (congrArg (World.drewN _) (Nat.add_assoc _ _ _))⟩)))
                                  repeat (go_quiet (first | (go_at_call 78; (with_reducible refine (spec_l01Control.calls ((rd_T62 l0_3 x3_2).f1) false _ A42.out).mono ?_); rintro e w' ⟨rfl, ⟨nd, rfl⟩⟩; (try clear A42); (try first | exact ⟨rfl, _, World.drewN_drewN _ _ _⟩ | exact ⟨rfl, _, Eq.trans (World.drewN_drewN _ _ _) (congrArg (World.drewN _) (Nat.add_assoc _ _ _))⟩))); try go_wp2_with (first | (go_at_call 78; (with_reducible refine (spec_l01Control.calls ((rd_T62 l0_3 x3_2).f1) false _ A42.out).mono ?_); rintro e w' ⟨rfl, ⟨nd, rfl⟩⟩; (try clear A42); (try first | exact ⟨rfl, _, World.drewN_drewN _ _ _⟩ | exact ⟨rfl, _, Eq.trans (World.drewN_drewN _ _ _) (congrArg (World.drewN _) (Nat.add_assoc _ _ _))⟩))))
                                  go_meet
                                  case rel => exact ⟨_, (true), er_, H', ⟨au5_6⟩, ⟨au5_1⟩, ⟨au5_0⟩, ⟨bl_⟩⟩
                            · rw [if_neg c37] at H
                              exact absurd H (by simp)
                          · rw [if_neg c36] at H
                            exact absurd H (by simp)
                        · rw [if_neg c34] at H
                          have c34b0 : decide (0 < x3_2) = false := decide_eq_false c34
                          clear c34
                          replace H := Option.bind_eq_some_iff.mp H
                          obtain ⟨t140, A540, H⟩ := H
                          replace H : (if t140 = true then (if ((rd_T62 l0_3 x3_2).f2) < 0 then (spec_PartnerRight.j2 k2 x3_2 true a0_0 a0_1 a0_2 l0_3) else (spec_PartnerRight.j2 k2 x3_2 (decide (((rd_T62 l0_3 x3_2).f2) > 13)) a0_0 a0_1 a0_2 l0_3)) else (spec_PartnerRight.j2 k2 x3_2 true a0_0 a0_1 a0_2 l0_3)) = some r := H
                          have A54 := Aside0.mk A540
                          clear A540
                          by_cases c55 : t140 = true
                          · subst c55
                            have H1 : (if ((rd_T62 l0_3 x3_2).f2) < 0 then (spec_PartnerRight.j2 k2 x3_2 true a0_0 a0_1 a0_2 l0_3) else (spec_PartnerRight.j2 k2 x3_2 (decide (((rd_T62 l0_3 x3_2).f2) > 13)) a0_0 a0_1 a0_2 l0_3)) = some r := by rw [if_pos rfl] at H; exact H
                            clear H
                            have H := H1
                            clear H1
                            by_cases c56 : ((rd_T62 l0_3 x3_2).f2) < 0
                            · rw [if_pos c56] at H
                              have c56b0 : decide (((rd_T62 l0_3 x3_2).f2) < 0) = true := decide_eq_true c56
                              clear c56
                              have H' := Aside0.mk H
                              clear H
                              have hnb57 := NB137_132.out
                              have hnc57 := NB132_137.out
                              obtain ⟨hcz58_0, hcz58_1, hcz58_2, hfz58_0, hfz58_1, hfz58_2⟩ := cellsF3 BK137.out
                              obtain ⟨hcz59_0, hcz59_1, hcz59_2, hcz59_3, hfz59_0, hfz59_1, hfz59_2, hfz59_3⟩ := cellsF4 BK132.out
                              go_wp2_with (first | (go_at_call 78; (with_reducible refine (spec_l01Control.calls ((rd_T62 l0_3 x3_2).f1) true _ A54.out).mono ?_); rintro e w' ⟨rfl, ⟨nd, rfl⟩⟩; (try clear A54); (try first | exact ⟨rfl, _, World.drewN_drewN _ _ _⟩ | exact ⟨rfl, _, Eq.trans (World.drewN_drewN _ _ _) (congrArg (World.drewN _) (Nat.add_assoc _ _ _))⟩)))
                              repeat (go_quiet (first | (go_at_call 78; (with_reducible refine (spec_l01Control.calls ((rd_T62 l0_3 x3_2).f1) true _ A54.out).mono ?_); rintro e w' ⟨rfl, ⟨nd, rfl⟩⟩; (try clear A54); (try first | exact ⟨rfl, _, World.drewN_drewN _ _ _⟩ | exact ⟨rfl, _, Eq.trans (World.drewN_drewN _ _ _) (congrArg (World.drewN _) (Nat.add_assoc _ _ _))⟩))); try go_wp2_with (first | (go_at_call 78; (with_reducible refine (spec_l01Control.calls ((rd_T62 l0_3 x3_2).f1) true _ A54.out).mono ?_); rintro e w' ⟨rfl, ⟨nd, rfl⟩⟩; (try clear A54); (try first | exact ⟨rfl, _, World.drewN_drewN _ _ _⟩ | exact ⟨rfl, _, Eq.trans (World.drewN_drewN _ _ _) (congrArg (World.drewN _) (Nat.add_assoc _ _ _))⟩))))
                              go_meet
                              case rel => exact ⟨_, (true), er_, H', ⟨au5_6⟩, ⟨au5_1⟩, ⟨au5_0⟩, ⟨bl_⟩⟩
                            · rw [if_neg c56] at H
                              have c56b0 : decide (((rd_T62 l0_3 x3_2).f2) < 0) = false := decide_eq_false c56
                              clear c56
                              have H' := Aside0.mk H
                              clear H
                              have hnb60 := NB137_132.out
                              have hnc60 := NB132_137.out
                              obtain ⟨hcz61_0, hcz61_1, hcz61_2, hfz61_0, hfz61_1, hfz61_2⟩ := cellsF3 BK137.out
                              obtain ⟨hcz62_0, hcz62_1, hcz62_2, hcz62_3, hfz62_0, hfz62_1, hfz62_2, hfz62_3⟩ := cellsF4 BK132.out
                              go_wp2_with (first | (go_at_call 78; (with_reducible refine (spec_l01Control.calls ((rd_T62 l0_3 x3_2).f1) true _ A54.out).mono ?_); rintro e w' ⟨rfl, ⟨nd, rfl⟩⟩; (try clear A54); (try first | exact ⟨rfl, _, World.drewN_drewN _ _ _⟩ | exact ⟨rfl, _, Eq.trans (World.drewN_drewN _ _ _) (congrArg (World.drewN _) (Nat.add_assoc _ _ _))⟩)))
                              repeat (go_quiet (first | (go_at_call 78; (with_reducible refine (spec_l01Control.calls ((rd_T62 l0_3 x3_2).f1) true _ A54.out).mono ?_); rintro e w' ⟨rfl, ⟨nd, rfl⟩⟩; (try clear A54); (try first | exact ⟨rfl, _, World.drewN_drewN _ _ _⟩ | exact ⟨rfl, _, Eq.trans (World.drewN_drewN _ _ _) (congrArg (World.drewN _) (Nat.add_assoc _ _ _))⟩))); try go_wp2_with (first | (go_at_call 78; (with_reducible refine (spec_l01Control.calls ((rd_T62 l0_3 x3_2).f1) true _ A54.out).mono ?_); rintro e w' ⟨rfl, ⟨nd, rfl⟩⟩; (try clear A54); (try first | exact ⟨rfl, _, World.drewN_drewN _ _ _⟩ | exact ⟨rfl, _, Eq.trans (World.drewN_drewN _ _ _) (congrArg (World.drewN _) (Nat.add_assoc _ _ _))⟩))))
                              go_meet
                              case rel => exact ⟨_, (decide (((rd_T62 l0_3 x3_2).f2) > 13)), er_, H', ⟨au5_6⟩, ⟨au5_1⟩, ⟨au5_0⟩, ⟨bl_⟩⟩
                          · replace c55 := Bool.eq_false_iff.mpr c55
                            subst c55
                            have H1 : (spec_PartnerRight.j2 k2 x3_2 true a0_0 a0_1 a0_2 l0_3) = some r := by rw [if_neg (show ¬ (false = true) by decide)] at H; exact H
                            clear H
                            have H := H1
                            clear H1
                            have H' := Aside0.mk H
                            clear H
                            have hnb63 := NB137_132.out
                            have hnc63 := NB132_137.out
                            obtain ⟨hcz64_0, hcz64_1, hcz64_2, hfz64_0, hfz64_1, hfz64_2⟩ := cellsF3 BK137.out
                            obtain ⟨hcz65_0, hcz65_1, hcz65_2, hcz65_3, hfz65_0, hfz65_1, hfz65_2, hfz65_3⟩ := cellsF4 BK132.out
                            go_wp2_with (first | (go_at_call 78; (with_reducible refine (spec_l01Control.calls ((rd_T62 l0_3 x3_2).f1) false _ A54.out).mono ?_); rintro e w' ⟨rfl, ⟨nd, rfl⟩⟩; (try clear A54); (try first | exact ⟨rfl, _, World.drewN_drewN _ _ _⟩ | exact ⟨rfl, _, Eq.trans (World.drewN_drewN _ _ _) (congrArg (World.drewN _) (Nat.add_assoc _ _ _))⟩)))
                            repeat (go_quiet (first | (go_at_call 78; (with_reducible refine (spec_l01Control.calls ((rd_T62 l0_3 x3_2).f1) false _ A54.out).mono ?_); rintro e w' ⟨rfl, ⟨nd, rfl⟩⟩; (try clear A54); (try first | exact ⟨rfl, _, World.drewN_drewN _ _ _⟩ | exact ⟨rfl, _, Eq.trans (World.drewN_drewN _ _ _) (congrArg (World.drewN _) (Nat.add_assoc _ _ _))⟩))); try go_wp2_with (first | (go_at_call 78; (with_reducible refine (spec_l01Control.calls ((rd_T62 l0_3 x3_2).f1) false _ A54.out).mono ?_); rintro e w' ⟨rfl, ⟨nd, rfl⟩⟩; (try clear A54); (try first | exact ⟨rfl, _, World.drewN_drewN _ _ _⟩ | exact ⟨rfl, _, Eq.trans (World.drewN_drewN _ _ _) (congrArg (World.drewN _) (Nat.add_assoc _ _ _))⟩))))
                            go_meet
                            case rel => exact ⟨_, (true), er_, H', ⟨au5_6⟩, ⟨au5_1⟩, ⟨au5_0⟩, ⟨bl_⟩⟩
                case rest =>
                  clear HC17
                  try clear c1
                  try clear p1
                  try clear q1
                  try clear hx1
                  try clear c2
                  try clear p2
                  try clear c3
                  try clear c4
                  try clear c5
                  try clear c6
                  try clear p6
                  try clear c7
                  try clear c9
                  try clear p13
                  try clear q13
                  try clear hx13
                  try clear c14
                  try clear c15
                  try clear c15b0
                  try clear c16
                  try clear c16b0
                  try clear c20
                  try clear c22
                  try clear c22b0
                  try clear c23
                  try clear c26
                  try clear c26b0
                  try clear c27
                  try clear c30
                  try clear c30b0
                  try clear c31
                  try clear c34
                  try clear c34b0
                  try clear c36
                  try clear c36b0
                  try clear c37
                  try clear c37b0
                  try clear c38
                  try clear c38b0
                  try clear c39
                  try clear c43
                  try clear c44
                  try clear c44b0
                  try clear c45
                  try clear c48
                  try clear c51
                  try clear c55
                  try clear c56
                  try clear c56b0
                  try clear c57
                  try clear c60
                  try clear c63
                  try clear p64
                  try clear hcz10_0
                  try clear hcz10_1
                  try clear hcz10_2
                  try clear hcz10_3
                  try clear hcz11_0
                  try clear hcz11_1
                  try clear hcz11_2
                  try clear hcz11_3
                  try clear hcz12_0
                  try clear hcz12_1
                  try clear hcz12_2
                  try clear hcz12_3
                  try clear hcz13_0
                  try clear hcz13_1
                  try clear hcz13_2
                  try clear hcz13_3
                  try clear hcz18_0
                  try clear hcz18_1
                  try clear hcz18_2
                  try clear hcz18_3
                  try clear hcz21_0
                  try clear hcz21_1
                  try clear hcz21_2
                  try clear hcz24_0
                  try clear hcz24_1
                  try clear hcz24_2
                  try clear hcz25_0
                  try clear hcz25_1
                  try clear hcz25_2
                  try clear hcz25_3
                  try clear hcz28_0
                  try clear hcz28_1
                  try clear hcz28_2
                  try clear hcz29_0
                  try clear hcz29_1
                  try clear hcz29_2
                  try clear hcz29_3
                  try clear hcz32_0
                  try clear hcz32_1
                  try clear hcz32_2
                  try clear hcz33_0
                  try clear hcz33_1
                  try clear hcz33_2
                  try clear hcz33_3
                  try clear hcz40_0
                  try clear hcz40_1
                  try clear hcz40_2
                  try clear hcz41_0
                  try clear hcz41_1
                  try clear hcz41_2
                  try clear hcz41_3
                  try clear hcz46_0
                  try clear hcz46_1
                  try clear hcz46_2
                  try clear hcz47_0
                  try clear hcz47_1
                  try clear hcz47_2
                  try clear hcz47_3
                  try clear hcz49_0
                  try clear hcz49_1
                  try clear hcz49_2
                  try clear hcz50_0
                  try clear hcz50_1
                  try clear hcz50_2
                  try clear hcz50_3
                  try clear hcz52_0
                  try clear hcz52_1
                  try clear hcz52_2
                  try clear hcz53_0
                  try clear hcz53_1
                  try clear hcz53_2
                  try clear hcz53_3
                  try clear hcz58_0
                  try clear hcz58_1
                  try clear hcz58_2
                  try clear hcz59_0
                  try clear hcz59_1
                  try clear hcz59_2
                  try clear hcz59_3
                  try clear hcz61_0
                  try clear hcz61_1
                  try clear hcz61_2
                  try clear hcz62_0
                  try clear hcz62_1
                  try clear hcz62_2
                  try clear hcz62_3
                  try clear hcz64_0
                  try clear hcz64_1
                  try clear hcz64_2
                  try clear hcz65_0
                  try clear hcz65_1
                  try clear hcz65_2
                  try clear hcz65_3
                  try clear hfz10_0
                  try clear hfz10_1
                  try clear hfz10_2
                  try clear hfz10_3
                  try clear hfz11_0
                  try clear hfz11_1
                  try clear hfz11_2
                  try clear hfz11_3
                  try clear hfz12_0
                  try clear hfz12_1
                  try clear hfz12_2
                  try clear hfz12_3
                  try clear hfz13_0
                  try clear hfz13_1
                  try clear hfz13_2
                  try clear hfz13_3
                  try clear hfz18_0
                  try clear hfz18_1
                  try clear hfz18_2
                  try clear hfz18_3
                  try clear hfz21_0
                  try clear hfz21_1
                  try clear hfz21_2
                  try clear hfz24_0
                  try clear hfz24_1
                  try clear hfz24_2
                  try clear hfz25_0
                  try clear hfz25_1
                  try clear hfz25_2
                  try clear hfz25_3
                  try clear hfz28_0
                  try clear hfz28_1
                  try clear hfz28_2
                  try clear hfz29_0
                  try clear hfz29_1
                  try clear hfz29_2
                  try clear hfz29_3
                  try clear hfz32_0
                  try clear hfz32_1
                  try clear hfz32_2
                  try clear hfz33_0
                  try clear hfz33_1
                  try clear hfz33_2
                  try clear hfz33_3
                  try clear hfz40_0
                  try clear hfz40_1
                  try clear hfz40_2
                  try clear hfz41_0
                  try clear hfz41_1
                  try clear hfz41_2
                  try clear hfz41_3
                  try clear hfz46_0
                  try clear hfz46_1
                  try clear hfz46_2
                  try clear hfz47_0
                  try clear hfz47_1
                  try clear hfz47_2
                  try clear hfz47_3
                  try clear hfz49_0
                  try clear hfz49_1
                  try clear hfz49_2
                  try clear hfz50_0
                  try clear hfz50_1
                  try clear hfz50_2
                  try clear hfz50_3
                  try clear hfz52_0
                  try clear hfz52_1
                  try clear hfz52_2
                  try clear hfz53_0
                  try clear hfz53_1
                  try clear hfz53_2
                  try clear hfz53_3
                  try clear hfz58_0
                  try clear hfz58_1
                  try clear hfz58_2
                  try clear hfz59_0
                  try clear hfz59_1
                  try clear hfz59_2
                  try clear hfz59_3
                  try clear hfz61_0
                  try clear hfz61_1
                  try clear hfz61_2
                  try clear hfz62_0
                  try clear hfz62_1
                  try clear hfz62_2
                  try clear hfz62_3
                  try clear hfz64_0
                  try clear hfz64_1
                  try clear hfz64_2
                  try clear hfz65_0
                  try clear hfz65_1
                  try clear hfz65_2
                  try clear hfz65_3
                  try clear hx136_0
                  try clear hx136_1
                  try clear hx136_2
                  try clear hx138_0
                  try clear hx138_1
                  try clear hx138_2
                  try clear p136
                  try clear p138
                  try clear p2
                  try clear q136
                  try clear q138
                  obtain ⟨kq, x88_16, rfl, HA, HJ16, BK132, BK137, HB⟩ := hcut
                  cases kq with
                  | zero => exact absurd HA.out (by simp [spec_PartnerRight.j2])
                  | succ kj16 =>
                    have H := HA.out
                    clear HA
                    simp only [spec_PartnerRight.j2] at H
                    by_cases c66 : x88_16 = true
                    · subst c66
                      have H1 : (some false) = some r := by rw [if_pos rfl] at H; exact H
                      clear H
                      have H := H1
                      clear H1
                      obtain rfl := Option.some.inj H
                      go_wp2
                      repeat (go_quiet (fail); try go_wp2)
                      go_ret
                      exact ⟨au5_7, bl_⟩
                    · replace c66 := Bool.eq_false_iff.mpr c66
                      subst c66
                      have H1 : (spec_PartnerRight.l0 kj16 (wrap64 (x3_2 + 1)) a0_0 a0_1 a0_2 l0_3) = some r := by rw [if_neg (show ¬ (false = true) by decide)] at H; exact H
                      clear H
                      have H := H1
                      clear H1
                      have H' := Aside0.mk H
                      clear H
                      go_wp2
                      repeat (go_quiet (fail); try go_wp2)
                      go_roundg kj16
                      case measure => have := HJ1.out; have := HK2.out; have := HJ16.out; omega
                      case rel => exact ⟨(wrap64 (x3_2 + 1)), er_, H', ⟨by have := HJ1.out; have := HK2.out; have := HJ16.out; omega⟩, ⟨bk_ BK132⟩, ⟨bl_⟩⟩
              · rw [if_neg c16] at H
                exact absurd H (by simp)
            · rw [if_neg c15] at H
              have c15b0 : decide (x3_2 < (l0_3.length : Int)) = false := decide_eq_false c15
              clear c15
              obtain rfl := Option.some.inj H
              obtain ⟨hcz67_0, hcz67_1, hcz67_2, hcz67_3, hfz67_0, hfz67_1, hfz67_2, hfz67_3⟩ := cellsF4 BK132.out
              go_wp2
              repeat (go_quiet (fail); try go_wp2)
              go_ret
              exact ⟨au5_7, bl_⟩

end Go.Proofs.Ytjffakoifpldeaa.PFnTakeOnce
