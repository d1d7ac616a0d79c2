-- printed by a program of this session (wip/xp/xprint.py) out of the translation; Lean checks it
import Derived.Test.YtjffakoifpldeaaPFnWindowx0
import Derived.Test.YtjffakoifpldeaaPFnWindowx6
import Derived.Test.YtjffakoifpldeaaPFnWindowx11
import Derived.Test.YtjffakoifpldeaaPFnWindowx13
namespace Go.Proofs.Ytjffakoifpldeaa.PFnWindow
open Go.RowKit Go.Proofs.YtjffakoifpldeaaW.PrintWords Go.Proofs.YtjffakoifpldeaaW.PrintLast Go.Proofs.YtjffakoifpldeaaW.PrintMore
attribute [local go_sem] max2_int min2_int max_two min_two max_three min_three max_four min_four   -- for this text's walks alone
set_option linter.unusedVariables false
set_option linter.unusedSimpArgs false

theorem au14_0 {p : Prop} (h : p := by repeat (first | exact (Kd.R_reads' HO413.out).2.2 | (with_reducible refine Kd.C_alloc ?_ _) | (with_reducible refine Kd.C_drewN ?_ _) | (with_reducible refine Kd.C_drew ?_))) : p := h
theorem au14_1 {p : Prop} (h : p := by repeat (first | exact (Kd.R_reads' HO422.out).2.2 | (with_reducible refine Kd.C_alloc ?_ _) | (with_reducible refine Kd.C_drewN ?_ _) | (with_reducible refine Kd.C_drew ?_))) : p := h
theorem au14_2 {p : Prop} (h : p := by exact (by (with_reducible repeat (first | apply Kd.R_alloc | apply Kd.R_drewN | apply Kd.R_drew)); exact Kd.R_mono HO419.out (fun _ hk => ⟨hk.1.2, hk.2⟩))) : p := h
theorem au14_3 {p : Prop} (h : p := by repeat (first | exact HR0.out | (with_reducible refine Kd.C_alloc ?_ _) | (with_reducible refine Kd.C_drewN ?_ _) | (with_reducible refine Kd.C_drew ?_))) : p := h
theorem au14_4 {p : Prop} (h : p := by (with_reducible repeat (first | apply Kd.R_alloc | apply Kd.R_drewN | apply Kd.R_drew)); exact Kd.R_mono HO413.out (fun _ hk => ⟨hk.1.2, hk.2⟩)) : p := h
theorem au14_5 {p : Prop} (h : p := by (with_reducible repeat (first | apply Kd.R_alloc | apply Kd.R_drewN | apply Kd.R_drew)); exact Kd.R_mono HO416.out (fun _ hk => ⟨hk.1.2, hk.2⟩)) : p := h
theorem au14_6 {p : Prop} (h : p := by exact (fun k_ hk => ⟨Kd.fresh' (Kd.R_lt (rk_ HO413)) k_ hk, Kd.fresh' (Kd.R_lt (rk_ HO416)) k_ hk⟩)) : p := h
theorem au14_7 {p : Prop} (h : p := by exact (fun k_ hk => ⟨Kd.fresh' (Kd.R_lt (rk_ HO_4)) k_ hk, Kd.fresh' (Kd.R_lt (rk_ HO_6)) k_ hk⟩)) : p := h
theorem au14_8 {p : Prop} (h : p := by first | rfl | (simp [errW_none, errW_some] <;> rfl) | (simp [*, errW_none, errW_some] <;> rfl)) : p := h
theorem au14_9 {p : Prop} (h : p := by have := HK1.out; have := HJ22.out; have := HK3.out; omega) : p := h
theorem au14_10 {p : Prop} (h : p := by exact (Kd.R_reads' HO413.out).2.1) : p := h
theorem au14_11 {p : Prop} (h : p := by exact (Kd.R_reads' HO422.out).2.1) : p := h

/-! ### laws_FnWindow: function 13 -/
mutual
def laws_FnWindow.l0 : Nat → List Int → List Int → List Int → Int → Int → Option (Bool)
  | 0, _, _, _, _, _ => none
  | k + 1, x4, x6, x7, x8, x9 => if x9 < (x6.length : Int) then (if 0 ≤ x9 then (if x9 < (x4.length : Int) then (if (rd x4 x9) < x8 then (laws_FnWindow.j1 k x4 x6 x7 x8 x9 3) else (laws_FnWindow.j1 k x4 x6 x7 x8 x9 1)) else (none)) else (none)) else (some true)
def laws_FnWindow.j1 : Nat → List Int → List Int → List Int → Int → Int → Int → Option (Bool)
  | 0, _, _, _, _, _, _ => none
  | k + 1, x4, x6, x7, x8, x9, x10 => laws_FnWindow.l1 k x4 x6 x7 x8 x9 x10 0
def laws_FnWindow.l1 : Nat → List Int → List Int → List Int → Int → Int → Int → Int → Option (Bool)
  | 0, _, _, _, _, _, _, _ => none
  | k + 1, x4, x6, x7, x8, x9, x10, x11 => if x11 < (x7.length : Int) then (if 0 ≤ x11 then (if 0 ≤ x9 then (if x9 < (x4.length : Int) then (if (rd x7 x11) = (rd x4 x9) then (if x10 = 1 then (laws_FnWindow.l1 k x4 x6 x7 x8 x9 2 (wrap64 (x11 + 1))) else (laws_FnWindow.l1 k x4 x6 x7 x8 x9 x10 (wrap64 (x11 + 1)))) else (laws_FnWindow.l1 k x4 x6 x7 x8 x9 x10 (wrap64 (x11 + 1)))) else (none)) else (none)) else (none)) else (if 0 ≤ x9 then (if x9 < (x6.length : Int) then (if (rd x6 x9) = x10 then (if x9 < (x4.length : Int) then (if x7.length < 17592186044416 then ((some (x7 ++ [rd x4 x9] : List Int)).bind fun y434 => (if (wrap64 ((wrap64 ((rd x4 x9) - 32)) + 1)) > x8 then (laws_FnWindow.l0 k x4 x6 y434 (wrap64 ((wrap64 ((rd x4 x9) - 32)) + 1)) (wrap64 (x9 + 1))) else (laws_FnWindow.l0 k x4 x6 y434 x8 (wrap64 (x9 + 1))))) else (none)) else (none)) else (some false)) else (none)) else (none))
end
def laws_FnWindow.f (k : Nat) (l0 : List Int) : Option (Bool) := if (l0.length : Int) > 1048576 then (some true) else ((spec_DrawPartnerRun.f k l0).bind fun bt410 => ((spec_PartnerRun.f k bt410.1 bt410.2).bind fun t414 => ((some (([] : List Int) : List Int)).bind fun y417 => (if y417.length + bt410.2.length < 17592186044416 then ((impl_PartnerRun.f k bt410.1 (y417 ++ bt410.2)).bind fun t423 => (if (t423.length : Int) = (t414.length : Int) then (laws_FnWindow.l0 k bt410.2 t423 (([] : List Int)) 1 0) else (some false))) else (none)))))
theorem laws_FnWindow.mono_l : ∀ k, (∀ y0 y1 y2 y3 y4, LeO (laws_FnWindow.l0 k y0 y1 y2 y3 y4) (laws_FnWindow.l0 (k + 1) y0 y1 y2 y3 y4)) ∧ (∀ y0 y1 y2 y3 y4 y5, LeO (laws_FnWindow.j1 k y0 y1 y2 y3 y4 y5) (laws_FnWindow.j1 (k + 1) y0 y1 y2 y3 y4 y5)) ∧ (∀ y0 y1 y2 y3 y4 y5 y6, LeO (laws_FnWindow.l1 k y0 y1 y2 y3 y4 y5 y6) (laws_FnWindow.l1 (k + 1) y0 y1 y2 y3 y4 y5 y6))
  | 0 => ⟨fun _ _ _ _ _ r h => by simp [laws_FnWindow.l0] at h, fun _ _ _ _ _ _ r h => by simp [laws_FnWindow.j1] at h, fun _ _ _ _ _ _ _ r h => by simp [laws_FnWindow.l1] at h⟩
  | k + 1 => by
    obtain ⟨ih0, ih1, ih2⟩ := laws_FnWindow.mono_l k
    refine ⟨?_, ?_, ?_⟩
    · intro y0 y1 y2 y3 y4
      unfold laws_FnWindow.l0
      repeat' first
      | (with_reducible exact ih0 _ _ _ _ _)
      | (with_reducible exact ih1 _ _ _ _ _ _)
      | (with_reducible exact ih2 _ _ _ _ _ _ _)
      | (with_reducible exact impl_PartnerRun.mono _ _ _)
      | (with_reducible exact spec_DrawPartnerRun.mono _ _)
      | (with_reducible exact spec_PartnerRun.mono _ _ _)
      | (with_reducible exact LeO.refl _)
      | (with_reducible exact LeO.none _)
      | (with_reducible refine LeO.ite ?_ ?_)
      | (with_reducible refine LeO.bind ?_ (fun _ => ?_))
      | exact ih0 _ _ _ _ _
      | exact ih1 _ _ _ _ _ _
      | exact ih2 _ _ _ _ _ _ _
      | exact impl_PartnerRun.mono _ _ _
      | exact spec_DrawPartnerRun.mono _ _
      | exact spec_PartnerRun.mono _ _ _
      | exact LeO.none _
      | refine LeO.ite ?_ ?_
      | refine LeO.bind ?_ (fun _ => ?_)
    · intro y0 y1 y2 y3 y4 y5
      unfold laws_FnWindow.j1
      repeat' first
      | (with_reducible exact ih0 _ _ _ _ _)
      | (with_reducible exact ih1 _ _ _ _ _ _)
      | (with_reducible exact ih2 _ _ _ _ _ _ _)
      | (with_reducible exact impl_PartnerRun.mono _ _ _)
      | (with_reducible exact spec_DrawPartnerRun.mono _ _)
      | (with_reducible exact spec_PartnerRun.mono _ _ _)
      | (with_reducible exact LeO.refl _)
      | (with_reducible exact LeO.none _)
      | (with_reducible refine LeO.ite ?_ ?_)
      | (with_reducible refine LeO.bind ?_ (fun _ => ?_))
      | exact ih0 _ _ _ _ _
      | exact ih1 _ _ _ _ _ _
      | exact ih2 _ _ _ _ _ _ _
      | exact impl_PartnerRun.mono _ _ _
      | exact spec_DrawPartnerRun.mono _ _
      | exact spec_PartnerRun.mono _ _ _
      | exact LeO.none _
      | refine LeO.ite ?_ ?_
      | refine LeO.bind ?_ (fun _ => ?_)
    · intro y0 y1 y2 y3 y4 y5 y6
      unfold laws_FnWindow.l1
      repeat' first
      | (with_reducible exact ih0 _ _ _ _ _)
      | (with_reducible exact ih1 _ _ _ _ _ _)
      | (with_reducible exact ih2 _ _ _ _ _ _ _)
      | (with_reducible exact impl_PartnerRun.mono _ _ _)
      | (with_reducible exact spec_DrawPartnerRun.mono _ _)
      | (with_reducible exact spec_PartnerRun.mono _ _ _)
      | (with_reducible exact LeO.refl _)
      | (with_reducible exact LeO.none _)
      | (with_reducible refine LeO.ite ?_ ?_)
      | (with_reducible refine LeO.bind ?_ (fun _ => ?_))
      | exact ih0 _ _ _ _ _
      | exact ih1 _ _ _ _ _ _
      | exact ih2 _ _ _ _ _ _ _
      | exact impl_PartnerRun.mono _ _ _
      | exact spec_DrawPartnerRun.mono _ _
      | exact spec_PartnerRun.mono _ _ _
      | exact LeO.none _
      | refine LeO.ite ?_ ?_
      | refine LeO.bind ?_ (fun _ => ?_)
theorem laws_FnWindow.mono : ∀ a0 k, LeO (laws_FnWindow.f k a0) (laws_FnWindow.f (k + 1) a0) := by
  intro a0 k
  obtain ⟨ih0, ih1, ih2⟩ := laws_FnWindow.mono_l k
  unfold laws_FnWindow.f
  repeat' first
      | (with_reducible exact ih0 _ _ _ _ _)
      | (with_reducible exact ih1 _ _ _ _ _ _)
      | (with_reducible exact ih2 _ _ _ _ _ _ _)
      | (with_reducible exact impl_PartnerRun.mono _ _ _)
      | (with_reducible exact spec_DrawPartnerRun.mono _ _)
      | (with_reducible exact spec_PartnerRun.mono _ _ _)
      | (with_reducible exact LeO.refl _)
      | (with_reducible exact LeO.none _)
      | (with_reducible refine LeO.ite ?_ ?_)
      | (with_reducible refine LeO.bind ?_ (fun _ => ?_))
      | exact ih0 _ _ _ _ _
      | exact ih1 _ _ _ _ _ _
      | exact ih2 _ _ _ _ _ _ _
      | exact impl_PartnerRun.mono _ _ _
      | exact spec_DrawPartnerRun.mono _ _
      | exact spec_PartnerRun.mono _ _ _
      | exact LeO.none _
      | refine LeO.ite ?_ ?_
      | refine LeO.bind ?_ (fun _ => ?_)
set_option maxHeartbeats 8000000 in
set_option maxRecDepth 100000 in
theorem laws_FnWindow.calls (k : Nat) (A0 : Option Addr) (c0 : Nat) (l0 : List Int) (r : Bool) (w : World) (hr0 : Kd.C (Kd.int .u8) w A0 l0.length l0) (hc0 : l0.length ≤ c0) (h : laws_FnWindow.f k l0 = some r) :
    Calls Try.prog 13 #[.slice A0 l0.length c0] w fun e w' => e = .returned (.bool r) ∧ Below w.heap.size w w' := by
  have HR0 := Aside0.mk hr0
  have HC0 := Aside0.mk hc0
  clear hr0 hc0
  have HB := Aside0.mk (Below.refl w.heap.size w)
  have H : (if (l0.length : Int) > 1048576 then (some true) else ((spec_DrawPartnerRun.f k l0).bind fun bt410 => ((spec_PartnerRun.f k bt410.1 bt410.2).bind fun t414 => ((some (([] : List Int) : List Int)).bind fun y417 => (if y417.length + bt410.2.length < 17592186044416 then ((impl_PartnerRun.f k bt410.1 (y417 ++ bt410.2)).bind fun t423 => (if (t423.length : Int) = (t414.length : Int) then (laws_FnWindow.l0 k bt410.2 t423 (([] : List Int)) 1 0) else (some false))) else (none)))))) = some r := h
  clear h
  by_cases c2 : (l0.length : Int) > 1048576
  · rw [if_pos c2] at H
    have c2b0 : decide (1048576 < (l0.length : Int)) = true := decide_eq_true c2
    have c2b1 : decide (1048576 < l0.length) = true := decide_eq_true (by omega)
    clear c2
    obtain rfl := Option.some.inj H
    go_enter Try.func13, Try.ntmps13
    go_wp2
    repeat (go_quiet (fail); try go_wp2)
    go_ret
    exact ⟨au14_8, bl_⟩
  · rw [if_neg c2] at H
    have c2b0 : decide (1048576 < (l0.length : Int)) = false := decide_eq_false c2
    have c2b1 : decide (1048576 < l0.length) = false := decide_eq_false (by omega)
    clear c2
    replace H := Option.bind_eq_some_iff.mp H
    obtain ⟨⟨t410, t411⟩, A30, H⟩ := H
    replace H : ((spec_PartnerRun.f k t410 t411).bind fun t414 => ((some (([] : List Int) : List Int)).bind fun y417 => (if y417.length + t411.length < 17592186044416 then ((impl_PartnerRun.f k t410 (y417 ++ t411)).bind fun t423 => (if (t423.length : Int) = (t414.length : Int) then (laws_FnWindow.l0 k t411 t423 (([] : List Int)) 1 0) else (some false))) else (none)))) = some r := H
    have A3 := Aside0.mk A30
    clear A30
    replace H := Option.bind_eq_some_iff.mp H
    obtain ⟨t414, A40, H⟩ := H
    replace H : ((some (([] : List Int) : List Int)).bind fun y417 => (if y417.length + t411.length < 17592186044416 then ((impl_PartnerRun.f k t410 (y417 ++ t411)).bind fun t423 => (if (t423.length : Int) = (t414.length : Int) then (laws_FnWindow.l0 k t411 t423 (([] : List Int)) 1 0) else (some false))) else (none))) = some r := H
    have A4 := Aside0.mk A40
    clear A40
    obtain ⟨y417, hy417⟩ : ∃ y_ : List Int, y_ = (([] : List Int)) := ⟨_, rfl⟩
    replace H : (if y417.length + t411.length < 17592186044416 then ((impl_PartnerRun.f k t410 (y417 ++ t411)).bind fun t423 => (if (t423.length : Int) = (t414.length : Int) then (laws_FnWindow.l0 k t411 t423 (([] : List Int)) 1 0) else (some false))) else (none)) = some r := by first | (rw [hy417]; with_reducible exact H) | (have H2_ := (Option.bind_some _ _).symm.trans H; rw [hy417]; with_reducible exact H2_) | (have H2_ := (Option.bind_some _ _).symm.trans H; with_reducible exact H2_) | with_reducible exact H | (rw [hy417]; exact H) | exact H
    have Ny417 := Aside0.mk hy417
    clear hy417
    by_cases c5 : y417.length + t411.length < 17592186044416
    · rw [if_pos c5] at H
      have LMc5 := Aside0.mk c5
      clear c5
      obtain ⟨y420, hy420⟩ : ∃ y_ : List Int, y_ = (y417 ++ t411) := ⟨_, rfl⟩
      replace H : ((impl_PartnerRun.f k t410 y420).bind fun t423 => (if (t423.length : Int) = (t414.length : Int) then (laws_FnWindow.l0 k t411 t423 (([] : List Int)) 1 0) else (some false))) = some r := by first | (rw [hy420]; with_reducible exact H) | (have H2_ := (Option.bind_some _ _).symm.trans H; rw [hy420]; with_reducible exact H2_) | (have H2_ := (Option.bind_some _ _).symm.trans H; with_reducible exact H2_) | with_reducible exact H | (rw [hy420]; exact H) | exact H
      have Ny420 := Aside0.mk hy420
      clear hy420
      replace H := Option.bind_eq_some_iff.mp H
      obtain ⟨t423, A60, H⟩ := H
      replace H : (if (t423.length : Int) = (t414.length : Int) then (laws_FnWindow.l0 k t411 t423 (([] : List Int)) 1 0) else (some false)) = some r := H
      have A6 := Aside0.mk A60
      clear A60
      by_cases c7 : (t423.length : Int) = (t414.length : Int)
      · rw [if_pos c7] at H
        have c7b0 : ((t423.length : Int) == (t414.length : Int)) = true := beq_iff_eq.mpr c7
        have c7b1 : ((t423.length : Int) != (t414.length : Int)) = false := bne_eq_false_iff_eq.mpr c7
        have c7b2 : (t423.length == t414.length) = true := by first | simpa using c7 | (simp at c7 ⊢; omega)
        clear c7
        obtain ⟨y426, hy426⟩ : ∃ y_ : List Int, y_ = (([] : List Int)) := ⟨_, rfl⟩
        replace H : (laws_FnWindow.l0 k t411 t423 y426 1 0) = some r := by first | (rw [hy426]; with_reducible exact H) | (have H2_ := (Option.bind_some _ _).symm.trans H; rw [hy426]; with_reducible exact H2_) | (have H2_ := (Option.bind_some _ _).symm.trans H; with_reducible exact H2_) | with_reducible exact H | (rw [hy426]; exact H) | exact H
        have Ny426 := Aside0.mk hy426
        clear hy426
        have H' := Aside0.mk H
        clear H
        go_enter Try.func13, Try.ntmps13
        go_wp2_with (first | (go_at_call 53; (with_reducible refine (spec_DrawPartnerRun.calls k _ _ l0 t410 t411 _ ?side1 ?side2 A3.out).mono ?_); (case side1 => exact au14_3); (case side2 => exact HC0.out); rintro e w8 ⟨v412, rfl, ho0, hb⟩; (try clear A3); have n0_ := Aside0.mk (Kd.R_lower ho0 (below_size bl_)); have n1_ := Aside0.mk (below_step bl_ hb); clear HB; have HO413 := n0_; have HB := n1_; clear n0_ n1_; (try clear hb); (try clear hb2); (try clear hk); (try clear hi); (try clear ho0); obtain ⟨Ao9, co9, eo9⟩ := Kd.R_slice HO413.out; subst eo9) | (go_at_call 38; (with_reducible refine (spec_PartnerRun.calls k t410 _ _ t411 t414 _ ?side1 ?side2 A4.out).mono ?_); (case side1 => exact au14_0); (case side2 => exact au14_10); rintro e w10 ⟨v415, rfl, ho0, hb⟩; (try clear A4); have n0_ := Aside0.mk (Kd.R_elder' (rk_ HO413) (Kd.R_base ho0) hb); have n1_ := Aside0.mk (Kd.R_lower (Kd.R_new' ho0 (Kd.R_lt (rk_ HO413))) (below_size bl_)); have n2_ := Aside0.mk (below_step bl_ hb); clear HO413; clear HB; have HO413 := n0_; have HO416 := n1_; have HB := n2_; clear n0_ n1_ n2_; (try clear hb); (try clear hb2); (try clear hk); (try clear hi); (try clear ho0)) | ((with_reducible refine gate_dst (N := 24) rfl ?_); refine Kd.R_lit (Kd.int .i64) _ 2 ?hg (N := 24) ?hd (xs := ([] : List Int)) (inner := []) (ok := fun _ => True) (okp := fun _ => True) ?hr ?hp (fun _ hk => hk) trivial (Below.refl _ _) (Nat.le_refl _) (by simp) ?_; (case hd => rfl); (case hg => rfl); (case hr => exact hr_); (case hp => exact (Reps.none _ _)); intro v418 w11 ho12 hb hg_ hnew_; clear hg_ hnew_; (first | rw [← Ny417.out] at ho12 | (simp only [Int.reduceToNat] at ho12; rw [← Ny417.out] at ho12)); have n0_ := Aside0.mk (Kd.R_elder' (rk_ HO413) (Kd.R_base ho12) hb); have n1_ := Aside0.mk (Kd.R_elder' (rk_ HO416) (Kd.R_base ho12) hb); have n2_ := Aside0.mk (Kd.R_lower (Kd.R_new' (Kd.R_new' ho12 (Kd.R_lt (rk_ HO413))) (Kd.R_lt (rk_ HO416))) (below_size bl_)); have n3_ := Aside0.mk (below_step bl_ hb); clear HO413; clear HO416; clear HB; have HO413 := n0_; have HO416 := n1_; have HO419 := n2_; have HB := n3_; clear n0_ n1_ n2_ n3_; clear hb ho12) | ((with_reducible refine gate_builtin (b := .append) (xs := #[.tmp 24, .tmp 25]) rfl ?_); at_builtin; refine Kd.R_append_rows (Kd.int .i64) (w0 := w) w.heap.size rfl (.tmp 24) (.tmp 25) 55 2 (.int .i64 0) 8 rfl Try.underlying55 info2 rfl (by decide) (by omega) v418 y417 t411 _ _ _ (fun k_ => some k_ ≠ (.slice Ao9 t411.length co9 : Value).ownBlock ∧ some k_ ≠ (v415 : Value).ownBlock) (fun _ => False) rfl rfl ?aO ?aR (fun _ _ h => h) (fun _ h => h.elim) ?aF ?aB ?aS ?aL ?_; (case aR => exact au14_0); (case aB => exact bl_); (case aF => exact au14_6); (case aO => exact au14_2); (case aS => exact (below_size bl_)); (case aL => have := LMc5.out; omega); intro v421 w13 ho hb hg hat; rw [← Ny420.out] at ho; have n0_ := Aside0.mk (Kd.R_after (ok := (fun k_ => some k_ ≠ (v415 : Value).ownBlock)) au14_4 hg hat); have n1_ := Aside0.mk (Kd.R_after (ok := (fun k_ => some k_ ≠ (.slice Ao9 t411.length co9 : Value).ownBlock)) au14_5 hg hat); have n2_ := Aside0.mk (hb); have n3_ := Aside0.mk (ho); clear HO413; clear HO416; clear HB; clear HO419; have HO413 := n0_; have HO416 := n1_; have HB := n2_; have HO422 := n3_; clear n0_ n1_ n2_ n3_; clear ho hb hg hat; obtain ⟨Ao14, co14, eo14⟩ := Kd.R_slice HO422.out; subst eo14) | (go_at_call 40; (with_reducible refine (impl_PartnerRun.calls k t410 _ _ y420 t423 _ ?side1 ?side2 A6.out).mono ?_); (case side1 => exact au14_1); (case side2 => exact au14_11); rintro e w15 ⟨v424, rfl, ho0, hb⟩; (try clear A6); have n0_ := Aside0.mk (Kd.R_elder' (rk_ HO413) (Kd.R_base ho0) hb); have n1_ := Aside0.mk (Kd.R_elder' (rk_ HO416) (Kd.R_base ho0) hb); have n2_ := Aside0.mk (Kd.R_elder' (rk_ HO422) (Kd.R_base ho0) hb); have n3_ := Aside0.mk (Kd.R_lower (Kd.R_new' (Kd.R_new' (Kd.R_new' ho0 (Kd.R_lt (rk_ HO413))) (Kd.R_lt (rk_ HO416))) (Kd.R_lt (rk_ HO422))) (below_size bl_)); have n4_ := Aside0.mk (below_step bl_ hb); clear HO413; clear HO416; clear HO422; clear HB; have HO413 := n0_; have HO416 := n1_; have HO422 := n2_; have HO425 := n3_; have HB := n4_; clear n0_ n1_ n2_ n3_ n4_; (try clear hb); (try clear hb2); (try clear hk); (try clear hi); (try clear ho0); obtain ⟨Ao16, co16, eo16⟩ := Kd.R_slice HO425.out; subst eo16; obtain ⟨Ao17, co17, eo17⟩ := Kd.R_slice HO416.out; subst eo17) | ((with_reducible refine gate_dst (N := 33) rfl ?_); refine Kd.R_lit (Kd.int .i64) _ 2 ?hg (N := 33) ?hd (xs := ([] : List Int)) (inner := []) (ok := fun _ => True) (okp := fun _ => True) ?hr ?hp (fun _ hk => hk) trivial (Below.refl _ _) (Nat.le_refl _) (by simp) ?_; (case hd => rfl); (case hg => rfl); (case hr => exact hr_); (case hp => exact (Reps.none _ _)); intro v427 w18 ho19 hb hg_ hnew_; clear hg_ hnew_; (first | rw [← Ny426.out] at ho19 | (simp only [Int.reduceToNat] at ho19; rw [← Ny426.out] at ho19)); have n0_ := Aside0.mk (Kd.R_elder' (rk_ HO413) (Kd.R_base ho19) hb); have n1_ := Aside0.mk (Kd.R_elder' (rk_ HO416) (Kd.R_base ho19) hb); have n2_ := Aside0.mk (Kd.R_elder' (rk_ HO422) (Kd.R_base ho19) hb); have n3_ := Aside0.mk (Kd.R_elder' (rk_ HO425) (Kd.R_base ho19) hb); have n4_ := Aside0.mk (Kd.R_lower (Kd.R_new' (Kd.R_new' (Kd.R_new' (Kd.R_new' ho19 (Kd.R_lt (rk_ HO413))) (Kd.R_lt (rk_ HO416))) (Kd.R_lt (rk_ HO422))) (Kd.R_lt (rk_ HO425))) (below_size bl_)); have n5_ := Aside0.mk (below_step bl_ hb); clear HO413; clear HO416; clear HO422; clear HO425; clear HB; have HO413 := n0_; have HO416 := n1_; have HO422 := n2_; have HO425 := n3_; have HO428 := n4_; have HB := n5_; clear n0_ n1_ n2_ n3_ n4_ n5_; clear hb ho19))
        repeat (go_quiet (first | (go_at_call 53; (with_reducible refine (spec_DrawPartnerRun.calls k _ _ l0 t410 t411 _ ?side1 ?side2 A3.out).mono ?_); (case side1 => exact au14_3); (case side2 => exact HC0.out); rintro e w8 ⟨v412, rfl, ho0, hb⟩; (try clear A3); have n0_ := Aside0.mk (Kd.R_lower ho0 (below_size bl_)); have n1_ := Aside0.mk (below_step bl_ hb); clear HB; have HO413 := n0_; have HB := n1_; clear n0_ n1_; (try clear hb); (try clear hb2); (try clear hk); (try clear hi); (try clear ho0); obtain ⟨Ao9, co9, eo9⟩ := Kd.R_slice HO413.out; subst eo9) | (go_at_call 38; (with_reducible refine (spec_PartnerRun.calls k t410 _ _ t411 t414 _ ?side1 ?side2 A4.out).mono ?_); (case side1 => exact au14_0); (case side2 => exact au14_10); rintro e w10 ⟨v415, rfl, ho0, hb⟩; (try clear A4); have n0_ := Aside0.mk (Kd.R_elder' (rk_ HO413) (Kd.R_base ho0) hb); have n1_ := Aside0.mk (Kd.R_lower (Kd.R_new' ho0 (Kd.R_lt (rk_ HO413))) (below_size bl_)); have n2_ := Aside0.mk (below_step bl_ hb); clear HO413; clear HB; have HO413 := n0_; have HO416 := n1_; have HB := n2_; clear n0_ n1_ n2_; (try clear hb); (try clear hb2); (try clear hk); (try clear hi); (try clear ho0)) | ((with_reducible refine gate_dst (N := 24) rfl ?_); refine Kd.R_lit (Kd.int .i64) _ 2 ?hg (N := 24) ?hd (xs := ([] : List Int)) (inner := []) (ok := fun _ => True) (okp := fun _ => True) ?hr ?hp (fun _ hk => hk) trivial (Below.refl _ _) (Nat.le_refl _) (by simp) ?_; (case hd => rfl); (case hg => rfl); (case hr => exact hr_); (case hp => exact (Reps.none _ _)); intro v418 w11 ho12 hb hg_ hnew_; clear hg_ hnew_; (first | rw [← Ny417.out] at ho12 | (simp only [Int.reduceToNat] at ho12; rw [← Ny417.out] at ho12)); have n0_ := Aside0.mk (Kd.R_elder' (rk_ HO413) (Kd.R_base ho12) hb); have n1_ := Aside0.mk (Kd.R_elder' (rk_ HO416) (Kd.R_base ho12) hb); have n2_ := Aside0.mk (Kd.R_lower (Kd.R_new' (Kd.R_new' ho12 (Kd.R_lt (rk_ HO413))) (Kd.R_lt (rk_ HO416))) (below_size bl_)); have n3_ := Aside0.mk (below_step bl_ hb); clear HO413; clear HO416; clear HB; have HO413 := n0_; have HO416 := n1_; have HO419 := n2_; have HB := n3_; clear n0_ n1_ n2_ n3_; clear hb ho12) | ((with_reducible refine gate_builtin (b := .append) (xs := #[.tmp 24, .tmp 25]) rfl ?_); at_builtin; refine Kd.R_append_rows (Kd.int .i64) (w0 := w) w.heap.size rfl (.tmp 24) (.tmp 25) 55 2 (.int .i64 0) 8 rfl Try.underlying55 info2 rfl (by decide) (by omega) v418 y417 t411 _ _ _ (fun k_ => some k_ ≠ (.slice Ao9 t411.length co9 : Value).ownBlock ∧ some k_ ≠ (v415 : Value).ownBlock) (fun _ => False) rfl rfl ?aO ?aR (fun _ _ h => h) (fun _ h => h.elim) ?aF ?aB ?aS ?aL ?_; (case aR => exact au14_0); (case aB => exact bl_); (case aF => exact au14_6); (case aO => exact au14_2); (case aS => exact (below_size bl_)); (case aL => have := LMc5.out; omega); intro v421 w13 ho hb hg hat; rw [← Ny420.out] at ho; have n0_ := Aside0.mk (Kd.R_after (ok := (fun k_ => some k_ ≠ (v415 : Value).ownBlock)) au14_4 hg hat); have n1_ := Aside0.mk (Kd.R_after (ok := (fun k_ => some k_ ≠ (.slice Ao9 t411.length co9 : Value).ownBlock)) au14_5 hg hat); have n2_ := Aside0.mk (hb); have n3_ := Aside0.mk (ho); clear HO413; clear HO416; clear HB; clear HO419; have HO413 := n0_; have HO416 := n1_; have HB := n2_; have HO422 := n3_; clear n0_ n1_ n2_ n3_; clear ho hb hg hat; obtain ⟨Ao14, co14, eo14⟩ := Kd.R_slice HO422.out; subst eo14) | (go_at_call 40; (with_reducible refine (impl_PartnerRun.calls k t410 _ _ y420 t423 _ ?side1 ?side2 A6.out).mono ?_); (case side1 => exact au14_1); (case side2 => exact au14_11); rintro e w15 ⟨v424, rfl, ho0, hb⟩; (try clear A6); have n0_ := Aside0.mk (Kd.R_elder' (rk_ HO413) (Kd.R_base ho0) hb); have n1_ := Aside0.mk (Kd.R_elder' (rk_ HO416) (Kd.R_base ho0) hb); have n2_ := Aside0.mk (Kd.R_elder' (rk_ HO422) (Kd.R_base ho0) hb); have n3_ := Aside0.mk (Kd.R_lower (Kd.R_new' (Kd.R_new' (Kd.R_new' ho0 (Kd.R_lt (rk_ HO413))) (Kd.R_lt (rk_ HO416))) (Kd.R_lt (rk_ HO422))) (below_size bl_)); have n4_ := Aside0.mk (below_step bl_ hb); clear HO413; clear HO416; clear HO422; clear HB; have HO413 := n0_; have HO416 := n1_; have HO422 := n2_; have HO425 := n3_; have HB := n4_; clear n0_ n1_ n2_ n3_ n4_; (try clear hb); (try clear hb2); (try clear hk); (try clear hi); (try clear ho0); obtain ⟨Ao16, co16, eo16⟩ := Kd.R_slice HO425.out; subst eo16; obtain ⟨Ao17, co17, eo17⟩ := Kd.R_slice HO416.out; subst eo17) | ((with_reducible refine gate_dst (N := 33) rfl ?_); refine Kd.R_lit (Kd.int .i64) _ 2 ?hg (N := 33) ?hd (xs := ([] : List Int)) (inner := []) (ok := fun _ => True) (okp := fun _ => True) ?hr ?hp (fun _ hk => hk) trivial (Below.refl _ _) (Nat.le_refl _) (by simp) ?_; (case hd => rfl); (case hg => rfl); (case hr => exact hr_); (case hp => exact (Reps.none _ _)); intro v427 w18 ho19 hb hg_ hnew_; clear hg_ hnew_; (first | rw [← Ny426.out] at ho19 | (simp only [Int.reduceToNat] at ho19; rw [← Ny426.out] at ho19)); have n0_ := Aside0.mk (Kd.R_elder' (rk_ HO413) (Kd.R_base ho19) hb); have n1_ := Aside0.mk (Kd.R_elder' (rk_ HO416) (Kd.R_base ho19) hb); have n2_ := Aside0.mk (Kd.R_elder' (rk_ HO422) (Kd.R_base ho19) hb); have n3_ := Aside0.mk (Kd.R_elder' (rk_ HO425) (Kd.R_base ho19) hb); have n4_ := Aside0.mk (Kd.R_lower (Kd.R_new' (Kd.R_new' (Kd.R_new' (Kd.R_new' ho19 (Kd.R_lt (rk_ HO413))) (Kd.R_lt (rk_ HO416))) (Kd.R_lt (rk_ HO422))) (Kd.R_lt (rk_ HO425))) (below_size bl_)); have n5_ := Aside0.mk (below_step bl_ hb); clear HO413; clear HO416; clear HO422; clear HO425; clear HB; have HO413 := n0_; have HO416 := n1_; have HO422 := n2_; have HO425 := n3_; have HO428 := n4_; have HB := n5_; clear n0_ n1_ n2_ n3_ n4_ n5_; clear hb ho19)); try go_wp2_with (first | (go_at_call 53; (with_reducible refine (spec_DrawPartnerRun.calls k _ _ l0 t410 t411 _ ?side1 ?side2 A3.out).mono ?_); (case side1 => exact au14_3); (case side2 => exact HC0.out); rintro e w8 ⟨v412, rfl, ho0, hb⟩; (try clear A3); have n0_ := Aside0.mk (Kd.R_lower ho0 (below_size bl_)); have n1_ := Aside0.mk (below_step bl_ hb); clear HB; have HO413 := n0_; have HB := n1_; clear n0_ n1_; (try clear hb); (try clear hb2); (try clear hk); (try clear hi); (try clear ho0); obtain ⟨Ao9, co9, eo9⟩ := Kd.R_slice HO413.out; subst eo9) | (go_at_call 38; (with_reducible refine (spec_PartnerRun.calls k t410 _ _ t411 t414 _ ?side1 ?side2 A4.out).mono ?_); (case side1 => exact au14_0); (case side2 => exact au14_10); rintro e w10 ⟨v415, rfl, ho0, hb⟩; (try clear A4); have n0_ := Aside0.mk (Kd.R_elder' (rk_ HO413) (Kd.R_base ho0) hb); have n1_ := Aside0.mk (Kd.R_lower (Kd.R_new' ho0 (Kd.R_lt (rk_ HO413))) (below_size bl_)); have n2_ := Aside0.mk (below_step bl_ hb); clear HO413; clear HB; have HO413 := n0_; have HO416 := n1_; have HB := n2_; clear n0_ n1_ n2_; (try clear hb); (try clear hb2); (try clear hk); (try clear hi); (try clear ho0)) | ((with_reducible refine gate_dst (N := 24) rfl ?_); refine Kd.R_lit (Kd.int .i64) _ 2 ?hg (N := 24) ?hd (xs := ([] : List Int)) (inner := []) (ok := fun _ => True) (okp := fun _ => True) ?hr ?hp (fun _ hk => hk) trivial (Below.refl _ _) (Nat.le_refl _) (by simp) ?_; (case hd => rfl); (case hg => rfl); (case hr => exact hr_); (case hp => exact (Reps.none _ _)); intro v418 w11 ho12 hb hg_ hnew_; clear hg_ hnew_; (first | rw [← Ny417.out] at ho12 | (simp only [Int.reduceToNat] at ho12; rw [← Ny417.out] at ho12)); have n0_ := Aside0.mk (Kd.R_elder' (rk_ HO413) (Kd.R_base ho12) hb); have n1_ := Aside0.mk (Kd.R_elder' (rk_ HO416) (Kd.R_base ho12) hb); have n2_ := Aside0.mk (Kd.R_lower (Kd.R_new' (Kd.R_new' ho12 (Kd.R_lt (rk_ HO413))) (Kd.R_lt (rk_ HO416))) (below_size bl_)); have n3_ := Aside0.mk (below_step bl_ hb); clear HO413; clear HO416; clear HB; have HO413 := n0_; have HO416 := n1_; have HO419 := n2_; have HB := n3_; clear n0_ n1_ n2_ n3_; clear hb ho12) | ((with_reducible refine gate_builtin (b := .append) (xs := #[.tmp 24, .tmp 25]) rfl ?_); at_builtin; refine Kd.R_append_rows (Kd.int .i64) (w0 := w) w.heap.size rfl (.tmp 24) (.tmp 25) 55 2 (.int .i64 0) 8 rfl Try.underlying55 info2 rfl (by decide) (by omega) v418 y417 t411 _ _ _ (fun k_ => some k_ ≠ (.slice Ao9 t411.length co9 : Value).ownBlock ∧ some k_ ≠ (v415 : Value).ownBlock) (fun _ => False) rfl rfl ?aO ?aR (fun _ _ h => h) (fun _ h => h.elim) ?aF ?aB ?aS ?aL ?_; (case aR => exact au14_0); (case aB => exact bl_); (case aF => exact au14_6); (case aO => exact au14_2); (case aS => exact (below_size bl_)); (case aL => have := LMc5.out; omega); intro v421 w13 ho hb hg hat; rw [← Ny420.out] at ho; have n0_ := Aside0.mk (Kd.R_after (ok := (fun k_ => some k_ ≠ (v415 : Value).ownBlock)) au14_4 hg hat); have n1_ := Aside0.mk (Kd.R_after (ok := (fun k_ => some k_ ≠ (.slice Ao9 t411.length co9 : Value).ownBlock)) au14_5 hg hat); have n2_ := Aside0.mk (hb); have n3_ := Aside0.mk (ho); clear HO413; clear HO416; clear HB; clear HO419; have HO413 := n0_; have HO416 := n1_; have HB := n2_; have HO422 := n3_; clear n0_ n1_ n2_ n3_; clear ho hb hg hat; obtain ⟨Ao14, co14, eo14⟩ := Kd.R_slice HO422.out; subst eo14) | (go_at_call 40; (with_reducible refine (impl_PartnerRun.calls k t410 _ _ y420 t423 _ ?side1 ?side2 A6.out).mono ?_); (case side1 => exact au14_1); (case side2 => exact au14_11); rintro e w15 ⟨v424, rfl, ho0, hb⟩; (try clear A6); have n0_ := Aside0.mk (Kd.R_elder' (rk_ HO413) (Kd.R_base ho0) hb); have n1_ := Aside0.mk (Kd.R_elder' (rk_ HO416) (Kd.R_base ho0) hb); have n2_ := Aside0.mk (Kd.R_elder' (rk_ HO422) (Kd.R_base ho0) hb); have n3_ := Aside0.mk (Kd.R_lower (Kd.R_new' (Kd.R_new' (Kd.R_new' ho0 (Kd.R_lt (rk_ HO413))) (Kd.R_lt (rk_ HO416))) (Kd.R_lt (rk_ HO422))) (below_size bl_)); have n4_ := Aside0.mk (below_step bl_ hb); clear HO413; clear HO416; clear HO422; clear HB; have HO413 := n0_; have HO416 := n1_; have HO422 := n2_; have HO425 := n3_; have HB := n4_; clear n0_ n1_ n2_ n3_ n4_; (try clear hb); (try clear hb2); (try clear hk); (try clear hi); (try clear ho0); obtain ⟨Ao16, co16, eo16⟩ := Kd.R_slice HO425.out; subst eo16; obtain ⟨Ao17, co17, eo17⟩ := Kd.R_slice HO416.out; subst eo17) | ((with_reducible refine gate_dst (N := 33) rfl ?_); refine Kd.R_lit (Kd.int .i64) _ 2 ?hg (N := 33) ?hd (xs := ([] : List Int)) (inner := []) (ok := fun _ => True) (okp := fun _ => True) ?hr ?hp (fun _ hk => hk) trivial (Below.refl _ _) (Nat.le_refl _) (by simp) ?_; (case hd => rfl); (case hg => rfl); (case hr => exact hr_); (case hp => exact (Reps.none _ _)); intro v427 w18 ho19 hb hg_ hnew_; clear hg_ hnew_; (first | rw [← Ny426.out] at ho19 | (simp only [Int.reduceToNat] at ho19; rw [← Ny426.out] at ho19)); have n0_ := Aside0.mk (Kd.R_elder' (rk_ HO413) (Kd.R_base ho19) hb); have n1_ := Aside0.mk (Kd.R_elder' (rk_ HO416) (Kd.R_base ho19) hb); have n2_ := Aside0.mk (Kd.R_elder' (rk_ HO422) (Kd.R_base ho19) hb); have n3_ := Aside0.mk (Kd.R_elder' (rk_ HO425) (Kd.R_base ho19) hb); have n4_ := Aside0.mk (Kd.R_lower (Kd.R_new' (Kd.R_new' (Kd.R_new' (Kd.R_new' ho19 (Kd.R_lt (rk_ HO413))) (Kd.R_lt (rk_ HO416))) (Kd.R_lt (rk_ HO422))) (Kd.R_lt (rk_ HO425))) (below_size bl_)); have n5_ := Aside0.mk (below_step bl_ hb); clear HO413; clear HO416; clear HO422; clear HO425; clear HB; have HO413 := n0_; have HO416 := n1_; have HO422 := n2_; have HO425 := n3_; have HO428 := n4_; have HB := n5_; clear n0_ n1_ n2_ n3_ n4_ n5_; clear hb ho19)))
        go_loopg [7, 8, 9] k (fun kq v7 v8 v9 w' => ∃ (x7_1 : List Int) (x8_1 : Int) (x9_1 : Int), v8 = .int .i64 x8_1 ∧ v9 = .int .i64 x9_1 ∧ Aside0 (laws_FnWindow.l0 kq t411 t423 x7_1 x8_1 x9_1 = some r) ∧ Aside0 (kq ≤ k) ∧ Aside0 (Kd.R (Kd.int .i64) 2 w' w.heap.size (fun k_ => some k_ ≠ ((.slice Ao16 t423.length co16) : Value).ownBlock ∧ some k_ ≠ (v7 : Value).ownBlock) (.slice Ao9 t411.length co9) t411) ∧ Aside0 (Kd.R (Kd.int .i64) 2 w' w.heap.size (fun k_ => some k_ ≠ ((.slice Ao9 t411.length co9) : Value).ownBlock ∧ some k_ ≠ (v7 : Value).ownBlock) (.slice Ao16 t423.length co16) t423) ∧ Aside0 (Kd.R (Kd.int .i64) 2 w' w.heap.size (fun k_ => some k_ ≠ ((.slice Ao9 t411.length co9) : Value).ownBlock ∧ some k_ ≠ ((.slice Ao16 t423.length co16) : Value).ownBlock) v7 x7_1) ∧ Aside0 (Below w.heap.size w w'))
        case atStart => exact ⟨(y426), (1), (0), er_, er_, H', ⟨Nat.le_refl _⟩, ⟨by (with_reducible repeat (first | apply Kd.R_alloc | apply Kd.R_drewN | apply Kd.R_drew)); exact Kd.R_mono HO413.out (fun _ hk => ⟨hk.1.2, hk.2⟩)⟩, ⟨by (with_reducible repeat (first | apply Kd.R_alloc | apply Kd.R_drewN | apply Kd.R_drew)); exact Kd.R_mono HO425.out (fun _ hk => ⟨hk.1.1.1.2, hk.2⟩)⟩, ⟨by (with_reducible repeat (first | apply Kd.R_alloc | apply Kd.R_drewN | apply Kd.R_drew)); exact Kd.R_mono HO428.out (fun _ hk => ⟨hk.1.1.1.2, hk.2⟩)⟩, ⟨bl_⟩⟩
        case round =>
          clear H'
          try clear c1
          try clear c2
          try clear c2b0
          try clear c2b1
          try clear p2
          try clear c5
          try clear c7
          try clear c7b0
          try clear c7b1
          try clear c7b2
          try clear c13
          obtain ⟨x7_1, x8_1, x9_1, rfl, rfl, HA, HK1, HO_4, HO_6, HO_7, HB⟩ := hrel
          cases gk with
          | zero => exact absurd HA.out (by simp [laws_FnWindow.l0])
          | succ k1 =>
            have H := HA.out
            clear HA
            simp only [laws_FnWindow.l0] at H
            by_cases c20 : x9_1 < (t423.length : Int)
            · rw [if_pos c20] at H
              have c20b0 : decide (x9_1 < (t423.length : Int)) = true := decide_eq_true c20
              clear c20
              by_cases c21 : 0 ≤ x9_1
              · rw [if_pos c21] at H
                have c21b0 : decide (0 ≤ x9_1) = true := decide_eq_true c21
                clear c21
                by_cases c22 : x9_1 < (t411.length : Int)
                · rw [if_pos c22] at H
                  have c22b0 : decide (x9_1 < (t411.length : Int)) = true := decide_eq_true c22
                  clear c22
                  have HC23 := Aside0.mk H
                  clear H
                  have p429 : 0 ≤ (x9_1 : Int) := of_decide_eq_true as_
                  have q429 : x9_1 < (t411.length : Int) := of_decide_eq_true as_
                  obtain ⟨ad429, e429, hx429_0⟩ := Kd.at_int (Kd.R_reads' HO_4.out).2.2 x9_1 p429 q429
                  cases e429
                  replace p429 := eq_true p429
                  replace q429 := eq_true q429
                  go_upto_if 45 with (fail)
                  repeat (go_quiet (fail); go_upto_if 45 with (fail))
                  go_cut [10] (fun v10 wc => ∃ (kq : Nat) (x10_22 : Int), v10 = .int .i64 x10_22 ∧ Aside0 (laws_FnWindow.j1 kq t411 t423 x7_1 x8_1 x9_1 x10_22 = some r) ∧ Aside0 (kq ≤ k1) ∧ Aside0 (Kd.R (Kd.int .i64) 2 wc w.heap.size (fun k_ => some k_ ≠ ((.slice Ao16 t423.length co16) : Value).ownBlock ∧ some k_ ≠ (u7 : Value).ownBlock) (.slice (some ad429) t411.length co9) t411) ∧ Aside0 (Kd.R (Kd.int .i64) 2 wc w.heap.size (fun k_ => some k_ ≠ ((.slice (some ad429) t411.length co9) : Value).ownBlock ∧ some k_ ≠ (u7 : Value).ownBlock) (.slice Ao16 t423.length co16) t423) ∧ Aside0 (Kd.R (Kd.int .i64) 2 wc w.heap.size (fun k_ => some k_ ≠ ((.slice (some ad429) t411.length co9) : Value).ownBlock ∧ some k_ ≠ ((.slice Ao16 t423.length co16) : Value).ownBlock) u7 x7_1) ∧ Aside0 (Below w.heap.size w wc))
                  case first =>
                    have H := HC23.out
                    clear HC23
                    by_cases c24 : (rd t411 x9_1) < x8_1
                    · rw [if_pos c24] at H
                      have c24b0 : decide ((rd t411 x9_1) < x8_1) = true := decide_eq_true c24
                      clear c24
                      (first | rw [c24b0] | (simp only [i64_w, i32_w]; rw [c24b0]) | skip)
                      have H' := Aside0.mk H
                      clear H
                      go_wp2
                      repeat (go_quiet (fail); try go_wp2)
                      go_meet
                      case rel => exact ⟨_, (3), er_, H', ⟨by have := HK1.out; first | omega | exact Nat.le_refl _⟩, ⟨rk_ HO_4⟩, ⟨rk_ HO_6⟩, ⟨rk_ HO_7⟩, ⟨bl_⟩⟩
                    · rw [if_neg c24] at H
                      have c24b0 : decide ((rd t411 x9_1) < x8_1) = false := decide_eq_false c24
                      clear c24
                      (first | rw [c24b0] | (simp only [i64_w, i32_w]; rw [c24b0]) | skip)
                      have H' := Aside0.mk H
                      clear H
                      go_wp2
                      repeat (go_quiet (fail); try go_wp2)
                      go_meet
                      case rel => exact ⟨_, (1), er_, H', ⟨by have := HK1.out; first | omega | exact Nat.le_refl _⟩, ⟨rk_ HO_4⟩, ⟨rk_ HO_6⟩, ⟨rk_ HO_7⟩, ⟨bl_⟩⟩
                  case rest =>
                    clear HC23
                    try clear c1
                    try clear c2
                    try clear c2b0
                    try clear c2b1
                    try clear p2
                    try clear p4
                    try clear q4
                    try clear hx4
                    try clear c5
                    try clear c7
                    try clear c7b0
                    try clear c7b1
                    try clear c7b2
                    try clear c13
                    try clear c20
                    try clear c20b0
                    try clear c21
                    try clear c21b0
                    try clear c22
                    try clear c22b0
                    try clear c24
                    try clear c24b0
                    try clear hx429_0
                    try clear p2
                    try clear p429
                    try clear q429
                    obtain ⟨kq, x10_22, rfl, HA, HJ22, HO_4, HO_6, HO_7, HB⟩ := hcut
                    cases kq with
                    | zero => exact absurd HA.out (by simp [laws_FnWindow.j1])
                    | succ kj22 =>
                      have H := HA.out
                      clear HA
                      simp only [laws_FnWindow.j1] at H
                      have H' := Aside0.mk H
                      clear H
                      go_wp2
                      repeat (go_quiet (fail); try go_wp2)
                      go_loopg [10, 11] kj22 (fun kq v10 v11 w' => ∃ (x10_3 : Int) (x11_3 : Int), v10 = .int .i64 x10_3 ∧ v11 = .int .i64 x11_3 ∧ Aside0 (laws_FnWindow.l1 kq t411 t423 x7_1 x8_1 x9_1 x10_3 x11_3 = some r) ∧ Aside0 (kq ≤ kj22) ∧ Aside0 (Kd.R (Kd.int .i64) 2 w' w.heap.size (fun k_ => some k_ ≠ ((.slice Ao16 t423.length co16) : Value).ownBlock ∧ some k_ ≠ (u7 : Value).ownBlock) (.slice (some ad429) t411.length co9) t411) ∧ Aside0 (Kd.R (Kd.int .i64) 2 w' w.heap.size (fun k_ => some k_ ≠ ((.slice (some ad429) t411.length co9) : Value).ownBlock ∧ some k_ ≠ (u7 : Value).ownBlock) (.slice Ao16 t423.length co16) t423) ∧ Aside0 (Kd.R (Kd.int .i64) 2 w' w.heap.size (fun k_ => some k_ ≠ ((.slice (some ad429) t411.length co9) : Value).ownBlock ∧ some k_ ≠ ((.slice Ao16 t423.length co16) : Value).ownBlock) u7 x7_1) ∧ Aside0 (Below w.heap.size w w'))
                      case atStart => exact ⟨(x10_22), (0), er_, er_, H', ⟨Nat.le_refl _⟩, ⟨rk_ HO_4⟩, ⟨rk_ HO_6⟩, ⟨rk_ HO_7⟩, ⟨bl_⟩⟩
                      case round =>
                        clear H'
                        try clear c1
                        try clear c2
                        try clear c2b0
                        try clear c2b1
                        try clear p2
                        try clear p4
                        try clear q4
                        try clear hx4
                        try clear c5
                        try clear c7
                        try clear c7b0
                        try clear c7b1
                        try clear c7b2
                        try clear c13
                        try clear c20
                        try clear c20b0
                        try clear c21
                        try clear c21b0
                        try clear c22
                        try clear c22b0
                        try clear c24
                        try clear c24b0
                        try clear hx429_0
                        try clear p2
                        try clear p4
                        try clear p429
                        try clear q4
                        try clear q429
                        obtain ⟨x10_3, x11_3, rfl, rfl, HA, HK3, HO_4, HO_6, HO_7, HB⟩ := hrel
                        cases gk with
                        | zero => exact absurd HA.out (by simp [laws_FnWindow.l1])
                        | succ k3 =>
                          have H := HA.out
                          clear HA
                          simp only [laws_FnWindow.l1] at H
                          by_cases c25 : x11_3 < (x7_1.length : Int)
                          · rw [if_pos c25] at H
                            have c25b0 : decide (x11_3 < (x7_1.length : Int)) = true := decide_eq_true c25
                            clear c25
                            by_cases c26 : 0 ≤ x11_3
                            · rw [if_pos c26] at H
                              have c26b0 : decide (0 ≤ x11_3) = true := decide_eq_true c26
                              clear c26
                              by_cases c27 : 0 ≤ x9_1
                              · rw [if_pos c27] at H
                                have c27b0 : decide (0 ≤ x9_1) = true := decide_eq_true c27
                                clear c27
                                by_cases c28 : x9_1 < (t411.length : Int)
                                · rw [if_pos c28] at H
                                  have c28b0 : decide (x9_1 < (t411.length : Int)) = true := decide_eq_true c28
                                  clear c28
                                  by_cases c29 : (rd x7_1 x11_3) = (rd t411 x9_1)
                                  · rw [if_pos c29] at H
                                    have c29b0 : ((rd x7_1 x11_3) == (rd t411 x9_1)) = true := beq_iff_eq.mpr c29
                                    have c29b1 : ((rd x7_1 x11_3) != (rd t411 x9_1)) = false := bne_eq_false_iff_eq.mpr c29
                                    clear c29
                                    by_cases c30 : x10_3 = 1
                                    · rw [if_pos c30] at H
                                      have c30b0 : (x10_3 == 1) = true := beq_iff_eq.mpr c30
                                      have c30b1 : (x10_3 != 1) = false := bne_eq_false_iff_eq.mpr c30
                                      clear c30
                                      have H' := Aside0.mk H
                                      clear H
                                      obtain ⟨Ao31, co31, eo31⟩ := Kd.R_slice HO_7.out
                                      subst eo31
                                      have p430 : 0 ≤ (x11_3 : Int) := of_decide_eq_true as_
                                      have q430 : x11_3 < (x7_1.length : Int) := of_decide_eq_true as_
                                      obtain ⟨ad430, e430, hx430_0⟩ := Kd.at_int (Kd.R_reads' HO_7.out).2.2 x11_3 p430 q430
                                      cases e430
                                      replace p430 := eq_true p430
                                      replace q430 := eq_true q430
                                      have p431 : 0 ≤ (x9_1 : Int) := of_decide_eq_true as_
                                      have q431 : x9_1 < (t411.length : Int) := of_decide_eq_true as_
                                      obtain ⟨ad431, e431, hx431_0⟩ := Kd.at_int (Kd.R_reads' HO_4.out).2.2 x9_1 p431 q431
                                      obtain rfl : ad429 = ad431 := (by injection e431)
                                      replace p431 := eq_true p431
                                      replace q431 := eq_true q431
                                      go_wp2
                                      repeat (go_quiet (fail); try go_wp2)
                                      go_roundg k3
                                      case measure => have := HK1.out; have := HJ22.out; have := HK3.out; omega
                                      case rel => exact ⟨(2), (wrap64 (x11_3 + 1)), er_, er_, H', ⟨au14_9⟩, ⟨rk_ HO_4⟩, ⟨rk_ HO_6⟩, ⟨rk_ HO_7⟩, ⟨bl_⟩⟩
                                    · rw [if_neg c30] at H
                                      have c30b0 : (x10_3 == 1) = false := beq_eq_false_iff_ne.mpr c30
                                      have c30b1 : (x10_3 != 1) = true := bne_iff_ne.mpr c30
                                      have H' := Aside0.mk H
                                      clear H
                                      obtain ⟨Ao32, co32, eo32⟩ := Kd.R_slice HO_7.out
                                      subst eo32
                                      have p430 : 0 ≤ (x11_3 : Int) := of_decide_eq_true as_
                                      have q430 : x11_3 < (x7_1.length : Int) := of_decide_eq_true as_
                                      obtain ⟨ad430, e430, hx430_0⟩ := Kd.at_int (Kd.R_reads' HO_7.out).2.2 x11_3 p430 q430
                                      cases e430
                                      replace p430 := eq_true p430
                                      replace q430 := eq_true q430
                                      have p431 : 0 ≤ (x9_1 : Int) := of_decide_eq_true as_
                                      have q431 : x9_1 < (t411.length : Int) := of_decide_eq_true as_
                                      obtain ⟨ad431, e431, hx431_0⟩ := Kd.at_int (Kd.R_reads' HO_4.out).2.2 x9_1 p431 q431
                                      obtain rfl : ad429 = ad431 := (by injection e431)
                                      replace p431 := eq_true p431
                                      replace q431 := eq_true q431
                                      go_wp2
                                      repeat (go_quiet (fail); try go_wp2)
                                      go_roundg k3
                                      case measure => have := HK1.out; have := HJ22.out; have := HK3.out; omega
                                      case rel => exact ⟨(x10_3), (wrap64 (x11_3 + 1)), er_, er_, H', ⟨au14_9⟩, ⟨rk_ HO_4⟩, ⟨rk_ HO_6⟩, ⟨rk_ HO_7⟩, ⟨bl_⟩⟩
                                  · rw [if_neg c29] at H
                                    have c29b0 : ((rd x7_1 x11_3) == (rd t411 x9_1)) = false := beq_eq_false_iff_ne.mpr c29
                                    have c29b1 : ((rd x7_1 x11_3) != (rd t411 x9_1)) = true := bne_iff_ne.mpr c29
                                    have H' := Aside0.mk H
                                    clear H
                                    obtain ⟨Ao33, co33, eo33⟩ := Kd.R_slice HO_7.out
                                    subst eo33
                                    have p430 : 0 ≤ (x11_3 : Int) := of_decide_eq_true as_
                                    have q430 : x11_3 < (x7_1.length : Int) := of_decide_eq_true as_
                                    obtain ⟨ad430, e430, hx430_0⟩ := Kd.at_int (Kd.R_reads' HO_7.out).2.2 x11_3 p430 q430
                                    cases e430
                                    replace p430 := eq_true p430
                                    replace q430 := eq_true q430
                                    have p431 : 0 ≤ (x9_1 : Int) := of_decide_eq_true as_
                                    have q431 : x9_1 < (t411.length : Int) := of_decide_eq_true as_
                                    obtain ⟨ad431, e431, hx431_0⟩ := Kd.at_int (Kd.R_reads' HO_4.out).2.2 x9_1 p431 q431
                                    obtain rfl : ad429 = ad431 := (by injection e431)
                                    replace p431 := eq_true p431
                                    replace q431 := eq_true q431
                                    go_wp2
                                    repeat (go_quiet (fail); try go_wp2)
                                    go_roundg k3
                                    case measure => have := HK1.out; have := HJ22.out; have := HK3.out; omega
                                    case rel => exact ⟨(x10_3), (wrap64 (x11_3 + 1)), er_, er_, H', ⟨au14_9⟩, ⟨rk_ HO_4⟩, ⟨rk_ HO_6⟩, ⟨rk_ HO_7⟩, ⟨bl_⟩⟩
                                · rw [if_neg c28] at H
                                  exact absurd H (by simp)
                              · rw [if_neg c27] at H
                                exact absurd H (by simp)
                            · rw [if_neg c26] at H
                              exact absurd H (by simp)
                          · rw [if_neg c25] at H
                            have c25b0 : decide (x11_3 < (x7_1.length : Int)) = false := decide_eq_false c25
                            clear c25
                            by_cases c34 : 0 ≤ x9_1
                            · rw [if_pos c34] at H
                              have c34b0 : decide (0 ≤ x9_1) = true := decide_eq_true c34
                              clear c34
                              by_cases c35 : x9_1 < (t423.length : Int)
                              · rw [if_pos c35] at H
                                have c35b0 : decide (x9_1 < (t423.length : Int)) = true := decide_eq_true c35
                                clear c35
                                by_cases c36 : (rd t423 x9_1) = x10_3
                                · rw [if_pos c36] at H
                                  have c36b0 : ((rd t423 x9_1) == x10_3) = true := beq_iff_eq.mpr c36
                                  have c36b1 : ((rd t423 x9_1) != x10_3) = false := bne_eq_false_iff_eq.mpr c36
                                  clear c36
                                  by_cases c37 : x9_1 < (t411.length : Int)
                                  · rw [if_pos c37] at H
                                    have c37b0 : decide (x9_1 < (t411.length : Int)) = true := decide_eq_true c37
                                    clear c37
                                    by_cases c38 : x7_1.length < 17592186044416
                                    · rw [if_pos c38] at H
                                      have LMc38 := Aside0.mk c38
                                      clear c38
                                      obtain ⟨y434, hy434⟩ : ∃ y_ : List Int, y_ = (x7_1 ++ [rd t411 x9_1]) := ⟨_, rfl⟩
                                      replace H : (if (wrap64 ((wrap64 ((rd t411 x9_1) - 32)) + 1)) > x8_1 then (laws_FnWindow.l0 k3 t411 t423 y434 (wrap64 ((wrap64 ((rd t411 x9_1) - 32)) + 1)) (wrap64 (x9_1 + 1))) else (laws_FnWindow.l0 k3 t411 t423 y434 x8_1 (wrap64 (x9_1 + 1)))) = some r := by first | (rw [hy434]; with_reducible exact H) | (have H2_ := (Option.bind_some _ _).symm.trans H; rw [hy434]; with_reducible exact H2_) | (have H2_ := (Option.bind_some _ _).symm.trans H; with_reducible exact H2_) | with_reducible exact H | (rw [hy434]; exact H) | exact H
                                      have Ny434 := Aside0.mk hy434
                                      clear hy434
                                      by_cases c39 : (wrap64 ((wrap64 ((rd t411 x9_1) - 32)) + 1)) > x8_1
                                      · rw [if_pos c39] at H
                                        have c39b0 : decide (x8_1 < (wrap64 ((wrap64 ((rd t411 x9_1) - 32)) + 1))) = true := decide_eq_true c39
                                        clear c39
                                        have H' := Aside0.mk H
                                        clear H
                                        obtain ⟨Ao40, co40, eo40⟩ := Kd.R_slice HO_7.out
                                        subst eo40
                                        have p432 : 0 ≤ (x9_1 : Int) := of_decide_eq_true as_
                                        have q432 : x9_1 < (t423.length : Int) := of_decide_eq_true as_
                                        obtain ⟨ad432, e432, hx432_0⟩ := Kd.at_int (Kd.R_reads' HO_6.out).2.2 x9_1 p432 q432
                                        cases e432
                                        replace p432 := eq_true p432
                                        replace q432 := eq_true q432
                                        have p433 : 0 ≤ (x9_1 : Int) := of_decide_eq_true as_
                                        have q433 : x9_1 < (t411.length : Int) := of_decide_eq_true as_
                                        obtain ⟨ad433, e433, hx433_0⟩ := Kd.at_int (Kd.R_reads' HO_4.out).2.2 x9_1 p433 q433
                                        obtain rfl : ad429 = ad433 := (by injection e433)
                                        replace p433 := eq_true p433
                                        replace q433 := eq_true q433
                                        go_wp2_with (first | ((with_reducible refine gate_builtin (b := .append) (xs := #[.tmp 71, .tmp 76]) rfl ?_); at_builtin; refine Kd.R_append (Kd.int .i64) (w0 := w) w.heap.size rfl (.tmp 71) (.tmp 76) 55 2 (.int .i64 0) 8 rfl Try.underlying55 info2 rfl (by decide) (by omega) (.slice Ao40 x7_1.length co40) x7_1 (rd t411 x9_1) [.int .i64 (rd t411 x9_1)] (fun k_ => some k_ ≠ (.slice (some ad429) t411.length co9 : Value).ownBlock ∧ some k_ ≠ (.slice (some ad432) t423.length co16 : Value).ownBlock) (fun _ => False) rfl rfl ?aP (fun _ hk => hk.elim) ?aF ?aO ?aB ?aS ?aL ?_; (case aP => exact rfl); (case aB => exact bl_); (case aF => exact au14_7); (case aO => exact (rk_ HO_7)); (case aS => exact (below_size bl_)); (case aL => have := LMc38.out; omega); intro v435 w41 ho hb hg hat; rw [← Ny434.out] at ho; have n0_ := Aside0.mk (Kd.R_after (ok := (fun k_ => some k_ ≠ (.slice (some ad432) t423.length co16 : Value).ownBlock)) (rk_ HO_4) hg hat); have n1_ := Aside0.mk (Kd.R_after (ok := (fun k_ => some k_ ≠ (.slice (some ad429) t411.length co9 : Value).ownBlock)) (rk_ HO_6) hg hat); have n2_ := Aside0.mk (hb); have n3_ := Aside0.mk (ho); clear HO_4; clear HO_6; clear HB; clear HO_7; have HO_4 := n0_; have HO_6 := n1_; have HB := n2_; have HO436 := n3_; clear n0_ n1_ n2_ n3_; clear ho hb hg hat; have p437 : 0 ≤ (x9_1 : Int) := of_decide_eq_true as_; have q437 : x9_1 < (t411.length : Int) := of_decide_eq_true as_; obtain ⟨ad437, e437, hx437_0⟩ := Kd.at_int (Kd.R_reads' HO_4.out).2.2 x9_1 p437 q437; obtain rfl : ad429 = ad437 := (by injection e437); replace p437 := eq_true p437; replace q437 := eq_true q437; have p438 : 0 ≤ (x9_1 : Int) := of_decide_eq_true as_; have q438 : x9_1 < (t411.length : Int) := of_decide_eq_true as_; obtain ⟨ad438, e438, hx438_0⟩ := Kd.at_int (Kd.R_reads' HO_4.out).2.2 x9_1 p438 q438; obtain rfl : ad429 = ad438 := (by injection e438); replace p438 := eq_true p438; replace q438 := eq_true q438))
                                        repeat (go_quiet (first | ((with_reducible refine gate_builtin (b := .append) (xs := #[.tmp 71, .tmp 76]) rfl ?_); at_builtin; refine Kd.R_append (Kd.int .i64) (w0 := w) w.heap.size rfl (.tmp 71) (.tmp 76) 55 2 (.int .i64 0) 8 rfl Try.underlying55 info2 rfl (by decide) (by omega) (.slice Ao40 x7_1.length co40) x7_1 (rd t411 x9_1) [.int .i64 (rd t411 x9_1)] (fun k_ => some k_ ≠ (.slice (some ad429) t411.length co9 : Value).ownBlock ∧ some k_ ≠ (.slice (some ad432) t423.length co16 : Value).ownBlock) (fun _ => False) rfl rfl ?aP (fun _ hk => hk.elim) ?aF ?aO ?aB ?aS ?aL ?_; (case aP => exact rfl); (case aB => exact bl_); (case aF => exact au14_7); (case aO => exact (rk_ HO_7)); (case aS => exact (below_size bl_)); (case aL => have := LMc38.out; omega); intro v435 w41 ho hb hg hat; rw [← Ny434.out] at ho; have n0_ := Aside0.mk (Kd.R_after (ok := (fun k_ => some k_ ≠ (.slice (some ad432) t423.length co16 : Value).ownBlock)) (rk_ HO_4) hg hat); have n1_ := Aside0.mk (Kd.R_after (ok := (fun k_ => some k_ ≠ (.slice (some ad429) t411.length co9 : Value).ownBlock)) (rk_ HO_6) hg hat); have n2_ := Aside0.mk (hb); have n3_ := Aside0.mk (ho); clear HO_4; clear HO_6; clear HB; clear HO_7; have HO_4 := n0_; have HO_6 := n1_; have HB := n2_; have HO436 := n3_; clear n0_ n1_ n2_ n3_; clear ho hb hg hat; have p437 : 0 ≤ (x9_1 : Int) := of_decide_eq_true as_; have q437 : x9_1 < (t411.length : Int) := of_decide_eq_true as_; obtain ⟨ad437, e437, hx437_0⟩ := Kd.at_int (Kd.R_reads' HO_4.out).2.2 x9_1 p437 q437; obtain rfl : ad429 = ad437 := (by injection e437); replace p437 := eq_true p437; replace q437 := eq_true q437; have p438 : 0 ≤ (x9_1 : Int) := of_decide_eq_true as_; have q438 : x9_1 < (t411.length : Int) := of_decide_eq_true as_; obtain ⟨ad438, e438, hx438_0⟩ := Kd.at_int (Kd.R_reads' HO_4.out).2.2 x9_1 p438 q438; obtain rfl : ad429 = ad438 := (by injection e438); replace p438 := eq_true p438; replace q438 := eq_true q438)); try go_wp2_with (first | ((with_reducible refine gate_builtin (b := .append) (xs := #[.tmp 71, .tmp 76]) rfl ?_); at_builtin; refine Kd.R_append (Kd.int .i64) (w0 := w) w.heap.size rfl (.tmp 71) (.tmp 76) 55 2 (.int .i64 0) 8 rfl Try.underlying55 info2 rfl (by decide) (by omega) (.slice Ao40 x7_1.length co40) x7_1 (rd t411 x9_1) [.int .i64 (rd t411 x9_1)] (fun k_ => some k_ ≠ (.slice (some ad429) t411.length co9 : Value).ownBlock ∧ some k_ ≠ (.slice (some ad432) t423.length co16 : Value).ownBlock) (fun _ => False) rfl rfl ?aP (fun _ hk => hk.elim) ?aF ?aO ?aB ?aS ?aL ?_; (case aP => exact rfl); (case aB => exact bl_); (case aF => exact au14_7); (case aO => exact (rk_ HO_7)); (case aS => exact (below_size bl_)); (case aL => have := LMc38.out; omega); intro v435 w41 ho hb hg hat; rw [← Ny434.out] at ho; have n0_ := Aside0.mk (Kd.R_after (ok := (fun k_ => some k_ ≠ (.slice (some ad432) t423.length co16 : Value).ownBlock)) (rk_ HO_4) hg hat); have n1_ := Aside0.mk (Kd.R_after (ok := (fun k_ => some k_ ≠ (.slice (some ad429) t411.length co9 : Value).ownBlock)) (rk_ HO_6) hg hat); have n2_ := Aside0.mk (hb); have n3_ := Aside0.mk (ho); clear HO_4; clear HO_6; clear HB; clear HO_7; have HO_4 := n0_; have HO_6 := n1_; have HB := n2_; have HO436 := n3_; clear n0_ n1_ n2_ n3_; clear ho hb hg hat; have p437 : 0 ≤ (x9_1 : Int) := of_decide_eq_true as_; have q437 : x9_1 < (t411.length : Int) := of_decide_eq_true as_; obtain ⟨ad437, e437, hx437_0⟩ := Kd.at_int (Kd.R_reads' HO_4.out).2.2 x9_1 p437 q437; obtain rfl : ad429 = ad437 := (by injection e437); replace p437 := eq_true p437; replace q437 := eq_true q437; have p438 : 0 ≤ (x9_1 : Int) := of_decide_eq_true as_; have q438 : x9_1 < (t411.length : Int) := of_decide_eq_true as_; obtain ⟨ad438, e438, hx438_0⟩ := Kd.at_int (Kd.R_reads' HO_4.out).2.2 x9_1 p438 q438; obtain rfl : ad429 = ad438 := (by injection e438); replace p438 := eq_true p438; replace q438 := eq_true q438)))
                                        go_roundg k3
                                        case measure => have := HK1.out; have := HJ22.out; have := HK3.out; omega
                                        case rel => exact ⟨(y434), (wrap64 ((wrap64 ((rd t411 x9_1) - 32)) + 1)), (wrap64 (x9_1 + 1)), er_, er_, H', ⟨au14_9⟩, ⟨rk_ HO_4⟩, ⟨rk_ HO_6⟩, ⟨rk_ HO436⟩, ⟨bl_⟩⟩
                                      · rw [if_neg c39] at H
                                        have c39b0 : decide (x8_1 < (wrap64 ((wrap64 ((rd t411 x9_1) - 32)) + 1))) = false := decide_eq_false c39
                                        clear c39
                                        have H' := Aside0.mk H
                                        clear H
                                        obtain ⟨Ao42, co42, eo42⟩ := Kd.R_slice HO_7.out
                                        subst eo42
                                        have p432 : 0 ≤ (x9_1 : Int) := of_decide_eq_true as_
                                        have q432 : x9_1 < (t423.length : Int) := of_decide_eq_true as_
                                        obtain ⟨ad432, e432, hx432_0⟩ := Kd.at_int (Kd.R_reads' HO_6.out).2.2 x9_1 p432 q432
                                        cases e432
                                        replace p432 := eq_true p432
                                        replace q432 := eq_true q432
                                        have p433 : 0 ≤ (x9_1 : Int) := of_decide_eq_true as_
                                        have q433 : x9_1 < (t411.length : Int) := of_decide_eq_true as_
                                        obtain ⟨ad433, e433, hx433_0⟩ := Kd.at_int (Kd.R_reads' HO_4.out).2.2 x9_1 p433 q433
                                        obtain rfl : ad429 = ad433 := (by injection e433)
                                        replace p433 := eq_true p433
                                        replace q433 := eq_true q433
                                        go_wp2_with (first | ((with_reducible refine gate_builtin (b := .append) (xs := #[.tmp 71, .tmp 76]) rfl ?_); at_builtin; refine Kd.R_append (Kd.int .i64) (w0 := w) w.heap.size rfl (.tmp 71) (.tmp 76) 55 2 (.int .i64 0) 8 rfl Try.underlying55 info2 rfl (by decide) (by omega) (.slice Ao42 x7_1.length co42) x7_1 (rd t411 x9_1) [.int .i64 (rd t411 x9_1)] (fun k_ => some k_ ≠ (.slice (some ad429) t411.length co9 : Value).ownBlock ∧ some k_ ≠ (.slice (some ad432) t423.length co16 : Value).ownBlock) (fun _ => False) rfl rfl ?aP (fun _ hk => hk.elim) ?aF ?aO ?aB ?aS ?aL ?_; (case aP => exact rfl); (case aB => exact bl_); (case aF => exact au14_7); (case aO => exact (rk_ HO_7)); (case aS => exact (below_size bl_)); (case aL => have := LMc38.out; omega); intro v435 w43 ho hb hg hat; rw [← Ny434.out] at ho; have n0_ := Aside0.mk (Kd.R_after (ok := (fun k_ => some k_ ≠ (.slice (some ad432) t423.length co16 : Value).ownBlock)) (rk_ HO_4) hg hat); have n1_ := Aside0.mk (Kd.R_after (ok := (fun k_ => some k_ ≠ (.slice (some ad429) t411.length co9 : Value).ownBlock)) (rk_ HO_6) hg hat); have n2_ := Aside0.mk (hb); have n3_ := Aside0.mk (ho); clear HO_4; clear HO_6; clear HB; clear HO_7; have HO_4 := n0_; have HO_6 := n1_; have HB := n2_; have HO436 := n3_; clear n0_ n1_ n2_ n3_; clear ho hb hg hat; have p437 : 0 ≤ (x9_1 : Int) := of_decide_eq_true as_; have q437 : x9_1 < (t411.length : Int) := of_decide_eq_true as_; obtain ⟨ad437, e437, hx437_0⟩ := Kd.at_int (Kd.R_reads' HO_4.out).2.2 x9_1 p437 q437; obtain rfl : ad429 = ad437 := (by injection e437); replace p437 := eq_true p437; replace q437 := eq_true q437))
                                        repeat (go_quiet (first | ((with_reducible refine gate_builtin (b := .append) (xs := #[.tmp 71, .tmp 76]) rfl ?_); at_builtin; refine Kd.R_append (Kd.int .i64) (w0 := w) w.heap.size rfl (.tmp 71) (.tmp 76) 55 2 (.int .i64 0) 8 rfl Try.underlying55 info2 rfl (by decide) (by omega) (.slice Ao42 x7_1.length co42) x7_1 (rd t411 x9_1) [.int .i64 (rd t411 x9_1)] (fun k_ => some k_ ≠ (.slice (some ad429) t411.length co9 : Value).ownBlock ∧ some k_ ≠ (.slice (some ad432) t423.length co16 : Value).ownBlock) (fun _ => False) rfl rfl ?aP (fun _ hk => hk.elim) ?aF ?aO ?aB ?aS ?aL ?_; (case aP => exact rfl); (case aB => exact bl_); (case aF => exact au14_7); (case aO => exact (rk_ HO_7)); (case aS => exact (below_size bl_)); (case aL => have := LMc38.out; omega); intro v435 w43 ho hb hg hat; rw [← Ny434.out] at ho; have n0_ := Aside0.mk (Kd.R_after (ok := (fun k_ => some k_ ≠ (.slice (some ad432) t423.length co16 : Value).ownBlock)) (rk_ HO_4) hg hat); have n1_ := Aside0.mk (Kd.R_after (ok := (fun k_ => some k_ ≠ (.slice (some ad429) t411.length co9 : Value).ownBlock)) (rk_ HO_6) hg hat); have n2_ := Aside0.mk (hb); have n3_ := Aside0.mk (ho); clear HO_4; clear HO_6; clear HB; clear HO_7; have HO_4 := n0_; have HO_6 := n1_; have HB := n2_; have HO436 := n3_; clear n0_ n1_ n2_ n3_; clear ho hb hg hat; have p437 : 0 ≤ (x9_1 : Int) := of_decide_eq_true as_; have q437 : x9_1 < (t411.length : Int) := of_decide_eq_true as_; obtain ⟨ad437, e437, hx437_0⟩ := Kd.at_int (Kd.R_reads' HO_4.out).2.2 x9_1 p437 q437; obtain rfl : ad429 = ad437 := (by injection e437); replace p437 := eq_true p437; replace q437 := eq_true q437)); try go_wp2_with (first | ((with_reducible refine gate_builtin (b := .append) (xs := #[.tmp 71, .tmp 76]) rfl ?_); at_builtin; refine Kd.R_append (Kd.int .i64) (w0 := w) w.heap.size rfl (.tmp 71) (.tmp 76) 55 2 (.int .i64 0) 8 rfl Try.underlying55 info2 rfl (by decide) (by omega) (.slice Ao42 x7_1.length co42) x7_1 (rd t411 x9_1) [.int .i64 (rd t411 x9_1)] (fun k_ => some k_ ≠ (.slice (some ad429) t411.length co9 : Value).ownBlock ∧ some k_ ≠ (.slice (some ad432) t423.length co16 : Value).ownBlock) (fun _ => False) rfl rfl ?aP (fun _ hk => hk.elim) ?aF ?aO ?aB ?aS ?aL ?_; (case aP => exact rfl); (case aB => exact bl_); (case aF => exact au14_7); (case aO => exact (rk_ HO_7)); (case aS => exact (below_size bl_)); (case aL => have := LMc38.out; omega); intro v435 w43 ho hb hg hat; rw [← Ny434.out] at ho; have n0_ := Aside0.mk (Kd.R_after (ok := (fun k_ => some k_ ≠ (.slice (some ad432) t423.length co16 : Value).ownBlock)) (rk_ HO_4) hg hat); have n1_ := Aside0.mk (Kd.R_after (ok := (fun k_ => some k_ ≠ (.slice (some ad429) t411.length co9 : Value).ownBlock)) (rk_ HO_6) hg hat); have n2_ := Aside0.mk (hb); have n3_ := Aside0.mk (ho); clear HO_4; clear HO_6; clear HB; clear HO_7; have HO_4 := n0_; have HO_6 := n1_; have HB := n2_; have HO436 := n3_; clear n0_ n1_ n2_ n3_; clear ho hb hg hat; have p437 : 0 ≤ (x9_1 : Int) := of_decide_eq_true as_; have q437 : x9_1 < (t411.length : Int) := of_decide_eq_true as_; obtain ⟨ad437, e437, hx437_0⟩ := Kd.at_int (Kd.R_reads' HO_4.out).2.2 x9_1 p437 q437; obtain rfl : ad429 = ad437 := (by injection e437); replace p437 := eq_true p437; replace q437 := eq_true q437)))
                                        go_roundg k3
                                        case measure => have := HK1.out; have := HJ22.out; have := HK3.out; omega
                                        case rel => exact ⟨(y434), (x8_1), (wrap64 (x9_1 + 1)), er_, er_, H', ⟨au14_9⟩, ⟨rk_ HO_4⟩, ⟨rk_ HO_6⟩, ⟨rk_ HO436⟩, ⟨bl_⟩⟩
                                    · rw [if_neg c38] at H
                                      exact absurd H (by simp)
                                  · rw [if_neg c37] at H
                                    exact absurd H (by simp)
                                · rw [if_neg c36] at H
                                  have c36b0 : ((rd t423 x9_1) == x10_3) = false := beq_eq_false_iff_ne.mpr c36
                                  have c36b1 : ((rd t423 x9_1) != x10_3) = true := bne_iff_ne.mpr c36
                                  obtain rfl := Option.some.inj H
                                  obtain ⟨Ao44, co44, eo44⟩ := Kd.R_slice HO_7.out
                                  subst eo44
                                  have p432 : 0 ≤ (x9_1 : Int) := of_decide_eq_true as_
                                  have q432 : x9_1 < (t423.length : Int) := of_decide_eq_true as_
                                  obtain ⟨ad432, e432, hx432_0⟩ := Kd.at_int (Kd.R_reads' HO_6.out).2.2 x9_1 p432 q432
                                  cases e432
                                  replace p432 := eq_true p432
                                  replace q432 := eq_true q432
                                  go_wp2
                                  repeat (go_quiet (fail); try go_wp2)
                                  go_ret
                                  exact ⟨au14_8, bl_⟩
                              · rw [if_neg c35] at H
                                exact absurd H (by simp)
                            · rw [if_neg c34] at H
                              exact absurd H (by simp)
                · rw [if_neg c22] at H
                  exact absurd H (by simp)
              · rw [if_neg c21] at H
                exact absurd H (by simp)
            · rw [if_neg c20] at H
              have c20b0 : decide (x9_1 < (t423.length : Int)) = false := decide_eq_false c20
              clear c20
              obtain rfl := Option.some.inj H
              go_wp2
              repeat (go_quiet (fail); try go_wp2)
              go_ret
              exact ⟨au14_8, bl_⟩
      · rw [if_neg c7] at H
        have c7b0 : ((t423.length : Int) == (t414.length : Int)) = false := beq_eq_false_iff_ne.mpr c7
        have c7b1 : ((t423.length : Int) != (t414.length : Int)) = true := bne_iff_ne.mpr c7
        have c7b2 : (t423.length == t414.length) = false := by first | simpa using c7 | (simp at c7 ⊢; omega)
        obtain rfl := Option.some.inj H
        go_enter Try.func13, Try.ntmps13
        go_wp2_with (first | (go_at_call 53; (with_reducible refine (spec_DrawPartnerRun.calls k _ _ l0 t410 t411 _ ?side1 ?side2 A3.out).mono ?_); (case side1 => exact au14_3); (case side2 => exact HC0.out); rintro e w45 ⟨v412, rfl, ho0, hb⟩; (try clear A3); have n0_ := Aside0.mk (Kd.R_lower ho0 (below_size bl_)); have n1_ := Aside0.mk (below_step bl_ hb); clear HB; have HO413 := n0_; have HB := n1_; clear n0_ n1_; (try clear hb); (try clear hb2); (try clear hk); (try clear hi); (try clear ho0); obtain ⟨Ao46, co46, eo46⟩ := Kd.R_slice HO413.out; subst eo46) | (go_at_call 38; (with_reducible refine (spec_PartnerRun.calls k t410 _ _ t411 t414 _ ?side1 ?side2 A4.out).mono ?_); (case side1 => exact au14_0); (case side2 => exact au14_10); rintro e w47 ⟨v415, rfl, ho0, hb⟩; (try clear A4); have n0_ := Aside0.mk (Kd.R_elder' (rk_ HO413) (Kd.R_base ho0) hb); have n1_ := Aside0.mk (Kd.R_lower (Kd.R_new' ho0 (Kd.R_lt (rk_ HO413))) (below_size bl_)); have n2_ := Aside0.mk (below_step bl_ hb); clear HO413; clear HB; have HO413 := n0_; have HO416 := n1_; have HB := n2_; clear n0_ n1_ n2_; (try clear hb); (try clear hb2); (try clear hk); (try clear hi); (try clear ho0)) | ((with_reducible refine gate_dst (N := 24) rfl ?_); refine Kd.R_lit (Kd.int .i64) _ 2 ?hg (N := 24) ?hd (xs := ([] : List Int)) (inner := []) (ok := fun _ => True) (okp := fun _ => True) ?hr ?hp (fun _ hk => hk) trivial (Below.refl _ _) (Nat.le_refl _) (by simp) ?_; (case hd => rfl); (case hg => rfl); (case hr => exact hr_); (case hp => exact (Reps.none _ _)); intro v418 w48 ho49 hb hg_ hnew_; clear hg_ hnew_; (first | rw [← Ny417.out] at ho49 | (simp only [Int.reduceToNat] at ho49; rw [← Ny417.out] at ho49)); have n0_ := Aside0.mk (Kd.R_elder' (rk_ HO413) (Kd.R_base ho49) hb); have n1_ := Aside0.mk (Kd.R_elder' (rk_ HO416) (Kd.R_base ho49) hb); have n2_ := Aside0.mk (Kd.R_lower (Kd.R_new' (Kd.R_new' ho49 (Kd.R_lt (rk_ HO413))) (Kd.R_lt (rk_ HO416))) (below_size bl_)); have n3_ := Aside0.mk (below_step bl_ hb); clear HO413; clear HO416; clear HB; have HO413 := n0_; have HO416 := n1_; have HO419 := n2_; have HB := n3_; clear n0_ n1_ n2_ n3_; clear hb ho49) | ((with_reducible refine gate_builtin (b := .append) (xs := #[.tmp 24, .tmp 25]) rfl ?_); at_builtin; refine Kd.R_append_rows (Kd.int .i64) (w0 := w) w.heap.size rfl (.tmp 24) (.tmp 25) 55 2 (.int .i64 0) 8 rfl Try.underlying55 info2 rfl (by decide) (by omega) v418 y417 t411 _ _ _ (fun k_ => some k_ ≠ (.slice Ao46 t411.length co46 : Value).ownBlock ∧ some k_ ≠ (v415 : Value).ownBlock) (fun _ => False) rfl rfl ?aO ?aR (fun _ _ h => h) (fun _ h => h.elim) ?aF ?aB ?aS ?aL ?_; (case aR => exact au14_0); (case aB => exact bl_); (case aF => exact au14_6); (case aO => exact au14_2); (case aS => exact (below_size bl_)); (case aL => have := LMc5.out; omega); intro v421 w50 ho hb hg hat; rw [← Ny420.out] at ho; have n0_ := Aside0.mk (Kd.R_after (ok := (fun k_ => some k_ ≠ (v415 : Value).ownBlock)) au14_4 hg hat); have n1_ := Aside0.mk (Kd.R_after (ok := (fun k_ => some k_ ≠ (.slice Ao46 t411.length co46 : Value).ownBlock)) au14_5 hg hat); have n2_ := Aside0.mk (hb); have n3_ := Aside0.mk (ho); clear HO413; clear HO416; clear HB; clear HO419; have HO413 := n0_; have HO416 := n1_; have HB := n2_; have HO422 := n3_; clear n0_ n1_ n2_ n3_; clear ho hb hg hat; obtain ⟨Ao51, co51, eo51⟩ := Kd.R_slice HO422.out; subst eo51) | (go_at_call 40; (with_reducible refine (impl_PartnerRun.calls k t410 _ _ y420 t423 _ ?side1 ?side2 A6.out).mono ?_); (case side1 => exact au14_1); (case side2 => exact au14_11); rintro e w52 ⟨v424, rfl, ho0, hb⟩; (try clear A6); have n0_ := Aside0.mk (Kd.R_elder' (rk_ HO413) (Kd.R_base ho0) hb); have n1_ := Aside0.mk (Kd.R_elder' (rk_ HO416) (Kd.R_base ho0) hb); have n2_ := Aside0.mk (Kd.R_elder' (rk_ HO422) (Kd.R_base ho0) hb); have n3_ := Aside0.mk (Kd.R_lower (Kd.R_new' (Kd.R_new' (Kd.R_new' ho0 (Kd.R_lt (rk_ HO413))) (Kd.R_lt (rk_ HO416))) (Kd.R_lt (rk_ HO422))) (below_size bl_)); have n4_ := Aside0.mk (below_step bl_ hb); clear HO413; clear HO416; clear HO422; clear HB; have HO413 := n0_; have HO416 := n1_; have HO422 := n2_; have HO425 := n3_; have HB := n4_; clear n0_ n1_ n2_ n3_ n4_; (try clear hb); (try clear hb2); (try clear hk); (try clear hi); (try clear ho0); obtain ⟨Ao53, co53, eo53⟩ := Kd.R_slice HO425.out; subst eo53; obtain ⟨Ao54, co54, eo54⟩ := Kd.R_slice HO416.out; subst eo54))
        repeat (go_quiet (first | (go_at_call 53; (with_reducible refine (spec_DrawPartnerRun.calls k _ _ l0 t410 t411 _ ?side1 ?side2 A3.out).mono ?_); (case side1 => exact au14_3); (case side2 => exact HC0.out); rintro e w45 ⟨v412, rfl, ho0, hb⟩; (try clear A3); have n0_ := Aside0.mk (Kd.R_lower ho0 (below_size bl_)); have n1_ := Aside0.mk (below_step bl_ hb); clear HB; have HO413 := n0_; have HB := n1_; clear n0_ n1_; (try clear hb); (try clear hb2); (try clear hk); (try clear hi); (try clear ho0); obtain ⟨Ao46, co46, eo46⟩ := Kd.R_slice HO413.out; subst eo46) | (go_at_call 38; (with_reducible refine (spec_PartnerRun.calls k t410 _ _ t411 t414 _ ?side1 ?side2 A4.out).mono ?_); (case side1 => exact au14_0); (case side2 => exact au14_10); rintro e w47 ⟨v415, rfl, ho0, hb⟩; (try clear A4); have n0_ := Aside0.mk (Kd.R_elder' (rk_ HO413) (Kd.R_base ho0) hb); have n1_ := Aside0.mk (Kd.R_lower (Kd.R_new' ho0 (Kd.R_lt (rk_ HO413))) (below_size bl_)); have n2_ := Aside0.mk (below_step bl_ hb); clear HO413; clear HB; have HO413 := n0_; have HO416 := n1_; have HB := n2_; clear n0_ n1_ n2_; (try clear hb); (try clear hb2); (try clear hk); (try clear hi); (try clear ho0)) | ((with_reducible refine gate_dst (N := 24) rfl ?_); refine Kd.R_lit (Kd.int .i64) _ 2 ?hg (N := 24) ?hd (xs := ([] : List Int)) (inner := []) (ok := fun _ => True) (okp := fun _ => True) ?hr ?hp (fun _ hk => hk) trivial (Below.refl _ _) (Nat.le_refl _) (by simp) ?_; (case hd => rfl); (case hg => rfl); (case hr => exact hr_); (case hp => exact (Reps.none _ _)); intro v418 w48 ho49 hb hg_ hnew_; clear hg_ hnew_; (first | rw [← Ny417.out] at ho49 | (simp only [Int.reduceToNat] at ho49; rw [← Ny417.out] at ho49)); have n0_ := Aside0.mk (Kd.R_elder' (rk_ HO413) (Kd.R_base ho49) hb); have n1_ := Aside0.mk (Kd.R_elder' (rk_ HO416) (Kd.R_base ho49) hb); have n2_ := Aside0.mk (Kd.R_lower (Kd.R_new' (Kd.R_new' ho49 (Kd.R_lt (rk_ HO413))) (Kd.R_lt (rk_ HO416))) (below_size bl_)); have n3_ := Aside0.mk (below_step bl_ hb); clear HO413; clear HO416; clear HB; have HO413 := n0_; have HO416 := n1_; have HO419 := n2_; have HB := n3_; clear n0_ n1_ n2_ n3_; clear hb ho49) | ((with_reducible refine gate_builtin (b := .append) (xs := #[.tmp 24, .tmp 25]) rfl ?_); at_builtin; refine Kd.R_append_rows (Kd.int .i64) (w0 := w) w.heap.size rfl (.tmp 24) (.tmp 25) 55 2 (.int .i64 0) 8 rfl Try.underlying55 info2 rfl (by decide) (by omega) v418 y417 t411 _ _ _ (fun k_ => some k_ ≠ (.slice Ao46 t411.length co46 : Value).ownBlock ∧ some k_ ≠ (v415 : Value).ownBlock) (fun _ => False) rfl rfl ?aO ?aR (fun _ _ h => h) (fun _ h => h.elim) ?aF ?aB ?aS ?aL ?_; (case aR => exact au14_0); (case aB => exact bl_); (case aF => exact au14_6); (case aO => exact au14_2); (case aS => exact (below_size bl_)); (case aL => have := LMc5.out; omega); intro v421 w50 ho hb hg hat; rw [← Ny420.out] at ho; have n0_ := Aside0.mk (Kd.R_after (ok := (fun k_ => some k_ ≠ (v415 : Value).ownBlock)) au14_4 hg hat); have n1_ := Aside0.mk (Kd.R_after (ok := (fun k_ => some k_ ≠ (.slice Ao46 t411.length co46 : Value).ownBlock)) au14_5 hg hat); have n2_ := Aside0.mk (hb); have n3_ := Aside0.mk (ho); clear HO413; clear HO416; clear HB; clear HO419; have HO413 := n0_; have HO416 := n1_; have HB := n2_; have HO422 := n3_; clear n0_ n1_ n2_ n3_; clear ho hb hg hat; obtain ⟨Ao51, co51, eo51⟩ := Kd.R_slice HO422.out; subst eo51) | (go_at_call 40; (with_reducible refine (impl_PartnerRun.calls k t410 _ _ y420 t423 _ ?side1 ?side2 A6.out).mono ?_); (case side1 => exact au14_1); (case side2 => exact au14_11); rintro e w52 ⟨v424, rfl, ho0, hb⟩; (try clear A6); have n0_ := Aside0.mk (Kd.R_elder' (rk_ HO413) (Kd.R_base ho0) hb); have n1_ := Aside0.mk (Kd.R_elder' (rk_ HO416) (Kd.R_base ho0) hb); have n2_ := Aside0.mk (Kd.R_elder' (rk_ HO422) (Kd.R_base ho0) hb); have n3_ := Aside0.mk (Kd.R_lower (Kd.R_new' (Kd.R_new' (Kd.R_new' ho0 (Kd.R_lt (rk_ HO413))) (Kd.R_lt (rk_ HO416))) (Kd.R_lt (rk_ HO422))) (below_size bl_)); have n4_ := Aside0.mk (below_step bl_ hb); clear HO413; clear HO416; clear HO422; clear HB; have HO413 := n0_; have HO416 := n1_; have HO422 := n2_; have HO425 := n3_; have HB := n4_; clear n0_ n1_ n2_ n3_ n4_; (try clear hb); (try clear hb2); (try clear hk); (try clear hi); (try clear ho0); obtain ⟨Ao53, co53, eo53⟩ := Kd.R_slice HO425.out; subst eo53; obtain ⟨Ao54, co54, eo54⟩ := Kd.R_slice HO416.out; subst eo54)); try go_wp2_with (first | (go_at_call 53; (with_reducible refine (spec_DrawPartnerRun.calls k _ _ l0 t410 t411 _ ?side1 ?side2 A3.out).mono ?_); (case side1 => exact au14_3); (case side2 => exact HC0.out); rintro e w45 ⟨v412, rfl, ho0, hb⟩; (try clear A3); have n0_ := Aside0.mk (Kd.R_lower ho0 (below_size bl_)); have n1_ := Aside0.mk (below_step bl_ hb); clear HB; have HO413 := n0_; have HB := n1_; clear n0_ n1_; (try clear hb); (try clear hb2); (try clear hk); (try clear hi); (try clear ho0); obtain ⟨Ao46, co46, eo46⟩ := Kd.R_slice HO413.out; subst eo46) | (go_at_call 38; (with_reducible refine (spec_PartnerRun.calls k t410 _ _ t411 t414 _ ?side1 ?side2 A4.out).mono ?_); (case side1 => exact au14_0); (case side2 => exact au14_10); rintro e w47 ⟨v415, rfl, ho0, hb⟩; (try clear A4); have n0_ := Aside0.mk (Kd.R_elder' (rk_ HO413) (Kd.R_base ho0) hb); have n1_ := Aside0.mk (Kd.R_lower (Kd.R_new' ho0 (Kd.R_lt (rk_ HO413))) (below_size bl_)); have n2_ := Aside0.mk (below_step bl_ hb); clear HO413; clear HB; have HO413 := n0_; have HO416 := n1_; have HB := n2_; clear n0_ n1_ n2_; (try clear hb); (try clear hb2); (try clear hk); (try clear hi); (try clear ho0)) | ((with_reducible refine gate_dst (N := 24) rfl ?_); refine Kd.R_lit (Kd.int .i64) _ 2 ?hg (N := 24) ?hd (xs := ([] : List Int)) (inner := []) (ok := fun _ => True) (okp := fun _ => True) ?hr ?hp (fun _ hk => hk) trivial (Below.refl _ _) (Nat.le_refl _) (by simp) ?_; (case hd => rfl); (case hg => rfl); (case hr => exact hr_); (case hp => exact (Reps.none _ _)); intro v418 w48 ho49 hb hg_ hnew_; clear hg_ hnew_; (first | rw [← Ny417.out] at ho49 | (simp only [Int.reduceToNat] at ho49; rw [← Ny417.out] at ho49)); have n0_ := Aside0.mk (Kd.R_elder' (rk_ HO413) (Kd.R_base ho49) hb); have n1_ := Aside0.mk (Kd.R_elder' (rk_ HO416) (Kd.R_base ho49) hb); have n2_ := Aside0.mk (Kd.R_lower (Kd.R_new' (Kd.R_new' ho49 (Kd.R_lt (rk_ HO413))) (Kd.R_lt (rk_ HO416))) (below_size bl_)); have n3_ := Aside0.mk (below_step bl_ hb); clear HO413; clear HO416; clear HB; have HO413 := n0_; have HO416 := n1_; have HO419 := n2_; have HB := n3_; clear n0_ n1_ n2_ n3_; clear hb ho49) | ((with_reducible refine gate_builtin (b := .append) (xs := #[.tmp 24, .tmp 25]) rfl ?_); at_builtin; refine Kd.R_append_rows (Kd.int .i64) (w0 := w) w.heap.size rfl (.tmp 24) (.tmp 25) 55 2 (.int .i64 0) 8 rfl Try.underlying55 info2 rfl (by decide) (by omega) v418 y417 t411 _ _ _ (fun k_ => some k_ ≠ (.slice Ao46 t411.length co46 : Value).ownBlock ∧ some k_ ≠ (v415 : Value).ownBlock) (fun _ => False) rfl rfl ?aO ?aR (fun _ _ h => h) (fun _ h => h.elim) ?aF ?aB ?aS ?aL ?_; (case aR => exact au14_0); (case aB => exact bl_); (case aF => exact au14_6); (case aO => exact au14_2); (case aS => exact (below_size bl_)); (case aL => have := LMc5.out; omega); intro v421 w50 ho hb hg hat; rw [← Ny420.out] at ho; have n0_ := Aside0.mk (Kd.R_after (ok := (fun k_ => some k_ ≠ (v415 : Value).ownBlock)) au14_4 hg hat); have n1_ := Aside0.mk (Kd.R_after (ok := (fun k_ => some k_ ≠ (.slice Ao46 t411.length co46 : Value).ownBlock)) au14_5 hg hat); have n2_ := Aside0.mk (hb); have n3_ := Aside0.mk (ho); clear HO413; clear HO416; clear HB; clear HO419; have HO413 := n0_; have HO416 := n1_; have HB := n2_; have HO422 := n3_; clear n0_ n1_ n2_ n3_; clear ho hb hg hat; obtain ⟨Ao51, co51, eo51⟩ := Kd.R_slice HO422.out; subst eo51) | (go_at_call 40; (with_reducible refine (impl_PartnerRun.calls k t410 _ _ y420 t423 _ ?side1 ?side2 A6.out).mono ?_); (case side1 => exact au14_1); (case side2 => exact au14_11); rintro e w52 ⟨v424, rfl, ho0, hb⟩; (try clear A6); have n0_ := Aside0.mk (Kd.R_elder' (rk_ HO413) (Kd.R_base ho0) hb); have n1_ := Aside0.mk (Kd.R_elder' (rk_ HO416) (Kd.R_base ho0) hb); have n2_ := Aside0.mk (Kd.R_elder' (rk_ HO422) (Kd.R_base ho0) hb); have n3_ := Aside0.mk (Kd.R_lower (Kd.R_new' (Kd.R_new' (Kd.R_new' ho0 (Kd.R_lt (rk_ HO413))) (Kd.R_lt (rk_ HO416))) (Kd.R_lt (rk_ HO422))) (below_size bl_)); have n4_ := Aside0.mk (below_step bl_ hb); clear HO413; clear HO416; clear HO422; clear HB; have HO413 := n0_; have HO416 := n1_; have HO422 := n2_; have HO425 := n3_; have HB := n4_; clear n0_ n1_ n2_ n3_ n4_; (try clear hb); (try clear hb2); (try clear hk); (try clear hi); (try clear ho0); obtain ⟨Ao53, co53, eo53⟩ := Kd.R_slice HO425.out; subst eo53; obtain ⟨Ao54, co54, eo54⟩ := Kd.R_slice HO416.out; subst eo54)))
        go_ret
        exact ⟨au14_8, bl_⟩
    · rw [if_neg c5] at H
      exact absurd H (by simp)

/-- THE ONE PURE STATEMENT of laws_FnWindow: yours. -/
def laws_FnWindow.Pure : Prop := ∀ (l0 : List Int), l0.length ≤ maxLen → l0.length * 1 ≤ 140737488351232 → (∀ x ∈ l0, (Lit.int .u8 x).wf = true) → ∃ k, laws_FnWindow.f k l0 = some true
theorem laws_FnWindow.walk (P : laws_FnWindow.Pure) (a0 : Option Addr) (len0 cap0 : Nat) (z0 : List Int) (w : World) (w0 : (a0 = none ∧ len0 = 0 ∧ cap0 = 0 ∧ z0 = []) ∨ ∃ x, a0 = some x ∧ len0 ≤ cap0 ∧ cap0 ≤ maxLen ∧ z0.length = cap0 ∧ (∀ i, i < z0.length → w.cell? (x.add i) = some (.int .u8 (z0.getD i 0))) ∧ ∀ n ∈ z0, (Lit.int .u8 n).wf = true) (y0 : len0 * 1 ≤ 140737488351232) :
    Calls Try.prog 13 #[.slice a0 len0 cap0] w fun e w' => e = .returned (.bool true) ∧ Below w.heap.size w w' := by
  obtain ⟨l0, rfl, hr0, hm0, hw0, hc0⟩ := ReadsInt.ofRowC w0
  obtain ⟨k, h⟩ := P l0 hm0 y0 hw0
  refine (laws_FnWindow.calls k _ _ l0 true w (Kd.C_of_reads (d := (0 : Int)) (h1 := fun _ => rfl) hr0) hc0 h).mono ?_
  rintro e w' ⟨rfl, hd⟩
  exact ⟨rfl, hd⟩

end Go.Proofs.Ytjffakoifpldeaa.PFnWindow
