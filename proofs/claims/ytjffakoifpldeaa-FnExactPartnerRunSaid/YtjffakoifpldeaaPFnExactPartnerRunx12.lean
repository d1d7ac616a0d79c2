-- printed by a program of this session (wip/xp/xprint.py) out of the translation; Lean checks it
import Derived.Test.YtjffakoifpldeaaPFnExactPartnerRunx0
import Derived.Test.YtjffakoifpldeaaPFnExactPartnerRunx6
import Derived.Test.YtjffakoifpldeaaPFnExactPartnerRunx7
import Derived.Test.YtjffakoifpldeaaPFnExactPartnerRunx11
namespace Go.Proofs.Ytjffakoifpldeaa.PFnExactPartnerRun
open Go.RowKit Go.Proofs.YtjffakoifpldeaaW.PrintWords Go.Proofs.YtjffakoifpldeaaW.PrintLast Go.Proofs.YtjffakoifpldeaaW.PrintMore
attribute [local go_sem] max2_int min2_int max_two min_two max_three min_three max_four min_four   -- for this text's walks alone
set_option linter.unusedVariables false
set_option linter.unusedSimpArgs false

theorem au12_0 {p : Prop} (h : p := by repeat (first | exact (Kd.R_reads' HO_7.out).2.2 | (with_reducible refine Kd.C_alloc ?_ _) | (with_reducible refine Kd.C_drewN ?_ _) | (with_reducible refine Kd.C_drew ?_))) : p := h
theorem au12_1 {p : Prop} (h : p := by first | rfl | (simp [errW_none, errW_some] <;> rfl) | (simp [*, errW_none, errW_some] <;> rfl)) : p := h
theorem au12_2 {p : Prop} (h : p := by repeat (first | exact (Kd.C_below HR1.out bl_) | (with_reducible refine Kd.C_alloc ?_ _) | (with_reducible refine Kd.C_drewN ?_ _) | (with_reducible refine Kd.C_drew ?_))) : p := h
theorem au12_3 {p : Prop} (h : p := by rw [show t330.length = t318.length from (Kd.R_reads' HO_7.out).1.symm]; exact (Kd.R_reads' HO_7.out).2.1) : p := h
theorem au12_4 {p : Prop} (h : p := by repeat (first | (with_reducible first | exact HB.out | apply below_alloc | apply pw_below_drewN | apply below_drew1) | exact HB.out)) : p := h
theorem au12_5 {p : Prop} (h : p := by first | (rw [show t330.length = t318.length from (Kd.R_reads' HO_7.out).1.symm] <;> rfl) | rfl) : p := h
theorem au12_6 {p : Prop} (h : p := by repeat (first | exact (Kd.R_reads' HO317.out).2.2 | (with_reducible refine Kd.C_alloc ?_ _) | (with_reducible refine Kd.C_drewN ?_ _) | (with_reducible refine Kd.C_drew ?_))) : p := h
theorem au12_7 {p : Prop} (h : p := by repeat (first | exact (Kd.R_reads' HO320.out).2.2 | (with_reducible refine Kd.C_alloc ?_ _) | (with_reducible refine Kd.C_drewN ?_ _) | (with_reducible refine Kd.C_drew ?_))) : p := h
theorem au12_8 {p : Prop} (h : p := by repeat (first | exact (Kd.R_reads' HO314.out).2.2 | (with_reducible refine Kd.C_alloc ?_ _) | (with_reducible refine Kd.C_drewN ?_ _) | (with_reducible refine Kd.C_drew ?_))) : p := h
theorem au12_9 {p : Prop} (h : p := by repeat (first | exact (Kd.R_reads' HO334.out).2.2 | (with_reducible refine Kd.C_alloc ?_ _) | (with_reducible refine Kd.C_drewN ?_ _) | (with_reducible refine Kd.C_drew ?_))) : p := h
theorem au12_10 {p : Prop} (h : p := by repeat (first | exact (Kd.R_reads' HO337.out).2.2 | (with_reducible refine Kd.C_alloc ?_ _) | (with_reducible refine Kd.C_drewN ?_ _) | (with_reducible refine Kd.C_drew ?_))) : p := h
theorem au12_11 {p : Prop} (h : p := by repeat (first | exact (Kd.R_reads' HO_5.out).2.2 | (with_reducible refine Kd.C_alloc ?_ _) | (with_reducible refine Kd.C_drewN ?_ _) | (with_reducible refine Kd.C_drew ?_))) : p := h
theorem au12_12 {p : Prop} (h : p := by repeat (first | exact (Kd.R_reads' HO311.out).2.2 | (with_reducible refine Kd.C_alloc ?_ _) | (with_reducible refine Kd.C_drewN ?_ _) | (with_reducible refine Kd.C_drew ?_))) : p := h
theorem au12_13 {p : Prop} (h : p := by repeat (first | exact (Kd.C_below HR1.out HB.out) | (with_reducible refine Kd.C_alloc ?_ _) | (with_reducible refine Kd.C_drewN ?_ _) | (with_reducible refine Kd.C_drew ?_))) : p := h
theorem au12_14 {p : Prop} (h : p := by repeat (first | exact HR1.out | (with_reducible refine Kd.C_alloc ?_ _) | (with_reducible refine Kd.C_drewN ?_ _) | (with_reducible refine Kd.C_drew ?_))) : p := h
theorem au12_15 {p : Prop} (h : p := by repeat (first | exact (Kd.R_reads' HO324.out).2.2 | (with_reducible refine Kd.C_alloc ?_ _) | (with_reducible refine Kd.C_drewN ?_ _) | (with_reducible refine Kd.C_drew ?_))) : p := h
theorem au12_16 {p : Prop} (h : p := by (with_reducible repeat (first | apply Kd.R_alloc | apply Kd.R_drewN | apply Kd.R_drew)); exact Kd.R_mono HO314.out (fun _ hk => hk.2.2.1)) : p := h
theorem au12_17 {p : Prop} (h : p := by (with_reducible repeat (first | apply Kd.R_alloc | apply Kd.R_drewN | apply Kd.R_drew)); exact Kd.R_mono HO320.out (fun _ hk => hk.2.1)) : p := h
theorem au12_18 {p : Prop} (h : p := by exact (Kd.R_reads' HO317.out).2.1) : p := h
theorem au12_19 {p : Prop} (h : p := by exact (Kd.R_reads' HO320.out).2.1) : p := h
theorem au12_20 {p : Prop} (h : p := by exact (Kd.R_reads' HO314.out).2.1) : p := h
theorem au12_21 {p : Prop} (h : p := by exact (Kd.R_reads' HO334.out).2.1) : p := h
theorem au12_22 {p : Prop} (h : p := by exact (Kd.R_reads' HO337.out).2.1) : p := h
theorem au12_23 {p : Prop} (h : p := by exact (Kd.R_reads' HO_5.out).2.1) : p := h

/-! ### laws_FnExactPartnerRun: function 10 -/
def laws_FnExactPartnerRun.j0 : Nat → ByteArray → List Int → List Int → List Int → Bool → Option (Bool)
  | 0, _, _, _, _, _ => none
  | k + 1, x0, x1, x5, x7, x46 => if x46 = true then (some false) else ((laws_markInt64S.f k x7 1).bind fun bt329 => ((laws_heldInt64S.f k bt329.2 1).bind fun t331 => (if t331 < 0 then (some false) else (if t331 = bt329.1 then ((laws_toInt64S.f k x1).bind fun t332 => ((impl_PartnerRun.f k x0 t332).bind fun t335 => ((laws_eqInt64S.f k t335 x5).bind fun t338 => (if t338 = true then ((laws_heldInt64S.f k bt329.2 1).bind fun t339 => (if t339 < 0 then (some false) else (if t339 = bt329.1 then (some true) else (some false)))) else (some false))))) else (some false)))))
def laws_FnExactPartnerRun.f (k : Nat) (a0 : ByteArray) (l1 : List Int) : Option (Bool) := if (a0.size : Int) > 1048576 then (some true) else (if (l1.length : Int) > 1048576 then (some true) else ((laws_toInt64S.f k l1).bind fun t309 => ((spec_PartnerRun.f k a0 t309).bind fun t312 => ((laws_toInt64S.f k l1).bind fun t315 => ((impl_PartnerRun.f k a0 t315).bind fun t318 => ((laws_eqInt64S.f k t318 t312).bind fun t321 => (if t321 = true then ((laws_toInt64S.f k l1).bind fun t322 => ((laws_eqInt64S.f k t315 t322).bind fun t325 => (if t325 = true then ((laws_markInt64S.f k t315 1).bind fun bt326 => (if bt326.1 < 0 then (laws_FnExactPartnerRun.j0 k a0 l1 t312 t318 true) else ((laws_eqInt64S.f k t318 t312).bind fun t328 => (laws_FnExactPartnerRun.j0 k a0 l1 t312 t318 (!t328))))) else (some false)))) else (some false))))))))
theorem laws_FnExactPartnerRun.mono_l : ∀ k, (∀ y0 y1 y2 y3 y4, LeO (laws_FnExactPartnerRun.j0 k y0 y1 y2 y3 y4) (laws_FnExactPartnerRun.j0 (k + 1) y0 y1 y2 y3 y4))
  | 0 => fun _ _ _ _ _ r h => by simp [laws_FnExactPartnerRun.j0] at h
  | k + 1 => by
    have ih0 := laws_FnExactPartnerRun.mono_l k
    · intro y0 y1 y2 y3 y4
      unfold laws_FnExactPartnerRun.j0
      repeat' first
      | (with_reducible exact ih0 _ _ _ _ _)
      | (with_reducible exact impl_PartnerRun.mono _ _ _)
      | (with_reducible exact laws_eqInt64S.mono _ _ _)
      | (with_reducible exact laws_heldInt64S.mono _ _ _)
      | (with_reducible exact laws_markInt64S.mono _ _ _)
      | (with_reducible exact laws_toInt64S.mono _ _)
      | (with_reducible exact spec_PartnerRun.mono _ _ _)
      | (with_reducible exact LeO.refl _)
      | (with_reducible exact LeO.none _)
      | (with_reducible refine LeO.ite ?_ ?_)
      | (with_reducible refine LeO.bind ?_ (fun _ => ?_))
      | exact ih0 _ _ _ _ _
      | exact impl_PartnerRun.mono _ _ _
      | exact laws_eqInt64S.mono _ _ _
      | exact laws_heldInt64S.mono _ _ _
      | exact laws_markInt64S.mono _ _ _
      | exact laws_toInt64S.mono _ _
      | exact spec_PartnerRun.mono _ _ _
      | exact LeO.none _
      | refine LeO.ite ?_ ?_
      | refine LeO.bind ?_ (fun _ => ?_)
theorem laws_FnExactPartnerRun.mono : ∀ a0 a1 k, LeO (laws_FnExactPartnerRun.f k a0 a1) (laws_FnExactPartnerRun.f (k + 1) a0 a1) := by
  intro a0 a1 k
  have ih0 := laws_FnExactPartnerRun.mono_l k
  unfold laws_FnExactPartnerRun.f
  repeat' first
      | (with_reducible exact ih0 _ _ _ _ _)
      | (with_reducible exact impl_PartnerRun.mono _ _ _)
      | (with_reducible exact laws_eqInt64S.mono _ _ _)
      | (with_reducible exact laws_heldInt64S.mono _ _ _)
      | (with_reducible exact laws_markInt64S.mono _ _ _)
      | (with_reducible exact laws_toInt64S.mono _ _)
      | (with_reducible exact spec_PartnerRun.mono _ _ _)
      | (with_reducible exact LeO.refl _)
      | (with_reducible exact LeO.none _)
      | (with_reducible refine LeO.ite ?_ ?_)
      | (with_reducible refine LeO.bind ?_ (fun _ => ?_))
      | exact ih0 _ _ _ _ _
      | exact impl_PartnerRun.mono _ _ _
      | exact laws_eqInt64S.mono _ _ _
      | exact laws_heldInt64S.mono _ _ _
      | exact laws_markInt64S.mono _ _ _
      | exact laws_toInt64S.mono _ _
      | exact spec_PartnerRun.mono _ _ _
      | exact LeO.none _
      | refine LeO.ite ?_ ?_
      | refine LeO.bind ?_ (fun _ => ?_)
set_option maxHeartbeats 8000000 in
set_option maxRecDepth 100000 in
theorem laws_FnExactPartnerRun.calls (k : Nat) (a0 : ByteArray) (A1 : Option Addr) (c1 : Nat) (l1 : List Int) (r : Bool) (w : World) (hr1 : Kd.C (Kd.int .i64) w A1 l1.length l1) (hc1 : l1.length ≤ c1) (h : laws_FnExactPartnerRun.f k a0 l1 = some r) :
    Calls Try.prog 10 #[.string a0, .slice A1 l1.length c1] w fun e w' => e = .returned (.bool r) ∧ Below w.heap.size w w' := by
  have HR1 := Aside0.mk hr1
  have HC1 := Aside0.mk hc1
  clear hr1 hc1
  have HB := Aside0.mk (Below.refl w.heap.size w)
  have H : (if (a0.size : Int) > 1048576 then (some true) else (if (l1.length : Int) > 1048576 then (some true) else ((laws_toInt64S.f k l1).bind fun t309 => ((spec_PartnerRun.f k a0 t309).bind fun t312 => ((laws_toInt64S.f k l1).bind fun t315 => ((impl_PartnerRun.f k a0 t315).bind fun t318 => ((laws_eqInt64S.f k t318 t312).bind fun t321 => (if t321 = true then ((laws_toInt64S.f k l1).bind fun t322 => ((laws_eqInt64S.f k t315 t322).bind fun t325 => (if t325 = true then ((laws_markInt64S.f k t315 1).bind fun bt326 => (if bt326.1 < 0 then (laws_FnExactPartnerRun.j0 k a0 l1 t312 t318 true) else ((laws_eqInt64S.f k t318 t312).bind fun t328 => (laws_FnExactPartnerRun.j0 k a0 l1 t312 t318 (!t328))))) else (some false)))) else (some false))))))))) = some r := h
  clear h
  by_cases c3 : (a0.size : Int) > 1048576
  · rw [if_pos c3] at H
    have c3b0 : decide (1048576 < (a0.size : Int)) = true := decide_eq_true c3
    have c3b1 : decide (1048576 < a0.size) = true := decide_eq_true (by omega)
    clear c3
    obtain rfl := Option.some.inj H
    go_enter Try.func10, Try.ntmps10
    go_wp2
    go_ret
    exact ⟨au12_1, bl_⟩
  · rw [if_neg c3] at H
    have c3b0 : decide (1048576 < (a0.size : Int)) = false := decide_eq_false c3
    have c3b1 : decide (1048576 < a0.size) = false := decide_eq_false (by omega)
    clear c3
    by_cases c4 : (l1.length : Int) > 1048576
    · rw [if_pos c4] at H
      have c4b0 : decide (1048576 < (l1.length : Int)) = true := decide_eq_true c4
      have c4b1 : decide (1048576 < l1.length) = true := decide_eq_true (by omega)
      clear c4
      obtain rfl := Option.some.inj H
      go_enter Try.func10, Try.ntmps10
      go_wp2
      go_ret
      exact ⟨au12_1, bl_⟩
    · rw [if_neg c4] at H
      have c4b0 : decide (1048576 < (l1.length : Int)) = false := decide_eq_false c4
      have c4b1 : decide (1048576 < l1.length) = false := decide_eq_false (by omega)
      clear c4
      replace H := Option.bind_eq_some_iff.mp H
      obtain ⟨t309, A50, H⟩ := H
      replace H : ((spec_PartnerRun.f k a0 t309).bind fun t312 => ((laws_toInt64S.f k l1).bind fun t315 => ((impl_PartnerRun.f k a0 t315).bind fun t318 => ((laws_eqInt64S.f k t318 t312).bind fun t321 => (if t321 = true then ((laws_toInt64S.f k l1).bind fun t322 => ((laws_eqInt64S.f k t315 t322).bind fun t325 => (if t325 = true then ((laws_markInt64S.f k t315 1).bind fun bt326 => (if bt326.1 < 0 then (laws_FnExactPartnerRun.j0 k a0 l1 t312 t318 true) else ((laws_eqInt64S.f k t318 t312).bind fun t328 => (laws_FnExactPartnerRun.j0 k a0 l1 t312 t318 (!t328))))) else (some false)))) else (some false)))))) = some r := H
      have A5 := Aside0.mk A50
      clear A50
      replace H := Option.bind_eq_some_iff.mp H
      obtain ⟨t312, A60, H⟩ := H
      replace H : ((laws_toInt64S.f k l1).bind fun t315 => ((impl_PartnerRun.f k a0 t315).bind fun t318 => ((laws_eqInt64S.f k t318 t312).bind fun t321 => (if t321 = true then ((laws_toInt64S.f k l1).bind fun t322 => ((laws_eqInt64S.f k t315 t322).bind fun t325 => (if t325 = true then ((laws_markInt64S.f k t315 1).bind fun bt326 => (if bt326.1 < 0 then (laws_FnExactPartnerRun.j0 k a0 l1 t312 t318 true) else ((laws_eqInt64S.f k t318 t312).bind fun t328 => (laws_FnExactPartnerRun.j0 k a0 l1 t312 t318 (!t328))))) else (some false)))) else (some false))))) = some r := H
      have A6 := Aside0.mk A60
      clear A60
      replace H := Option.bind_eq_some_iff.mp H
      obtain ⟨t315, A70, H⟩ := H
      replace H : ((impl_PartnerRun.f k a0 t315).bind fun t318 => ((laws_eqInt64S.f k t318 t312).bind fun t321 => (if t321 = true then ((laws_toInt64S.f k l1).bind fun t322 => ((laws_eqInt64S.f k t315 t322).bind fun t325 => (if t325 = true then ((laws_markInt64S.f k t315 1).bind fun bt326 => (if bt326.1 < 0 then (laws_FnExactPartnerRun.j0 k a0 l1 t312 t318 true) else ((laws_eqInt64S.f k t318 t312).bind fun t328 => (laws_FnExactPartnerRun.j0 k a0 l1 t312 t318 (!t328))))) else (some false)))) else (some false)))) = some r := H
      have A7 := Aside0.mk A70
      clear A70
      replace H := Option.bind_eq_some_iff.mp H
      obtain ⟨t318, A80, H⟩ := H
      replace H : ((laws_eqInt64S.f k t318 t312).bind fun t321 => (if t321 = true then ((laws_toInt64S.f k l1).bind fun t322 => ((laws_eqInt64S.f k t315 t322).bind fun t325 => (if t325 = true then ((laws_markInt64S.f k t315 1).bind fun bt326 => (if bt326.1 < 0 then (laws_FnExactPartnerRun.j0 k a0 l1 t312 t318 true) else ((laws_eqInt64S.f k t318 t312).bind fun t328 => (laws_FnExactPartnerRun.j0 k a0 l1 t312 t318 (!t328))))) else (some false)))) else (some false))) = some r := H
      have A8 := Aside0.mk A80
      clear A80
      replace H := Option.bind_eq_some_iff.mp H
      obtain ⟨t321, A90, H⟩ := H
      replace H : (if t321 = true then ((laws_toInt64S.f k l1).bind fun t322 => ((laws_eqInt64S.f k t315 t322).bind fun t325 => (if t325 = true then ((laws_markInt64S.f k t315 1).bind fun bt326 => (if bt326.1 < 0 then (laws_FnExactPartnerRun.j0 k a0 l1 t312 t318 true) else ((laws_eqInt64S.f k t318 t312).bind fun t328 => (laws_FnExactPartnerRun.j0 k a0 l1 t312 t318 (!t328))))) else (some false)))) else (some false)) = some r := H
      have A9 := Aside0.mk A90
      clear A90
      by_cases c10 : t321 = true
      · subst c10
        have H1 : ((laws_toInt64S.f k l1).bind fun t322 => ((laws_eqInt64S.f k t315 t322).bind fun t325 => (if t325 = true then ((laws_markInt64S.f k t315 1).bind fun bt326 => (if bt326.1 < 0 then (laws_FnExactPartnerRun.j0 k a0 l1 t312 t318 true) else ((laws_eqInt64S.f k t318 t312).bind fun t328 => (laws_FnExactPartnerRun.j0 k a0 l1 t312 t318 (!t328))))) else (some false)))) = some r := by rw [if_pos rfl] at H; exact H
        clear H
        have H := H1
        clear H1
        replace H := Option.bind_eq_some_iff.mp H
        obtain ⟨t322, A110, H⟩ := H
        replace H : ((laws_eqInt64S.f k t315 t322).bind fun t325 => (if t325 = true then ((laws_markInt64S.f k t315 1).bind fun bt326 => (if bt326.1 < 0 then (laws_FnExactPartnerRun.j0 k a0 l1 t312 t318 true) else ((laws_eqInt64S.f k t318 t312).bind fun t328 => (laws_FnExactPartnerRun.j0 k a0 l1 t312 t318 (!t328))))) else (some false))) = some r := H
        have A11 := Aside0.mk A110
        clear A110
        replace H := Option.bind_eq_some_iff.mp H
        obtain ⟨t325, A120, H⟩ := H
        replace H : (if t325 = true then ((laws_markInt64S.f k t315 1).bind fun bt326 => (if bt326.1 < 0 then (laws_FnExactPartnerRun.j0 k a0 l1 t312 t318 true) else ((laws_eqInt64S.f k t318 t312).bind fun t328 => (laws_FnExactPartnerRun.j0 k a0 l1 t312 t318 (!t328))))) else (some false)) = some r := H
        have A12 := Aside0.mk A120
        clear A120
        by_cases c13 : t325 = true
        · subst c13
          have H1 : ((laws_markInt64S.f k t315 1).bind fun bt326 => (if bt326.1 < 0 then (laws_FnExactPartnerRun.j0 k a0 l1 t312 t318 true) else ((laws_eqInt64S.f k t318 t312).bind fun t328 => (laws_FnExactPartnerRun.j0 k a0 l1 t312 t318 (!t328))))) = some r := by rw [if_pos rfl] at H; exact H
          clear H
          have H := H1
          clear H1
          replace H := Option.bind_eq_some_iff.mp H
          obtain ⟨⟨t326, t327⟩, A140, H⟩ := H
          replace H : (if t326 < 0 then (laws_FnExactPartnerRun.j0 k a0 l1 t312 t318 true) else ((laws_eqInt64S.f k t318 t312).bind fun t328 => (laws_FnExactPartnerRun.j0 k a0 l1 t312 t318 (!t328)))) = some r := H
          have A14 := Aside0.mk A140
          clear A140
          have HC15 := Aside0.mk H
          clear H
          go_enter Try.func10, Try.ntmps10
          go_upto_region 14 with (first | (go_at_call 39; (with_reducible refine (laws_toInt64S.calls k _ _ l1 t309 _ ?side1 ?side2 A5.out).mono ?_); (case side1 => exact au12_14); (case side2 => exact HC1.out); rintro e w16 ⟨v310, rfl, ho0, hb⟩; (try clear A5); have n0_ := Aside0.mk (Kd.R_lower ho0 (below_size bl_)); have n1_ := Aside0.mk (below_step bl_ hb); clear HB; have HO311 := n0_; have HB := n1_; clear n0_ n1_; (try clear hb); (try clear hb2); (try clear hk); (try clear hi); (try clear ho0); obtain ⟨Ao17, co17, eo17⟩ := Kd.R_slice HO311.out; subst eo17) | (go_at_call 38; (with_reducible refine (spec_PartnerRun.calls k a0 _ _ t309 t312 _ ?side1 ?side2 A6.out).mono ?_); (case side1 => exact au12_12); (case side2 => exact (Kd.R_reads' HO311.out).2.1); rintro e w18 ⟨v313, rfl, ho0, hb⟩; (try clear A6); have n0_ := Aside0.mk (Kd.R_elder' (rk_ HO311) (Kd.R_base ho0) hb); have n1_ := Aside0.mk (Kd.R_lower (Kd.R_new' ho0 (Kd.R_lt (rk_ HO311))) (below_size bl_)); have n2_ := Aside0.mk (below_step bl_ hb); clear HO311; clear HB; have HO311 := n0_; have HO314 := n1_; have HB := n2_; clear n0_ n1_ n2_; (try clear hb); (try clear hb2); (try clear hk); (try clear hi); (try clear ho0)) | (go_at_call 39; (with_reducible refine (laws_toInt64S.calls k _ _ l1 t315 _ ?side1 ?side2 A7.out).mono ?_); (case side1 => exact au12_13); (case side2 => exact HC1.out); rintro e w19 ⟨v316, rfl, ho0, hb⟩; (try clear A7); have n0_ := Aside0.mk (Kd.R_elder' (rk_ HO311) (Kd.R_base ho0) hb); have n1_ := Aside0.mk (Kd.R_elder' (rk_ HO314) (Kd.R_base ho0) hb); have n2_ := Aside0.mk (Kd.R_lower (Kd.R_new' (Kd.R_new' ho0 (Kd.R_lt (rk_ HO311))) (Kd.R_lt (rk_ HO314))) (below_size bl_)); have n3_ := Aside0.mk (below_step bl_ hb); clear HO311; clear HO314; clear HB; have HO311 := n0_; have HO314 := n1_; have HO317 := n2_; have HB := n3_; clear n0_ n1_ n2_ n3_; (try clear hb); (try clear hb2); (try clear hk); (try clear hi); (try clear ho0); obtain ⟨Ao20, co20, eo20⟩ := Kd.R_slice HO317.out; subst eo20) | (go_at_call 40; (with_reducible refine (impl_PartnerRun.calls k a0 _ _ t315 t318 _ ?side1 ?side2 A8.out).mono ?_); (case side1 => exact au12_6); (case side2 => exact au12_18); rintro e w21 ⟨v319, rfl, ho0, hb⟩; (try clear A8); have n0_ := Aside0.mk (Kd.R_elder' (rk_ HO311) (Kd.R_base ho0) hb); have n1_ := Aside0.mk (Kd.R_elder' (rk_ HO314) (Kd.R_base ho0) hb); have n2_ := Aside0.mk (Kd.R_elder' (rk_ HO317) (Kd.R_base ho0) hb); have n3_ := Aside0.mk (Kd.R_lower (Kd.R_new' (Kd.R_new' (Kd.R_new' ho0 (Kd.R_lt (rk_ HO311))) (Kd.R_lt (rk_ HO314))) (Kd.R_lt (rk_ HO317))) (below_size bl_)); have n4_ := Aside0.mk (below_step bl_ hb); clear HO311; clear HO314; clear HO317; clear HB; have HO311 := n0_; have HO314 := n1_; have HO317 := n2_; have HO320 := n3_; have HB := n4_; clear n0_ n1_ n2_ n3_ n4_; (try clear hb); (try clear hb2); (try clear hk); (try clear hi); (try clear ho0); obtain ⟨Ao22, co22, eo22⟩ := Kd.R_slice HO320.out; subst eo22; obtain ⟨Ao23, co23, eo23⟩ := Kd.R_slice HO314.out; subst eo23) | (go_at_call 41; (with_reducible refine (laws_eqInt64S.calls k _ _ t318 _ _ t312 true _ ?side1 ?side2 ?side3 ?side4 A9.out).mono ?_); (case side1 => exact au12_7); (case side2 => exact au12_19); (case side3 => exact au12_8); (case side4 => exact au12_20); rintro e w' ⟨rfl, ⟨nd, rfl⟩⟩; (try clear A9)) | (go_at_call 39; (with_reducible refine (laws_toInt64S.calls k _ _ l1 t322 _ ?side1 ?side2 A11.out).mono ?_); (case side1 => exact au12_2); (case side2 => exact HC1.out); rintro e w24 ⟨v323, rfl, ho0, hb⟩; (try clear A11); have n0_ := Aside0.mk (Kd.R_elder' (rk_ HO311) (Kd.R_base ho0) hb); have n1_ := Aside0.mk (Kd.R_elder' (rk_ HO314) (Kd.R_base ho0) hb); have n2_ := Aside0.mk (Kd.R_elder' (rk_ HO317) (Kd.R_base ho0) hb); have n3_ := Aside0.mk (Kd.R_elder' (rk_ HO320) (Kd.R_base ho0) hb); have n4_ := Aside0.mk (Kd.R_lower (Kd.R_new' (Kd.R_new' (Kd.R_new' (Kd.R_new' ho0 (Kd.R_lt (rk_ HO311))) (Kd.R_lt (rk_ HO314))) (Kd.R_lt (rk_ HO317))) (Kd.R_lt (rk_ HO320))) (below_size bl_)); have n5_ := Aside0.mk (below_step bl_ hb); clear HO311; clear HO314; clear HO317; clear HO320; clear HB; have HO311 := n0_; have HO314 := n1_; have HO317 := n2_; have HO320 := n3_; have HO324 := n4_; have HB := n5_; clear n0_ n1_ n2_ n3_ n4_ n5_; (try clear hb); (try clear hb2); (try clear hk); (try clear hi); (try clear ho0); obtain ⟨Ao25, co25, eo25⟩ := Kd.R_slice HO324.out; subst eo25) | (go_at_call 41; (with_reducible refine (laws_eqInt64S.calls k _ _ t315 _ _ t322 true _ ?side1 ?side2 ?side3 ?side4 A12.out).mono ?_); (case side1 => exact au12_6); (case side2 => exact au12_18); (case side3 => exact au12_15); (case side4 => exact (Kd.R_reads' HO324.out).2.1); rintro e w' ⟨rfl, ⟨nd, rfl⟩⟩; (try clear A12)) | (go_at_call 42; (with_reducible refine (laws_markInt64S.calls k (fun k_ => some k_ = (.slice Ao20 t315.length co20 : Value).ownBlock) (.slice Ao20 t315.length co20) t315 1 t326 t327 w _ ?side1 ?side2 A14.out).mono ?_); (case side1 => exact au12_4); (case side2 => exact Kd.R_tight rfl HO317.out); rintro e w26 ⟨rfl, hy0, hb, hkp⟩; (try clear A14); have n0_ := Aside0.mk (Kd.R_mono (ok' := fun k_ => some k_ ≠ (.slice Ao23 t312.length co23 : Value).ownBlock ∧ some k_ ≠ (.slice Ao20 t315.length co20 : Value).ownBlock ∧ some k_ ≠ (.slice Ao22 t318.length co22 : Value).ownBlock ∧ some k_ ≠ (.slice Ao25 t322.length co25 : Value).ownBlock) (Kd.R_keptB (HO311.out) hkp (fun k_ hk_ hs_ => (hk_.1.1.2) hs_)) (fun k_ hk_ => ⟨hk_.1.1.1.1.2, hk_.1.1.1.2, hk_.1.1.2, hk_.1.2⟩)); have n1_ := Aside0.mk (Kd.R_mono (ok' := fun k_ => some k_ ≠ (.slice Ao17 t309.length co17 : Value).ownBlock ∧ some k_ ≠ (.slice Ao20 t315.length co20 : Value).ownBlock ∧ some k_ ≠ (.slice Ao22 t318.length co22 : Value).ownBlock ∧ some k_ ≠ (.slice Ao25 t322.length co25 : Value).ownBlock) (Kd.R_keptB (HO314.out) hkp (fun k_ hk_ hs_ => (hk_.1.1.2) hs_)) (fun k_ hk_ => ⟨hk_.1.1.1.1.2, hk_.1.1.1.2, hk_.1.1.2, hk_.1.2⟩)); have n2_ := Aside0.mk (Kd.R_reok rfl hy0 (fun k_ e_ => HO317.out.1 k_ e_)); have n3_ := Aside0.mk (Kd.R_mono (ok' := fun k_ => some k_ ≠ (.slice Ao17 t309.length co17 : Value).ownBlock ∧ some k_ ≠ (.slice Ao23 t312.length co23 : Value).ownBlock ∧ some k_ ≠ (.slice Ao20 t315.length co20 : Value).ownBlock ∧ some k_ ≠ (.slice Ao25 t322.length co25 : Value).ownBlock) (Kd.R_keptB (HO320.out) hkp (fun k_ hk_ hs_ => (hk_.1.2) hs_)) (fun k_ hk_ => ⟨hk_.1.1.1.1.2, hk_.1.1.1.2, hk_.1.1.2, hk_.1.2⟩)); have n4_ := Aside0.mk (Kd.R_mono (ok' := fun k_ => some k_ ≠ (.slice Ao17 t309.length co17 : Value).ownBlock ∧ some k_ ≠ (.slice Ao23 t312.length co23 : Value).ownBlock ∧ some k_ ≠ (.slice Ao20 t315.length co20 : Value).ownBlock ∧ some k_ ≠ (.slice Ao22 t318.length co22 : Value).ownBlock) (Kd.R_keptB (HO324.out) hkp (fun k_ hk_ hs_ => (hk_.1.2) hs_)) (fun k_ hk_ => ⟨hk_.1.1.1.1.2, hk_.1.1.1.2, hk_.1.1.2, hk_.1.2⟩)); have n5_ := Aside0.mk (hb); clear HO311; clear HO314; clear HO317; clear HO320; clear HO324; clear HB; have HO311 := n0_; have HO314 := n1_; have HO317 := n2_; have HO320 := n3_; have HO324 := n4_; have HB := n5_; clear n0_ n1_ n2_ n3_ n4_ n5_; (try clear hb); (try clear hkp); (try clear hy0)))
          (try simp only [Act.put, List.setIfInBounds_toArray, List.set_cons_zero, List.set_cons_succ])
          go_cut [46] (fun v46 wc => ∃ (kq : Nat) (x46_14 : Bool), v46 = .bool x46_14 ∧ Aside0 (laws_FnExactPartnerRun.j0 kq a0 l1 t312 t318 x46_14 = some r) ∧ Aside0 (kq ≤ k) ∧ Aside0 (Kd.R (Kd.int .i64) 2 wc w.heap.size (fun k_ => some k_ ≠ ((.slice Ao22 t318.length co22) : Value).ownBlock) (.slice Ao23 t312.length co23) t312) ∧ Aside0 (Kd.R (Kd.int .i64) 2 wc w.heap.size (fun k_ => some k_ ≠ ((.slice Ao23 t312.length co23) : Value).ownBlock) (.slice Ao22 t318.length co22) t318) ∧ Aside0 (Below w.heap.size w wc))
          case first =>
            have H := HC15.out
            clear HC15
            by_cases c27 : t326 < 0
            · rw [if_pos c27] at H
              have c27b0 : decide (t326 < 0) = true := decide_eq_true c27
              clear c27
              (first | rw [c27b0] | (simp only [i64_w, i32_w]; rw [c27b0]) | skip)
              have H' := Aside0.mk H
              clear H
              go_wp2
              go_meet
              case rel => exact ⟨_, (true), er_, H', ⟨by first | omega | exact Nat.le_refl _⟩, ⟨au12_16⟩, ⟨au12_17⟩, ⟨bl_⟩⟩
            · rw [if_neg c27] at H
              have c27b0 : decide (t326 < 0) = false := decide_eq_false c27
              clear c27
              (first | rw [c27b0] | (simp only [i64_w, i32_w]; rw [c27b0]) | skip)
              replace H := Option.bind_eq_some_iff.mp H
              obtain ⟨t328, A280, H⟩ := H
              replace H : (laws_FnExactPartnerRun.j0 k a0 l1 t312 t318 (!t328)) = some r := H
              have A28 := Aside0.mk A280
              clear A280
              have H' := Aside0.mk H
              clear H
              go_wp2_with (first | (go_at_call 41; (with_reducible refine (laws_eqInt64S.calls k _ _ t318 _ _ t312 t328 _ ?side1 ?side2 ?side3 ?side4 A28.out).mono ?_); (case side1 => exact au12_7); (case side2 => exact au12_19); (case side3 => exact au12_8); (case side4 => exact au12_20); rintro e w' ⟨rfl, ⟨nd, rfl⟩⟩; (try clear A28)))
              go_meet
              case rel => exact ⟨_, (!t328), er_, H', ⟨by first | omega | exact Nat.le_refl _⟩, ⟨au12_16⟩, ⟨au12_17⟩, ⟨bl_⟩⟩
          case rest =>
            clear HC15
            try clear c1
            try clear c2
            try clear p2
            try clear c3
            try clear c3b0
            try clear c3b1
            try clear c4
            try clear c4b0
            try clear c4b1
            try clear c10
            try clear c13
            try clear c27
            try clear c27b0
            obtain ⟨kq, x46_14, rfl, HA, HJ14, HO_5, HO_7, HB⟩ := hcut
            cases kq with
            | zero => exact absurd HA.out (by simp [laws_FnExactPartnerRun.j0])
            | succ kj14 =>
              have H := HA.out
              clear HA
              simp only [laws_FnExactPartnerRun.j0] at H
              by_cases c29 : x46_14 = true
              · subst c29
                have H1 : (some false) = some r := by rw [if_pos rfl] at H; exact H
                clear H
                have H := H1
                clear H1
                obtain rfl := Option.some.inj H
                go_wp2
                go_ret
                exact ⟨au12_1, bl_⟩
              · replace c29 := Bool.eq_false_iff.mpr c29
                subst c29
                have H1 : ((laws_markInt64S.f kj14 t318 1).bind fun bt329 => ((laws_heldInt64S.f kj14 bt329.2 1).bind fun t331 => (if t331 < 0 then (some false) else (if t331 = bt329.1 then ((laws_toInt64S.f kj14 l1).bind fun t332 => ((impl_PartnerRun.f kj14 a0 t332).bind fun t335 => ((laws_eqInt64S.f kj14 t335 t312).bind fun t338 => (if t338 = true then ((laws_heldInt64S.f kj14 bt329.2 1).bind fun t339 => (if t339 < 0 then (some false) else (if t339 = bt329.1 then (some true) else (some false)))) else (some false))))) else (some false))))) = some r := by rw [if_neg (show ¬ (false = true) by decide)] at H; exact H
                clear H
                have H := H1
                clear H1
                replace H := Option.bind_eq_some_iff.mp H
                obtain ⟨⟨t329, t330⟩, A300, H⟩ := H
                replace H : ((laws_heldInt64S.f kj14 t330 1).bind fun t331 => (if t331 < 0 then (some false) else (if t331 = t329 then ((laws_toInt64S.f kj14 l1).bind fun t332 => ((impl_PartnerRun.f kj14 a0 t332).bind fun t335 => ((laws_eqInt64S.f kj14 t335 t312).bind fun t338 => (if t338 = true then ((laws_heldInt64S.f kj14 t330 1).bind fun t339 => (if t339 < 0 then (some false) else (if t339 = t329 then (some true) else (some false)))) else (some false))))) else (some false)))) = some r := H
                have A30 := Aside0.mk A300
                clear A300
                replace H := Option.bind_eq_some_iff.mp H
                obtain ⟨t331, A310, H⟩ := H
                replace H : (if t331 < 0 then (some false) else (if t331 = t329 then ((laws_toInt64S.f kj14 l1).bind fun t332 => ((impl_PartnerRun.f kj14 a0 t332).bind fun t335 => ((laws_eqInt64S.f kj14 t335 t312).bind fun t338 => (if t338 = true then ((laws_heldInt64S.f kj14 t330 1).bind fun t339 => (if t339 < 0 then (some false) else (if t339 = t329 then (some true) else (some false)))) else (some false))))) else (some false))) = some r := H
                have A31 := Aside0.mk A310
                clear A310
                by_cases c32 : t331 < 0
                · rw [if_pos c32] at H
                  have c32b0 : decide (t331 < 0) = true := decide_eq_true c32
                  clear c32
                  obtain rfl := Option.some.inj H
                  go_wp2_with (first | (go_at_call 42; (with_reducible refine (laws_markInt64S.calls kj14 (fun k_ => some k_ = (.slice Ao22 t318.length co22 : Value).ownBlock) (.slice Ao22 t318.length co22) t318 1 t329 t330 w _ ?side1 ?side2 A30.out).mono ?_); (case side1 => exact au12_4); (case side2 => exact Kd.R_tight rfl HO_7.out); rintro e w33 ⟨rfl, hy0, hb, hkp⟩; (try clear A30); have n0_ := Aside0.mk (Kd.R_mono (ok' := fun k_ => some k_ ≠ (.slice Ao22 t318.length co22 : Value).ownBlock) (Kd.R_keptB (HO_5.out) hkp (fun k_ hk_ hs_ => (hk_) hs_)) (fun k_ hk_ => hk_.1)); have n1_ := Aside0.mk (Kd.R_reok rfl hy0 (fun k_ e_ => HO_7.out.1 k_ e_)); have n2_ := Aside0.mk (hb); clear HO_5; clear HO_7; clear HB; have HO_5 := n0_; have HO_7 := n1_; have HB := n2_; clear n0_ n1_ n2_; (try clear hb); (try clear hkp); (try clear hy0)) | (go_at_call 43; refine calls_of_args (args' := #[.slice Ao22 t330.length co22, .int .i64 1]) au12_5 ?_; (with_reducible refine (laws_heldInt64S.calls kj14 _ _ t330 1 t331 _ ?side1 ?side2 A31.out).mono ?_); (case side1 => exact au12_0); (case side2 => exact au12_3); rintro e w' ⟨rfl, ⟨nd, rfl⟩⟩; (try clear A31)))
                  go_ret
                  exact ⟨au12_1, bl_⟩
                · rw [if_neg c32] at H
                  have c32b0 : decide (t331 < 0) = false := decide_eq_false c32
                  clear c32
                  by_cases c34 : t331 = t329
                  · rw [if_pos c34] at H
                    have c34b0 : (t331 == t329) = true := beq_iff_eq.mpr c34
                    have c34b1 : (t331 != t329) = false := bne_eq_false_iff_eq.mpr c34
                    clear c34
                    replace H := Option.bind_eq_some_iff.mp H
                    obtain ⟨t332, A350, H⟩ := H
                    replace H : ((impl_PartnerRun.f kj14 a0 t332).bind fun t335 => ((laws_eqInt64S.f kj14 t335 t312).bind fun t338 => (if t338 = true then ((laws_heldInt64S.f kj14 t330 1).bind fun t339 => (if t339 < 0 then (some false) else (if t339 = t329 then (some true) else (some false)))) else (some false)))) = some r := H
                    have A35 := Aside0.mk A350
                    clear A350
                    replace H := Option.bind_eq_some_iff.mp H
                    obtain ⟨t335, A360, H⟩ := H
                    replace H : ((laws_eqInt64S.f kj14 t335 t312).bind fun t338 => (if t338 = true then ((laws_heldInt64S.f kj14 t330 1).bind fun t339 => (if t339 < 0 then (some false) else (if t339 = t329 then (some true) else (some false)))) else (some false))) = some r := H
                    have A36 := Aside0.mk A360
                    clear A360
                    replace H := Option.bind_eq_some_iff.mp H
                    obtain ⟨t338, A370, H⟩ := H
                    replace H : (if t338 = true then ((laws_heldInt64S.f kj14 t330 1).bind fun t339 => (if t339 < 0 then (some false) else (if t339 = t329 then (some true) else (some false)))) else (some false)) = some r := H
                    have A37 := Aside0.mk A370
                    clear A370
                    by_cases c38 : t338 = true
                    · subst c38
                      have H1 : ((laws_heldInt64S.f kj14 t330 1).bind fun t339 => (if t339 < 0 then (some false) else (if t339 = t329 then (some true) else (some false)))) = some r := by rw [if_pos rfl] at H; exact H
                      clear H
                      have H := H1
                      clear H1
                      replace H := Option.bind_eq_some_iff.mp H
                      obtain ⟨t339, A390, H⟩ := H
                      replace H : (if t339 < 0 then (some false) else (if t339 = t329 then (some true) else (some false))) = some r := H
                      have A39 := Aside0.mk A390
                      clear A390
                      by_cases c40 : t339 < 0
                      · rw [if_pos c40] at H
                        have c40b0 : decide (t339 < 0) = true := decide_eq_true c40
                        clear c40
                        obtain rfl := Option.some.inj H
                        go_wp2_with (first | (go_at_call 42; (with_reducible refine (laws_markInt64S.calls kj14 (fun k_ => some k_ = (.slice Ao22 t318.length co22 : Value).ownBlock) (.slice Ao22 t318.length co22) t318 1 t329 t330 w _ ?side1 ?side2 A30.out).mono ?_); (case side1 => exact au12_4); (case side2 => exact Kd.R_tight rfl HO_7.out); rintro e w41 ⟨rfl, hy0, hb, hkp⟩; (try clear A30); have n0_ := Aside0.mk (Kd.R_mono (ok' := fun k_ => some k_ ≠ (.slice Ao22 t318.length co22 : Value).ownBlock) (Kd.R_keptB (HO_5.out) hkp (fun k_ hk_ hs_ => (hk_) hs_)) (fun k_ hk_ => hk_.1)); have n1_ := Aside0.mk (Kd.R_reok rfl hy0 (fun k_ e_ => HO_7.out.1 k_ e_)); have n2_ := Aside0.mk (hb); clear HO_5; clear HO_7; clear HB; have HO_5 := n0_; have HO_7 := n1_; have HB := n2_; clear n0_ n1_ n2_; (try clear hb); (try clear hkp); (try clear hy0)) | (go_at_call 43; refine calls_of_args (args' := #[.slice Ao22 t330.length co22, .int .i64 1]) au12_5 ?_; (with_reducible refine (laws_heldInt64S.calls kj14 _ _ t330 1 t331 _ ?side1 ?side2 A31.out).mono ?_); (case side1 => exact au12_0); (case side2 => exact au12_3); rintro e w' ⟨rfl, ⟨nd, rfl⟩⟩; (try clear A31)) | (go_at_call 39; (with_reducible refine (laws_toInt64S.calls kj14 _ _ l1 t332 _ ?side1 ?side2 A35.out).mono ?_); (case side1 => exact au12_2); (case side2 => exact HC1.out); rintro e w42 ⟨v333, rfl, ho0, hb⟩; (try clear A35); have n0_ := Aside0.mk (Kd.R_elder' (rk_ HO_5) (Kd.R_base ho0) hb); have n1_ := Aside0.mk (Kd.R_elder' (rk_ HO_7) (Kd.R_base ho0) hb); have n2_ := Aside0.mk (Kd.R_lower (Kd.R_new' (Kd.R_new' ho0 (Kd.R_lt (rk_ HO_5))) (Kd.R_lt (rk_ HO_7))) (below_size bl_)); have n3_ := Aside0.mk (below_step bl_ hb); clear HO_5; clear HO_7; clear HB; have HO_5 := n0_; have HO_7 := n1_; have HO334 := n2_; have HB := n3_; clear n0_ n1_ n2_ n3_; (try clear hb); (try clear hb2); (try clear hk); (try clear hi); (try clear ho0); obtain ⟨Ao43, co43, eo43⟩ := Kd.R_slice HO334.out; subst eo43) | (go_at_call 40; (with_reducible refine (impl_PartnerRun.calls kj14 a0 _ _ t332 t335 _ ?side1 ?side2 A36.out).mono ?_); (case side1 => exact au12_9); (case side2 => exact au12_21); rintro e w44 ⟨v336, rfl, ho0, hb⟩; (try clear A36); have n0_ := Aside0.mk (Kd.R_elder' (rk_ HO_5) (Kd.R_base ho0) hb); have n1_ := Aside0.mk (Kd.R_elder' (rk_ HO_7) (Kd.R_base ho0) hb); have n2_ := Aside0.mk (Kd.R_elder' (rk_ HO334) (Kd.R_base ho0) hb); have n3_ := Aside0.mk (Kd.R_lower (Kd.R_new' (Kd.R_new' (Kd.R_new' ho0 (Kd.R_lt (rk_ HO_5))) (Kd.R_lt (rk_ HO_7))) (Kd.R_lt (rk_ HO334))) (below_size bl_)); have n4_ := Aside0.mk (below_step bl_ hb); clear HO_5; clear HO_7; clear HO334; clear HB; have HO_5 := n0_; have HO_7 := n1_; have HO334 := n2_; have HO337 := n3_; have HB := n4_; clear n0_ n1_ n2_ n3_ n4_; (try clear hb); (try clear hb2); (try clear hk); (try clear hi); (try clear ho0); obtain ⟨Ao45, co45, eo45⟩ := Kd.R_slice HO337.out; subst eo45) | (go_at_call 41; (with_reducible refine (laws_eqInt64S.calls kj14 _ _ t335 _ _ t312 true _ ?side1 ?side2 ?side3 ?side4 A37.out).mono ?_); (case side1 => exact au12_10); (case side2 => exact au12_22); (case side3 => exact au12_11); (case side4 => exact au12_23); rintro e w' ⟨rfl, ⟨nd, rfl⟩⟩; (try clear A37)) | (go_at_call 43; refine calls_of_args (args' := #[.slice Ao22 t330.length co22, .int .i64 1]) au12_5 ?_; (with_reducible refine (laws_heldInt64S.calls kj14 _ _ t330 1 t339 _ ?side1 ?side2 A39.out).mono ?_); (case side1 => exact au12_0); (case side2 => exact au12_3); rintro e w' ⟨rfl, ⟨nd, rfl⟩⟩; (try clear A39)))
                        go_ret
                        exact ⟨au12_1, bl_⟩
                      · rw [if_neg c40] at H
                        have c40b0 : decide (t339 < 0) = false := decide_eq_false c40
                        clear c40
                        by_cases c46 : t339 = t329
                        · rw [if_pos c46] at H
                          have c46b0 : (t339 == t329) = true := beq_iff_eq.mpr c46
                          have c46b1 : (t339 != t329) = false := bne_eq_false_iff_eq.mpr c46
                          clear c46
                          obtain rfl := Option.some.inj H
                          go_wp2_with (first | (go_at_call 42; (with_reducible refine (laws_markInt64S.calls kj14 (fun k_ => some k_ = (.slice Ao22 t318.length co22 : Value).ownBlock) (.slice Ao22 t318.length co22) t318 1 t329 t330 w _ ?side1 ?side2 A30.out).mono ?_); (case side1 => exact au12_4); (case side2 => exact Kd.R_tight rfl HO_7.out); rintro e w47 ⟨rfl, hy0, hb, hkp⟩; (try clear A30); have n0_ := Aside0.mk (Kd.R_mono (ok' := fun k_ => some k_ ≠ (.slice Ao22 t318.length co22 : Value).ownBlock) (Kd.R_keptB (HO_5.out) hkp (fun k_ hk_ hs_ => (hk_) hs_)) (fun k_ hk_ => hk_.1)); have n1_ := Aside0.mk (Kd.R_reok rfl hy0 (fun k_ e_ => HO_7.out.1 k_ e_)); have n2_ := Aside0.mk (hb); clear HO_5; clear HO_7; clear HB; have HO_5 := n0_; have HO_7 := n1_; have HB := n2_; clear n0_ n1_ n2_; (try clear hb); (try clear hkp); (try clear hy0)) | (go_at_call 43; refine calls_of_args (args' := #[.slice Ao22 t330.length co22, .int .i64 1]) au12_5 ?_; (with_reducible refine (laws_heldInt64S.calls kj14 _ _ t330 1 t331 _ ?side1 ?side2 A31.out).mono ?_); (case side1 => exact au12_0); (case side2 => exact au12_3); rintro e w' ⟨rfl, ⟨nd, rfl⟩⟩; (try clear A31)) | (go_at_call 39; (with_reducible refine (laws_toInt64S.calls kj14 _ _ l1 t332 _ ?side1 ?side2 A35.out).mono ?_); (case side1 => exact au12_2); (case side2 => exact HC1.out); rintro e w48 ⟨v333, rfl, ho0, hb⟩; (try clear A35); have n0_ := Aside0.mk (Kd.R_elder' (rk_ HO_5) (Kd.R_base ho0) hb); have n1_ := Aside0.mk (Kd.R_elder' (rk_ HO_7) (Kd.R_base ho0) hb); have n2_ := Aside0.mk (Kd.R_lower (Kd.R_new' (Kd.R_new' ho0 (Kd.R_lt (rk_ HO_5))) (Kd.R_lt (rk_ HO_7))) (below_size bl_)); have n3_ := Aside0.mk (below_step bl_ hb); clear HO_5; clear HO_7; clear HB; have HO_5 := n0_; have HO_7 := n1_; have HO334 := n2_; have HB := n3_; clear n0_ n1_ n2_ n3_; (try clear hb); (try clear hb2); (try clear hk); (try clear hi); (try clear ho0); obtain ⟨Ao49, co49, eo49⟩ := Kd.R_slice HO334.out; subst eo49) | (go_at_call 40; (with_reducible refine (impl_PartnerRun.calls kj14 a0 _ _ t332 t335 _ ?side1 ?side2 A36.out).mono ?_); (case side1 => exact au12_9); (case side2 => exact au12_21); rintro e w50 ⟨v336, rfl, ho0, hb⟩; (try clear A36); have n0_ := Aside0.mk (Kd.R_elder' (rk_ HO_5) (Kd.R_base ho0) hb); have n1_ := Aside0.mk (Kd.R_elder' (rk_ HO_7) (Kd.R_base ho0) hb); have n2_ := Aside0.mk (Kd.R_elder' (rk_ HO334) (Kd.R_base ho0) hb); have n3_ := Aside0.mk (Kd.R_lower (Kd.R_new' (Kd.R_new' (Kd.R_new' ho0 (Kd.R_lt (rk_ HO_5))) (Kd.R_lt (rk_ HO_7))) (Kd.R_lt (rk_ HO334))) (below_size bl_)); have n4_ := Aside0.mk (below_step bl_ hb); clear HO_5; clear HO_7; clear HO334; clear HB; have HO_5 := n0_; have HO_7 := n1_; have HO334 := n2_; have HO337 := n3_; have HB := n4_; clear n0_ n1_ n2_ n3_ n4_; (try clear hb); (try clear hb2); (try clear hk); (try clear hi); (try clear ho0); obtain ⟨Ao51, co51, eo51⟩ := Kd.R_slice HO337.out; subst eo51) | (go_at_call 41; (with_reducible refine (laws_eqInt64S.calls kj14 _ _ t335 _ _ t312 true _ ?side1 ?side2 ?side3 ?side4 A37.out).mono ?_); (case side1 => exact au12_10); (case side2 => exact au12_22); (case side3 => exact au12_11); (case side4 => exact au12_23); rintro e w' ⟨rfl, ⟨nd, rfl⟩⟩; (try clear A37)) | (go_at_call 43; refine calls_of_args (args' := #[.slice Ao22 t330.length co22, .int .i64 1]) au12_5 ?_; (with_reducible refine (laws_heldInt64S.calls kj14 _ _ t330 1 t339 _ ?side1 ?side2 A39.out).mono ?_); (case side1 => exact au12_0); (case side2 => exact au12_3); rintro e w' ⟨rfl, ⟨nd, rfl⟩⟩; (try clear A39)))
                          go_ret
                          exact ⟨au12_1, bl_⟩
                        · rw [if_neg c46] at H
                          have c46b0 : (t339 == t329) = false := beq_eq_false_iff_ne.mpr c46
                          have c46b1 : (t339 != t329) = true := bne_iff_ne.mpr c46
                          obtain rfl := Option.some.inj H
                          go_wp2_with (first | (go_at_call 42; (with_reducible refine (laws_markInt64S.calls kj14 (fun k_ => some k_ = (.slice Ao22 t318.length co22 : Value).ownBlock) (.slice Ao22 t318.length co22) t318 1 t329 t330 w _ ?side1 ?side2 A30.out).mono ?_); (case side1 => exact au12_4); (case side2 => exact Kd.R_tight rfl HO_7.out); rintro e w52 ⟨rfl, hy0, hb, hkp⟩; (try clear A30); have n0_ := Aside0.mk (Kd.R_mono (ok' := fun k_ => some k_ ≠ (.slice Ao22 t318.length co22 : Value).ownBlock) (Kd.R_keptB (HO_5.out) hkp (fun k_ hk_ hs_ => (hk_) hs_)) (fun k_ hk_ => hk_.1)); have n1_ := Aside0.mk (Kd.R_reok rfl hy0 (fun k_ e_ => HO_7.out.1 k_ e_)); have n2_ := Aside0.mk (hb); clear HO_5; clear HO_7; clear HB; have HO_5 := n0_; have HO_7 := n1_; have HB := n2_; clear n0_ n1_ n2_; (try clear hb); (try clear hkp); (try clear hy0)) | (go_at_call 43; refine calls_of_args (args' := #[.slice Ao22 t330.length co22, .int .i64 1]) au12_5 ?_; (with_reducible refine (laws_heldInt64S.calls kj14 _ _ t330 1 t331 _ ?side1 ?side2 A31.out).mono ?_); (case side1 => exact au12_0); (case side2 => exact au12_3); rintro e w' ⟨rfl, ⟨nd, rfl⟩⟩; (try clear A31)) | (go_at_call 39; (with_reducible refine (laws_toInt64S.calls kj14 _ _ l1 t332 _ ?side1 ?side2 A35.out).mono ?_); (case side1 => exact au12_2); (case side2 => exact HC1.out); rintro e w53 ⟨v333, rfl, ho0, hb⟩; (try clear A35); have n0_ := Aside0.mk (Kd.R_elder' (rk_ HO_5) (Kd.R_base ho0) hb); have n1_ := Aside0.mk (Kd.R_elder' (rk_ HO_7) (Kd.R_base ho0) hb); have n2_ := Aside0.mk (Kd.R_lower (Kd.R_new' (Kd.R_new' ho0 (Kd.R_lt (rk_ HO_5))) (Kd.R_lt (rk_ HO_7))) (below_size bl_)); have n3_ := Aside0.mk (below_step bl_ hb); clear HO_5; clear HO_7; clear HB; have HO_5 := n0_; have HO_7 := n1_; have HO334 := n2_; have HB := n3_; clear n0_ n1_ n2_ n3_; (try clear hb); (try clear hb2); (try clear hk); (try clear hi); (try clear ho0); obtain ⟨Ao54, co54, eo54⟩ := Kd.R_slice HO334.out; subst eo54) | (go_at_call 40; (with_reducible refine (impl_PartnerRun.calls kj14 a0 _ _ t332 t335 _ ?side1 ?side2 A36.out).mono ?_); (case side1 => exact au12_9); (case side2 => exact au12_21); rintro e w55 ⟨v336, rfl, ho0, hb⟩; (try clear A36); have n0_ := Aside0.mk (Kd.R_elder' (rk_ HO_5) (Kd.R_base ho0) hb); have n1_ := Aside0.mk (Kd.R_elder' (rk_ HO_7) (Kd.R_base ho0) hb); have n2_ := Aside0.mk (Kd.R_elder' (rk_ HO334) (Kd.R_base ho0) hb); have n3_ := Aside0.mk (Kd.R_lower (Kd.R_new' (Kd.R_new' (Kd.R_new' ho0 (Kd.R_lt (rk_ HO_5))) (Kd.R_lt (rk_ HO_7))) (Kd.R_lt (rk_ HO334))) (below_size bl_)); have n4_ := Aside0.mk (below_step bl_ hb); clear HO_5; clear HO_7; clear HO334; clear HB; have HO_5 := n0_; have HO_7 := n1_; have HO334 := n2_; have HO337 := n3_; have HB := n4_; clear n0_ n1_ n2_ n3_ n4_; (try clear hb); (try clear hb2); (try clear hk); (try clear hi); (try clear ho0); obtain ⟨Ao56, co56, eo56⟩ := Kd.R_slice HO337.out; subst eo56) | (go_at_call 41; (with_reducible refine (laws_eqInt64S.calls kj14 _ _ t335 _ _ t312 true _ ?side1 ?side2 ?side3 ?side4 A37.out).mono ?_); (case side1 => exact au12_10); (case side2 => exact au12_22); (case side3 => exact au12_11); (case side4 => exact au12_23); rintro e w' ⟨rfl, ⟨nd, rfl⟩⟩; (try clear A37)) | (go_at_call 43; refine calls_of_args (args' := #[.slice Ao22 t330.length co22, .int .i64 1]) au12_5 ?_; (with_reducible refine (laws_heldInt64S.calls kj14 _ _ t330 1 t339 _ ?side1 ?side2 A39.out).mono ?_); (case side1 => exact au12_0); (case side2 => exact au12_3); rintro e w' ⟨rfl, ⟨nd, rfl⟩⟩; (try clear A39)))
                          go_ret
                          exact ⟨au12_1, bl_⟩
                    · replace c38 := Bool.eq_false_iff.mpr c38
                      subst c38
                      have H1 : (some false) = some r := by rw [if_neg (show ¬ (false = true) by decide)] at H; exact H
                      clear H
                      have H := H1
                      clear H1
                      obtain rfl := Option.some.inj H
                      go_wp2_with (first | (go_at_call 42; (with_reducible refine (laws_markInt64S.calls kj14 (fun k_ => some k_ = (.slice Ao22 t318.length co22 : Value).ownBlock) (.slice Ao22 t318.length co22) t318 1 t329 t330 w _ ?side1 ?side2 A30.out).mono ?_); (case side1 => exact au12_4); (case side2 => exact Kd.R_tight rfl HO_7.out); rintro e w57 ⟨rfl, hy0, hb, hkp⟩; (try clear A30); have n0_ := Aside0.mk (Kd.R_mono (ok' := fun k_ => some k_ ≠ (.slice Ao22 t318.length co22 : Value).ownBlock) (Kd.R_keptB (HO_5.out) hkp (fun k_ hk_ hs_ => (hk_) hs_)) (fun k_ hk_ => hk_.1)); have n1_ := Aside0.mk (Kd.R_reok rfl hy0 (fun k_ e_ => HO_7.out.1 k_ e_)); have n2_ := Aside0.mk (hb); clear HO_5; clear HO_7; clear HB; have HO_5 := n0_; have HO_7 := n1_; have HB := n2_; clear n0_ n1_ n2_; (try clear hb); (try clear hkp); (try clear hy0)) | (go_at_call 43; refine calls_of_args (args' := #[.slice Ao22 t330.length co22, .int .i64 1]) au12_5 ?_; (with_reducible refine (laws_heldInt64S.calls kj14 _ _ t330 1 t331 _ ?side1 ?side2 A31.out).mono ?_); (case side1 => exact au12_0); (case side2 => exact au12_3); rintro e w' ⟨rfl, ⟨nd, rfl⟩⟩; (try clear A31)) | (go_at_call 39; (with_reducible refine (laws_toInt64S.calls kj14 _ _ l1 t332 _ ?side1 ?side2 A35.out).mono ?_); (case side1 => exact au12_2); (case side2 => exact HC1.out); rintro e w58 ⟨v333, rfl, ho0, hb⟩; (try clear A35); have n0_ := Aside0.mk (Kd.R_elder' (rk_ HO_5) (Kd.R_base ho0) hb); have n1_ := Aside0.mk (Kd.R_elder' (rk_ HO_7) (Kd.R_base ho0) hb); have n2_ := Aside0.mk (Kd.R_lower (Kd.R_new' (Kd.R_new' ho0 (Kd.R_lt (rk_ HO_5))) (Kd.R_lt (rk_ HO_7))) (below_size bl_)); have n3_ := Aside0.mk (below_step bl_ hb); clear HO_5; clear HO_7; clear HB; have HO_5 := n0_; have HO_7 := n1_; have HO334 := n2_; have HB := n3_; clear n0_ n1_ n2_ n3_; (try clear hb); (try clear hb2); (try clear hk); (try clear hi); (try clear ho0); obtain ⟨Ao59, co59, eo59⟩ := Kd.R_slice HO334.out; subst eo59) | (go_at_call 40; (with_reducible refine (impl_PartnerRun.calls kj14 a0 _ _ t332 t335 _ ?side1 ?side2 A36.out).mono ?_); (case side1 => exact au12_9); (case side2 => exact au12_21); rintro e w60 ⟨v336, rfl, ho0, hb⟩; (try clear A36); have n0_ := Aside0.mk (Kd.R_elder' (rk_ HO_5) (Kd.R_base ho0) hb); have n1_ := Aside0.mk (Kd.R_elder' (rk_ HO_7) (Kd.R_base ho0) hb); have n2_ := Aside0.mk (Kd.R_elder' (rk_ HO334) (Kd.R_base ho0) hb); have n3_ := Aside0.mk (Kd.R_lower (Kd.R_new' (Kd.R_new' (Kd.R_new' ho0 (Kd.R_lt (rk_ HO_5))) (Kd.R_lt (rk_ HO_7))) (Kd.R_lt (rk_ HO334))) (below_size bl_)); have n4_ := Aside0.mk (below_step bl_ hb); clear HO_5; clear HO_7; clear HO334; clear HB; have HO_5 := n0_; have HO_7 := n1_; have HO334 := n2_; have HO337 := n3_; have HB := n4_; clear n0_ n1_ n2_ n3_ n4_; (try clear hb); (try clear hb2); (try clear hk); (try clear hi); (try clear ho0); obtain ⟨Ao61, co61, eo61⟩ := Kd.R_slice HO337.out; subst eo61) | (go_at_call 41; (with_reducible refine (laws_eqInt64S.calls kj14 _ _ t335 _ _ t312 false _ ?side1 ?side2 ?side3 ?side4 A37.out).mono ?_); (case side1 => exact au12_10); (case side2 => exact au12_22); (case side3 => exact au12_11); (case side4 => exact au12_23); rintro e w' ⟨rfl, ⟨nd, rfl⟩⟩; (try clear A37)))
                      go_ret
                      exact ⟨au12_1, bl_⟩
                  · rw [if_neg c34] at H
                    have c34b0 : (t331 == t329) = false := beq_eq_false_iff_ne.mpr c34
                    have c34b1 : (t331 != t329) = true := bne_iff_ne.mpr c34
                    obtain rfl := Option.some.inj H
                    go_wp2_with (first | (go_at_call 42; (with_reducible refine (laws_markInt64S.calls kj14 (fun k_ => some k_ = (.slice Ao22 t318.length co22 : Value).ownBlock) (.slice Ao22 t318.length co22) t318 1 t329 t330 w _ ?side1 ?side2 A30.out).mono ?_); (case side1 => exact au12_4); (case side2 => exact Kd.R_tight rfl HO_7.out); rintro e w62 ⟨rfl, hy0, hb, hkp⟩; (try clear A30); have n0_ := Aside0.mk (Kd.R_mono (ok' := fun k_ => some k_ ≠ (.slice Ao22 t318.length co22 : Value).ownBlock) (Kd.R_keptB (HO_5.out) hkp (fun k_ hk_ hs_ => (hk_) hs_)) (fun k_ hk_ => hk_.1)); have n1_ := Aside0.mk (Kd.R_reok rfl hy0 (fun k_ e_ => HO_7.out.1 k_ e_)); have n2_ := Aside0.mk (hb); clear HO_5; clear HO_7; clear HB; have HO_5 := n0_; have HO_7 := n1_; have HB := n2_; clear n0_ n1_ n2_; (try clear hb); (try clear hkp); (try clear hy0)) | (go_at_call 43; refine calls_of_args (args' := #[.slice Ao22 t330.length co22, .int .i64 1]) au12_5 ?_; (with_reducible refine (laws_heldInt64S.calls kj14 _ _ t330 1 t331 _ ?side1 ?side2 A31.out).mono ?_); (case side1 => exact au12_0); (case side2 => exact au12_3); rintro e w' ⟨rfl, ⟨nd, rfl⟩⟩; (try clear A31)))
                    go_ret
                    exact ⟨au12_1, bl_⟩
        · replace c13 := Bool.eq_false_iff.mpr c13
          subst c13
          have H1 : (some false) = some r := by rw [if_neg (show ¬ (false = true) by decide)] at H; exact H
          clear H
          have H := H1
          clear H1
          obtain rfl := Option.some.inj H
          go_enter Try.func10, Try.ntmps10
          go_wp2_with (first | (go_at_call 39; (with_reducible refine (laws_toInt64S.calls k _ _ l1 t309 _ ?side1 ?side2 A5.out).mono ?_); (case side1 => exact au12_14); (case side2 => exact HC1.out); rintro e w63 ⟨v310, rfl, ho0, hb⟩; (try clear A5); have n0_ := Aside0.mk (Kd.R_lower ho0 (below_size bl_)); have n1_ := Aside0.mk (below_step bl_ hb); clear HB; have HO311 := n0_; have HB := n1_; clear n0_ n1_; (try clear hb); (try clear hb2); (try clear hk); (try clear hi); (try clear ho0); obtain ⟨Ao64, co64, eo64⟩ := Kd.R_slice HO311.out; subst eo64) | (go_at_call 38; (with_reducible refine (spec_PartnerRun.calls k a0 _ _ t309 t312 _ ?side1 ?side2 A6.out).mono ?_); (case side1 => exact au12_12); (case side2 => exact (Kd.R_reads' HO311.out).2.1); rintro e w65 ⟨v313, rfl, ho0, hb⟩; (try clear A6); have n0_ := Aside0.mk (Kd.R_elder' (rk_ HO311) (Kd.R_base ho0) hb); have n1_ := Aside0.mk (Kd.R_lower (Kd.R_new' ho0 (Kd.R_lt (rk_ HO311))) (below_size bl_)); have n2_ := Aside0.mk (below_step bl_ hb); clear HO311; clear HB; have HO311 := n0_; have HO314 := n1_; have HB := n2_; clear n0_ n1_ n2_; (try clear hb); (try clear hb2); (try clear hk); (try clear hi); (try clear ho0)) | (go_at_call 39; (with_reducible refine (laws_toInt64S.calls k _ _ l1 t315 _ ?side1 ?side2 A7.out).mono ?_); (case side1 => exact au12_13); (case side2 => exact HC1.out); rintro e w66 ⟨v316, rfl, ho0, hb⟩; (try clear A7); have n0_ := Aside0.mk (Kd.R_elder' (rk_ HO311) (Kd.R_base ho0) hb); have n1_ := Aside0.mk (Kd.R_elder' (rk_ HO314) (Kd.R_base ho0) hb); have n2_ := Aside0.mk (Kd.R_lower (Kd.R_new' (Kd.R_new' ho0 (Kd.R_lt (rk_ HO311))) (Kd.R_lt (rk_ HO314))) (below_size bl_)); have n3_ := Aside0.mk (below_step bl_ hb); clear HO311; clear HO314; clear HB; have HO311 := n0_; have HO314 := n1_; have HO317 := n2_; have HB := n3_; clear n0_ n1_ n2_ n3_; (try clear hb); (try clear hb2); (try clear hk); (try clear hi); (try clear ho0); obtain ⟨Ao67, co67, eo67⟩ := Kd.R_slice HO317.out; subst eo67) | (go_at_call 40; (with_reducible refine (impl_PartnerRun.calls k a0 _ _ t315 t318 _ ?side1 ?side2 A8.out).mono ?_); (case side1 => exact au12_6); (case side2 => exact au12_18); rintro e w68 ⟨v319, rfl, ho0, hb⟩; (try clear A8); have n0_ := Aside0.mk (Kd.R_elder' (rk_ HO311) (Kd.R_base ho0) hb); have n1_ := Aside0.mk (Kd.R_elder' (rk_ HO314) (Kd.R_base ho0) hb); have n2_ := Aside0.mk (Kd.R_elder' (rk_ HO317) (Kd.R_base ho0) hb); have n3_ := Aside0.mk (Kd.R_lower (Kd.R_new' (Kd.R_new' (Kd.R_new' ho0 (Kd.R_lt (rk_ HO311))) (Kd.R_lt (rk_ HO314))) (Kd.R_lt (rk_ HO317))) (below_size bl_)); have n4_ := Aside0.mk (below_step bl_ hb); clear HO311; clear HO314; clear HO317; clear HB; have HO311 := n0_; have HO314 := n1_; have HO317 := n2_; have HO320 := n3_; have HB := n4_; clear n0_ n1_ n2_ n3_ n4_; (try clear hb); (try clear hb2); (try clear hk); (try clear hi); (try clear ho0); obtain ⟨Ao69, co69, eo69⟩ := Kd.R_slice HO320.out; subst eo69; obtain ⟨Ao70, co70, eo70⟩ := Kd.R_slice HO314.out; subst eo70) | (go_at_call 41; (with_reducible refine (laws_eqInt64S.calls k _ _ t318 _ _ t312 true _ ?side1 ?side2 ?side3 ?side4 A9.out).mono ?_); (case side1 => exact au12_7); (case side2 => exact au12_19); (case side3 => exact au12_8); (case side4 => exact au12_20); rintro e w' ⟨rfl, ⟨nd, rfl⟩⟩; (try clear A9)) | (go_at_call 39; (with_reducible refine (laws_toInt64S.calls k _ _ l1 t322 _ ?side1 ?side2 A11.out).mono ?_); (case side1 => exact au12_2); (case side2 => exact HC1.out); rintro e w71 ⟨v323, rfl, ho0, hb⟩; (try clear A11); have n0_ := Aside0.mk (Kd.R_elder' (rk_ HO311) (Kd.R_base ho0) hb); have n1_ := Aside0.mk (Kd.R_elder' (rk_ HO314) (Kd.R_base ho0) hb); have n2_ := Aside0.mk (Kd.R_elder' (rk_ HO317) (Kd.R_base ho0) hb); have n3_ := Aside0.mk (Kd.R_elder' (rk_ HO320) (Kd.R_base ho0) hb); have n4_ := Aside0.mk (Kd.R_lower (Kd.R_new' (Kd.R_new' (Kd.R_new' (Kd.R_new' ho0 (Kd.R_lt (rk_ HO311))) (Kd.R_lt (rk_ HO314))) (Kd.R_lt (rk_ HO317))) (Kd.R_lt (rk_ HO320))) (below_size bl_)); have n5_ := Aside0.mk (below_step bl_ hb); clear HO311; clear HO314; clear HO317; clear HO320; clear HB; have HO311 := n0_; have HO314 := n1_; have HO317 := n2_; have HO320 := n3_; have HO324 := n4_; have HB := n5_; clear n0_ n1_ n2_ n3_ n4_ n5_; (try clear hb); (try clear hb2); (try clear hk); (try clear hi); (try clear ho0); obtain ⟨Ao72, co72, eo72⟩ := Kd.R_slice HO324.out; subst eo72) | (go_at_call 41; (with_reducible refine (laws_eqInt64S.calls k _ _ t315 _ _ t322 false _ ?side1 ?side2 ?side3 ?side4 A12.out).mono ?_); (case side1 => exact au12_6); (case side2 => exact au12_18); (case side3 => exact au12_15); (case side4 => exact (Kd.R_reads' HO324.out).2.1); rintro e w' ⟨rfl, ⟨nd, rfl⟩⟩; (try clear A12)))
          go_ret
          exact ⟨au12_1, bl_⟩
      · replace c10 := Bool.eq_false_iff.mpr c10
        subst c10
        have H1 : (some false) = some r := by rw [if_neg (show ¬ (false = true) by decide)] at H; exact H
        clear H
        have H := H1
        clear H1
        obtain rfl := Option.some.inj H
        go_enter Try.func10, Try.ntmps10
        go_wp2_with (first | (go_at_call 39; (with_reducible refine (laws_toInt64S.calls k _ _ l1 t309 _ ?side1 ?side2 A5.out).mono ?_); (case side1 => exact au12_14); (case side2 => exact HC1.out); rintro e w73 ⟨v310, rfl, ho0, hb⟩; (try clear A5); have n0_ := Aside0.mk (Kd.R_lower ho0 (below_size bl_)); have n1_ := Aside0.mk (below_step bl_ hb); clear HB; have HO311 := n0_; have HB := n1_; clear n0_ n1_; (try clear hb); (try clear hb2); (try clear hk); (try clear hi); (try clear ho0); obtain ⟨Ao74, co74, eo74⟩ := Kd.R_slice HO311.out; subst eo74) | (go_at_call 38; (with_reducible refine (spec_PartnerRun.calls k a0 _ _ t309 t312 _ ?side1 ?side2 A6.out).mono ?_); (case side1 => exact au12_12); (case side2 => exact (Kd.R_reads' HO311.out).2.1); rintro e w75 ⟨v313, rfl, ho0, hb⟩; (try clear A6); have n0_ := Aside0.mk (Kd.R_elder' (rk_ HO311) (Kd.R_base ho0) hb); have n1_ := Aside0.mk (Kd.R_lower (Kd.R_new' ho0 (Kd.R_lt (rk_ HO311))) (below_size bl_)); have n2_ := Aside0.mk (below_step bl_ hb); clear HO311; clear HB; have HO311 := n0_; have HO314 := n1_; have HB := n2_; clear n0_ n1_ n2_; (try clear hb); (try clear hb2); (try clear hk); (try clear hi); (try clear ho0)) | (go_at_call 39; (with_reducible refine (laws_toInt64S.calls k _ _ l1 t315 _ ?side1 ?side2 A7.out).mono ?_); (case side1 => exact au12_13); (case side2 => exact HC1.out); rintro e w76 ⟨v316, rfl, ho0, hb⟩; (try clear A7); have n0_ := Aside0.mk (Kd.R_elder' (rk_ HO311) (Kd.R_base ho0) hb); have n1_ := Aside0.mk (Kd.R_elder' (rk_ HO314) (Kd.R_base ho0) hb); have n2_ := Aside0.mk (Kd.R_lower (Kd.R_new' (Kd.R_new' ho0 (Kd.R_lt (rk_ HO311))) (Kd.R_lt (rk_ HO314))) (below_size bl_)); have n3_ := Aside0.mk (below_step bl_ hb); clear HO311; clear HO314; clear HB; have HO311 := n0_; have HO314 := n1_; have HO317 := n2_; have HB := n3_; clear n0_ n1_ n2_ n3_; (try clear hb); (try clear hb2); (try clear hk); (try clear hi); (try clear ho0); obtain ⟨Ao77, co77, eo77⟩ := Kd.R_slice HO317.out; subst eo77) | (go_at_call 40; (with_reducible refine (impl_PartnerRun.calls k a0 _ _ t315 t318 _ ?side1 ?side2 A8.out).mono ?_); (case side1 => exact au12_6); (case side2 => exact au12_18); rintro e w78 ⟨v319, rfl, ho0, hb⟩; (try clear A8); have n0_ := Aside0.mk (Kd.R_elder' (rk_ HO311) (Kd.R_base ho0) hb); have n1_ := Aside0.mk (Kd.R_elder' (rk_ HO314) (Kd.R_base ho0) hb); have n2_ := Aside0.mk (Kd.R_elder' (rk_ HO317) (Kd.R_base ho0) hb); have n3_ := Aside0.mk (Kd.R_lower (Kd.R_new' (Kd.R_new' (Kd.R_new' ho0 (Kd.R_lt (rk_ HO311))) (Kd.R_lt (rk_ HO314))) (Kd.R_lt (rk_ HO317))) (below_size bl_)); have n4_ := Aside0.mk (below_step bl_ hb); clear HO311; clear HO314; clear HO317; clear HB; have HO311 := n0_; have HO314 := n1_; have HO317 := n2_; have HO320 := n3_; have HB := n4_; clear n0_ n1_ n2_ n3_ n4_; (try clear hb); (try clear hb2); (try clear hk); (try clear hi); (try clear ho0); obtain ⟨Ao79, co79, eo79⟩ := Kd.R_slice HO320.out; subst eo79; obtain ⟨Ao80, co80, eo80⟩ := Kd.R_slice HO314.out; subst eo80) | (go_at_call 41; (with_reducible refine (laws_eqInt64S.calls k _ _ t318 _ _ t312 false _ ?side1 ?side2 ?side3 ?side4 A9.out).mono ?_); (case side1 => exact au12_7); (case side2 => exact au12_19); (case side3 => exact au12_8); (case side4 => exact au12_20); rintro e w' ⟨rfl, ⟨nd, rfl⟩⟩; (try clear A9)))
        go_ret
        exact ⟨au12_1, bl_⟩

/-- THE ONE PURE STATEMENT of laws_FnExactPartnerRun: yours. -/
def laws_FnExactPartnerRun.Pure : Prop := ∀ (a0 : ByteArray) (l1 : List Int), a0.size ≤ 140737488351232 → l1.length ≤ maxLen → l1.length * 8 ≤ 140737488351232 → (∀ x ∈ l1, (Lit.int .i64 x).wf = true) → ∃ k, laws_FnExactPartnerRun.f k a0 l1 = some true
theorem laws_FnExactPartnerRun.walk (P : laws_FnExactPartnerRun.Pure) (a0 : ByteArray) (a1 : Option Addr) (len1 cap1 : Nat) (z1 : List Int) (w : World) (w0 : a0.size ≤ 140737488351232) (w1 : (a1 = none ∧ len1 = 0 ∧ cap1 = 0 ∧ z1 = []) ∨ ∃ x, a1 = some x ∧ len1 ≤ cap1 ∧ cap1 ≤ maxLen ∧ z1.length = cap1 ∧ (∀ i, i < z1.length → w.cell? (x.add i) = some (.int .i64 (z1.getD i 0))) ∧ ∀ n ∈ z1, (Lit.int .i64 n).wf = true) (y1 : len1 * 8 ≤ 140737488351232) :
    Calls Try.prog 10 #[.string a0, .slice a1 len1 cap1] w fun e w' => e = .returned (.bool true) ∧ Below w.heap.size w w' := by
  obtain ⟨l1, rfl, hr1, hm1, hw1, hc1⟩ := ReadsInt.ofRowC w1
  obtain ⟨k, h⟩ := P a0 l1 w0 hm1 y1 hw1
  refine (laws_FnExactPartnerRun.calls k a0 _ _ l1 true w (Kd.C_of_reads (d := (0 : Int)) (h1 := fun _ => rfl) hr1) hc1 h).mono ?_
  rintro e w' ⟨rfl, hd⟩
  exact ⟨rfl, hd⟩

end Go.Proofs.Ytjffakoifpldeaa.PFnExactPartnerRun
