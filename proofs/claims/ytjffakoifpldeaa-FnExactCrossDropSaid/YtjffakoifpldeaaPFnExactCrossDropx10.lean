-- printed by a program of this session (wip/xp/xprint.py) out of the translation; Lean checks it
import Derived.Test.YtjffakoifpldeaaPFnExactCrossDropx0
import Derived.Test.YtjffakoifpldeaaPFnExactCrossDropx1
import Derived.Test.YtjffakoifpldeaaPFnExactCrossDropx4
import Derived.Test.YtjffakoifpldeaaPFnExactCrossDropx7
import Derived.Test.YtjffakoifpldeaaPFnExactCrossDropx8
import Derived.Test.YtjffakoifpldeaaPFnExactCrossDropx9
namespace Go.Proofs.Ytjffakoifpldeaa.PFnExactCrossDrop
open Go.RowKit Go.Proofs.YtjffakoifpldeaaW.PrintWords Go.Proofs.YtjffakoifpldeaaW.PrintLast Go.Proofs.YtjffakoifpldeaaW.PrintMore
attribute [local go_sem] max2_int min2_int max_two min_two max_three min_three max_four min_four   -- for this text's walks alone
set_option linter.unusedVariables false
set_option linter.unusedSimpArgs false

theorem au10_0 {p : Prop} (h : p := by repeat (first | exact (Kd.C_below HR0.out HB.out) | (with_reducible refine Kd.C_alloc ?_ _) | (with_reducible refine Kd.C_drewN ?_ _) | (with_reducible refine Kd.C_drew ?_))) : p := h
theorem au10_1 {p : Prop} (h : p := by repeat (first | exact (Kd.R_reads' HO_10.out).2.2 | (with_reducible refine Kd.C_alloc ?_ _) | (with_reducible refine Kd.C_drewN ?_ _) | (with_reducible refine Kd.C_drew ?_))) : p := h
theorem au10_2 {p : Prop} (h : p := by first | rfl | (simp [errW_none, errW_some] <;> rfl) | (simp [*, errW_none, errW_some] <;> rfl)) : p := h
theorem au10_3 {p : Prop} (h : p := by rw [show t237.length = t225.length from (Kd.R_reads' HO_10.out).1.symm]; exact (Kd.R_reads' HO_10.out).2.1) : p := h
theorem au10_4 {p : Prop} (h : p := by repeat (first | (with_reducible first | exact HB.out | apply below_alloc | apply pw_below_drewN | apply below_drew1) | exact HB.out)) : p := h
theorem au10_5 {p : Prop} (h : p := by first | (rw [show t237.length = t225.length from (Kd.R_reads' HO_10.out).1.symm] <;> rfl) | rfl) : p := h
theorem au10_6 {p : Prop} (h : p := by repeat (first | exact (Kd.R_reads' HO224.out).2.2 | (with_reducible refine Kd.C_alloc ?_ _) | (with_reducible refine Kd.C_drewN ?_ _) | (with_reducible refine Kd.C_drew ?_))) : p := h
theorem au10_7 {p : Prop} (h : p := by repeat (first | exact (Kd.R_reads' HO227.out).2.2 | (with_reducible refine Kd.C_alloc ?_ _) | (with_reducible refine Kd.C_drewN ?_ _) | (with_reducible refine Kd.C_drew ?_))) : p := h
theorem au10_8 {p : Prop} (h : p := by repeat (first | exact (Kd.R_reads' HO221.out).2.2 | (with_reducible refine Kd.C_alloc ?_ _) | (with_reducible refine Kd.C_drewN ?_ _) | (with_reducible refine Kd.C_drew ?_))) : p := h
theorem au10_9 {p : Prop} (h : p := by repeat (first | exact (Kd.R_reads' HO241.out).2.2 | (with_reducible refine Kd.C_alloc ?_ _) | (with_reducible refine Kd.C_drewN ?_ _) | (with_reducible refine Kd.C_drew ?_))) : p := h
theorem au10_10 {p : Prop} (h : p := by repeat (first | exact (Kd.R_reads' HO244.out).2.2 | (with_reducible refine Kd.C_alloc ?_ _) | (with_reducible refine Kd.C_drewN ?_ _) | (with_reducible refine Kd.C_drew ?_))) : p := h
theorem au10_11 {p : Prop} (h : p := by repeat (first | exact (Kd.R_reads' HO_8.out).2.2 | (with_reducible refine Kd.C_alloc ?_ _) | (with_reducible refine Kd.C_drewN ?_ _) | (with_reducible refine Kd.C_drew ?_))) : p := h
theorem au10_12 {p : Prop} (h : p := by repeat (first | exact HR0.out | (with_reducible refine Kd.C_alloc ?_ _) | (with_reducible refine Kd.C_drewN ?_ _) | (with_reducible refine Kd.C_drew ?_))) : p := h
theorem au10_13 {p : Prop} (h : p := by repeat (first | exact (Kd.R_reads' HO218.out).2.2 | (with_reducible refine Kd.C_alloc ?_ _) | (with_reducible refine Kd.C_drewN ?_ _) | (with_reducible refine Kd.C_drew ?_))) : p := h
theorem au10_14 {p : Prop} (h : p := by repeat (first | exact (Kd.R_reads' HO231.out).2.2 | (with_reducible refine Kd.C_alloc ?_ _) | (with_reducible refine Kd.C_drewN ?_ _) | (with_reducible refine Kd.C_drew ?_))) : p := h
theorem au10_15 {p : Prop} (h : p := by (with_reducible repeat (first | apply Kd.R_alloc | apply Kd.R_drewN | apply Kd.R_drew)); exact Kd.R_mono HO221.out (fun _ hk => hk.2.2.1)) : p := h
theorem au10_16 {p : Prop} (h : p := by (with_reducible repeat (first | apply Kd.R_alloc | apply Kd.R_drewN | apply Kd.R_drew)); exact Kd.R_mono HO227.out (fun _ hk => hk.2.1)) : p := h
theorem au10_17 {p : Prop} (h : p := by exact Kd.R_tight rfl HO_10.out) : p := h
theorem au10_18 {p : Prop} (h : p := by exact (Kd.R_reads' HO224.out).2.1) : p := h
theorem au10_19 {p : Prop} (h : p := by exact (Kd.R_reads' HO227.out).2.1) : p := h
theorem au10_20 {p : Prop} (h : p := by exact (Kd.R_reads' HO221.out).2.1) : p := h
theorem au10_21 {p : Prop} (h : p := by exact (Kd.R_reads' HO241.out).2.1) : p := h
theorem au10_22 {p : Prop} (h : p := by exact (Kd.R_reads' HO244.out).2.1) : p := h
theorem au10_23 {p : Prop} (h : p := by exact (Kd.R_reads' HO_8.out).2.1) : p := h

/-! ### laws_FnExactCrossDrop: function 6 -/
def laws_FnExactCrossDrop.j0 : Nat → List (S34) → ByteArray → ByteArray → List (S37) → List (S37) → Bool → Option (Bool)
  | 0, _, _, _, _, _, _ => none
  | k + 1, x0, x1, x2, x8, x10, x56 => if x56 = true then (some false) else ((laws_markCrossS.f k x10 1).bind fun bt236 => ((laws_heldCrossS.f k bt236.2 1).bind fun t238 => (if t238 < 0 then (some false) else (if t238 = bt236.1 then ((laws_toCrossS.f k x0).bind fun t239 => ((impl_CrossDrop.f k t239 x1 x2).bind fun t242 => ((laws_eqCrossS.f k t242 x8).bind fun t245 => (if t245 = true then ((laws_heldCrossS.f k bt236.2 1).bind fun t246 => (if t246 < 0 then (some false) else (if t246 = bt236.1 then (some true) else (some false)))) else (some false))))) else (some false)))))
def laws_FnExactCrossDrop.f (k : Nat) (l0 : List (S34)) (a1 : ByteArray) (a2 : ByteArray) : Option (Bool) := if (a1.size : Int) > 1048576 then (some true) else (if (a2.size : Int) > 1048576 then (some true) else ((laws_szCrossS.f k l0 1048576).bind fun t215 => (if t215 < 0 then (some true) else ((laws_toCrossS.f k l0).bind fun t216 => ((spec_CrossDrop.f k t216 a1 a2).bind fun t219 => ((laws_toCrossS.f k l0).bind fun t222 => ((impl_CrossDrop.f k t222 a1 a2).bind fun t225 => ((laws_eqCrossS.f k t225 t219).bind fun t228 => (if t228 = true then ((laws_toCrossS.f k l0).bind fun t229 => ((laws_eqCrossS.f k t222 t229).bind fun t232 => (if t232 = true then ((laws_markCrossS.f k t222 1).bind fun bt233 => (if bt233.1 < 0 then (laws_FnExactCrossDrop.j0 k l0 a1 a2 t219 t225 true) else ((laws_eqCrossS.f k t225 t219).bind fun t235 => (laws_FnExactCrossDrop.j0 k l0 a1 a2 t219 t225 (!t235))))) else (some false)))) else (some false))))))))))
theorem laws_FnExactCrossDrop.mono_l : ∀ k, (∀ y0 y1 y2 y3 y4 y5, LeO (laws_FnExactCrossDrop.j0 k y0 y1 y2 y3 y4 y5) (laws_FnExactCrossDrop.j0 (k + 1) y0 y1 y2 y3 y4 y5))
  | 0 => fun _ _ _ _ _ _ r h => by simp [laws_FnExactCrossDrop.j0] at h
  | k + 1 => by
    have ih0 := laws_FnExactCrossDrop.mono_l k
    · intro y0 y1 y2 y3 y4 y5
      unfold laws_FnExactCrossDrop.j0
      repeat' first
      | (with_reducible exact ih0 _ _ _ _ _ _)
      | (with_reducible exact impl_CrossDrop.mono _ _ _ _)
      | (with_reducible exact laws_eqCrossS.mono _ _ _)
      | (with_reducible exact laws_heldCrossS.mono _ _ _)
      | (with_reducible exact laws_markCrossS.mono _ _ _)
      | (with_reducible exact laws_szCrossS.mono _ _ _)
      | (with_reducible exact laws_toCrossS.mono _ _)
      | (with_reducible exact spec_CrossDrop.mono _ _ _ _)
      | (with_reducible exact LeO.refl _)
      | (with_reducible exact LeO.none _)
      | (with_reducible refine LeO.ite ?_ ?_)
      | (with_reducible refine LeO.bind ?_ (fun _ => ?_))
      | exact ih0 _ _ _ _ _ _
      | exact impl_CrossDrop.mono _ _ _ _
      | exact laws_eqCrossS.mono _ _ _
      | exact laws_heldCrossS.mono _ _ _
      | exact laws_markCrossS.mono _ _ _
      | exact laws_szCrossS.mono _ _ _
      | exact laws_toCrossS.mono _ _
      | exact spec_CrossDrop.mono _ _ _ _
      | exact LeO.none _
      | refine LeO.ite ?_ ?_
      | refine LeO.bind ?_ (fun _ => ?_)
theorem laws_FnExactCrossDrop.mono : ∀ a0 a1 a2 k, LeO (laws_FnExactCrossDrop.f k a0 a1 a2) (laws_FnExactCrossDrop.f (k + 1) a0 a1 a2) := by
  intro a0 a1 a2 k
  have ih0 := laws_FnExactCrossDrop.mono_l k
  unfold laws_FnExactCrossDrop.f
  repeat' first
      | (with_reducible exact ih0 _ _ _ _ _ _)
      | (with_reducible exact impl_CrossDrop.mono _ _ _ _)
      | (with_reducible exact laws_eqCrossS.mono _ _ _)
      | (with_reducible exact laws_heldCrossS.mono _ _ _)
      | (with_reducible exact laws_markCrossS.mono _ _ _)
      | (with_reducible exact laws_szCrossS.mono _ _ _)
      | (with_reducible exact laws_toCrossS.mono _ _)
      | (with_reducible exact spec_CrossDrop.mono _ _ _ _)
      | (with_reducible exact LeO.refl _)
      | (with_reducible exact LeO.none _)
      | (with_reducible refine LeO.ite ?_ ?_)
      | (with_reducible refine LeO.bind ?_ (fun _ => ?_))
      | exact ih0 _ _ _ _ _ _
      | exact impl_CrossDrop.mono _ _ _ _
      | exact laws_eqCrossS.mono _ _ _
      | exact laws_heldCrossS.mono _ _ _
      | exact laws_markCrossS.mono _ _ _
      | exact laws_szCrossS.mono _ _ _
      | exact laws_toCrossS.mono _ _
      | exact spec_CrossDrop.mono _ _ _ _
      | exact LeO.none _
      | refine LeO.ite ?_ ?_
      | refine LeO.bind ?_ (fun _ => ?_)
set_option maxHeartbeats 8000000 in
set_option maxRecDepth 100000 in
theorem laws_FnExactCrossDrop.calls (k : Nat) (A0 : Option Addr) (c0 : Nat) (l0 : List (S34)) (a1 : ByteArray) (a2 : ByteArray) (r : Bool) (w : World) (hr0 : Kd.C k34 w A0 l0.length l0) (hc0 : l0.length ≤ c0) (h : laws_FnExactCrossDrop.f k l0 a1 a2 = some r) :
    Calls Try.prog 6 #[.slice A0 l0.length c0, .string a1, .string a2] w fun e w' => e = .returned (.bool r) ∧ Below w.heap.size w w' := by
  have HR0 := Aside0.mk hr0
  have HC0 := Aside0.mk hc0
  clear hr0 hc0
  have HB := Aside0.mk (Below.refl w.heap.size w)
  have H : (if (a1.size : Int) > 1048576 then (some true) else (if (a2.size : Int) > 1048576 then (some true) else ((laws_szCrossS.f k l0 1048576).bind fun t215 => (if t215 < 0 then (some true) else ((laws_toCrossS.f k l0).bind fun t216 => ((spec_CrossDrop.f k t216 a1 a2).bind fun t219 => ((laws_toCrossS.f k l0).bind fun t222 => ((impl_CrossDrop.f k t222 a1 a2).bind fun t225 => ((laws_eqCrossS.f k t225 t219).bind fun t228 => (if t228 = true then ((laws_toCrossS.f k l0).bind fun t229 => ((laws_eqCrossS.f k t222 t229).bind fun t232 => (if t232 = true then ((laws_markCrossS.f k t222 1).bind fun bt233 => (if bt233.1 < 0 then (laws_FnExactCrossDrop.j0 k l0 a1 a2 t219 t225 true) else ((laws_eqCrossS.f k t225 t219).bind fun t235 => (laws_FnExactCrossDrop.j0 k l0 a1 a2 t219 t225 (!t235))))) else (some false)))) else (some false))))))))))) = some r := h
  clear h
  by_cases c4 : (a1.size : Int) > 1048576
  · rw [if_pos c4] at H
    have c4b0 : decide (1048576 < (a1.size : Int)) = true := decide_eq_true c4
    have c4b1 : decide (1048576 < a1.size) = true := decide_eq_true (by omega)
    clear c4
    obtain rfl := Option.some.inj H
    go_enter Try.func6, Try.ntmps6
    go_wp2
    go_ret
    exact ⟨au10_2, bl_⟩
  · rw [if_neg c4] at H
    have c4b0 : decide (1048576 < (a1.size : Int)) = false := decide_eq_false c4
    have c4b1 : decide (1048576 < a1.size) = false := decide_eq_false (by omega)
    clear c4
    by_cases c5 : (a2.size : Int) > 1048576
    · rw [if_pos c5] at H
      have c5b0 : decide (1048576 < (a2.size : Int)) = true := decide_eq_true c5
      have c5b1 : decide (1048576 < a2.size) = true := decide_eq_true (by omega)
      clear c5
      obtain rfl := Option.some.inj H
      go_enter Try.func6, Try.ntmps6
      go_wp2
      go_ret
      exact ⟨au10_2, bl_⟩
    · rw [if_neg c5] at H
      have c5b0 : decide (1048576 < (a2.size : Int)) = false := decide_eq_false c5
      have c5b1 : decide (1048576 < a2.size) = false := decide_eq_false (by omega)
      clear c5
      replace H := Option.bind_eq_some_iff.mp H
      obtain ⟨t215, A60, H⟩ := H
      replace H : (if t215 < 0 then (some true) else ((laws_toCrossS.f k l0).bind fun t216 => ((spec_CrossDrop.f k t216 a1 a2).bind fun t219 => ((laws_toCrossS.f k l0).bind fun t222 => ((impl_CrossDrop.f k t222 a1 a2).bind fun t225 => ((laws_eqCrossS.f k t225 t219).bind fun t228 => (if t228 = true then ((laws_toCrossS.f k l0).bind fun t229 => ((laws_eqCrossS.f k t222 t229).bind fun t232 => (if t232 = true then ((laws_markCrossS.f k t222 1).bind fun bt233 => (if bt233.1 < 0 then (laws_FnExactCrossDrop.j0 k l0 a1 a2 t219 t225 true) else ((laws_eqCrossS.f k t225 t219).bind fun t235 => (laws_FnExactCrossDrop.j0 k l0 a1 a2 t219 t225 (!t235))))) else (some false)))) else (some false)))))))) = some r := H
      have A6 := Aside0.mk A60
      clear A60
      by_cases c7 : t215 < 0
      · rw [if_pos c7] at H
        have c7b0 : decide (t215 < 0) = true := decide_eq_true c7
        clear c7
        obtain rfl := Option.some.inj H
        go_enter Try.func6, Try.ntmps6
        go_wp2_with (first | (go_at_call 14; (with_reducible refine (laws_szCrossS.calls k _ _ l0 1048576 t215 _ ?side1 ?side2 A6.out).mono ?_); (case side1 => exact au10_12); (case side2 => exact HC0.out); rintro e w8 ⟨rfl, hb⟩; (try clear A6); have n0_ := Aside0.mk (below_step bl_ hb); clear HB; have HB := n0_; clear n0_; (try clear hb); (try clear hb2); (try clear hk); (try clear hi)))
        go_ret
        exact ⟨au10_2, bl_⟩
      · rw [if_neg c7] at H
        have c7b0 : decide (t215 < 0) = false := decide_eq_false c7
        clear c7
        replace H := Option.bind_eq_some_iff.mp H
        obtain ⟨t216, A90, H⟩ := H
        replace H : ((spec_CrossDrop.f k t216 a1 a2).bind fun t219 => ((laws_toCrossS.f k l0).bind fun t222 => ((impl_CrossDrop.f k t222 a1 a2).bind fun t225 => ((laws_eqCrossS.f k t225 t219).bind fun t228 => (if t228 = true then ((laws_toCrossS.f k l0).bind fun t229 => ((laws_eqCrossS.f k t222 t229).bind fun t232 => (if t232 = true then ((laws_markCrossS.f k t222 1).bind fun bt233 => (if bt233.1 < 0 then (laws_FnExactCrossDrop.j0 k l0 a1 a2 t219 t225 true) else ((laws_eqCrossS.f k t225 t219).bind fun t235 => (laws_FnExactCrossDrop.j0 k l0 a1 a2 t219 t225 (!t235))))) else (some false)))) else (some false)))))) = some r := H
        have A9 := Aside0.mk A90
        clear A90
        replace H := Option.bind_eq_some_iff.mp H
        obtain ⟨t219, A100, H⟩ := H
        replace H : ((laws_toCrossS.f k l0).bind fun t222 => ((impl_CrossDrop.f k t222 a1 a2).bind fun t225 => ((laws_eqCrossS.f k t225 t219).bind fun t228 => (if t228 = true then ((laws_toCrossS.f k l0).bind fun t229 => ((laws_eqCrossS.f k t222 t229).bind fun t232 => (if t232 = true then ((laws_markCrossS.f k t222 1).bind fun bt233 => (if bt233.1 < 0 then (laws_FnExactCrossDrop.j0 k l0 a1 a2 t219 t225 true) else ((laws_eqCrossS.f k t225 t219).bind fun t235 => (laws_FnExactCrossDrop.j0 k l0 a1 a2 t219 t225 (!t235))))) else (some false)))) else (some false))))) = some r := H
        have A10 := Aside0.mk A100
        clear A100
        replace H := Option.bind_eq_some_iff.mp H
        obtain ⟨t222, A110, H⟩ := H
        replace H : ((impl_CrossDrop.f k t222 a1 a2).bind fun t225 => ((laws_eqCrossS.f k t225 t219).bind fun t228 => (if t228 = true then ((laws_toCrossS.f k l0).bind fun t229 => ((laws_eqCrossS.f k t222 t229).bind fun t232 => (if t232 = true then ((laws_markCrossS.f k t222 1).bind fun bt233 => (if bt233.1 < 0 then (laws_FnExactCrossDrop.j0 k l0 a1 a2 t219 t225 true) else ((laws_eqCrossS.f k t225 t219).bind fun t235 => (laws_FnExactCrossDrop.j0 k l0 a1 a2 t219 t225 (!t235))))) else (some false)))) else (some false)))) = some r := H
        have A11 := Aside0.mk A110
        clear A110
        replace H := Option.bind_eq_some_iff.mp H
        obtain ⟨t225, A120, H⟩ := H
        replace H : ((laws_eqCrossS.f k t225 t219).bind fun t228 => (if t228 = true then ((laws_toCrossS.f k l0).bind fun t229 => ((laws_eqCrossS.f k t222 t229).bind fun t232 => (if t232 = true then ((laws_markCrossS.f k t222 1).bind fun bt233 => (if bt233.1 < 0 then (laws_FnExactCrossDrop.j0 k l0 a1 a2 t219 t225 true) else ((laws_eqCrossS.f k t225 t219).bind fun t235 => (laws_FnExactCrossDrop.j0 k l0 a1 a2 t219 t225 (!t235))))) else (some false)))) else (some false))) = some r := H
        have A12 := Aside0.mk A120
        clear A120
        replace H := Option.bind_eq_some_iff.mp H
        obtain ⟨t228, A130, H⟩ := H
        replace H : (if t228 = true then ((laws_toCrossS.f k l0).bind fun t229 => ((laws_eqCrossS.f k t222 t229).bind fun t232 => (if t232 = true then ((laws_markCrossS.f k t222 1).bind fun bt233 => (if bt233.1 < 0 then (laws_FnExactCrossDrop.j0 k l0 a1 a2 t219 t225 true) else ((laws_eqCrossS.f k t225 t219).bind fun t235 => (laws_FnExactCrossDrop.j0 k l0 a1 a2 t219 t225 (!t235))))) else (some false)))) else (some false)) = some r := H
        have A13 := Aside0.mk A130
        clear A130
        by_cases c14 : t228 = true
        · subst c14
          have H1 : ((laws_toCrossS.f k l0).bind fun t229 => ((laws_eqCrossS.f k t222 t229).bind fun t232 => (if t232 = true then ((laws_markCrossS.f k t222 1).bind fun bt233 => (if bt233.1 < 0 then (laws_FnExactCrossDrop.j0 k l0 a1 a2 t219 t225 true) else ((laws_eqCrossS.f k t225 t219).bind fun t235 => (laws_FnExactCrossDrop.j0 k l0 a1 a2 t219 t225 (!t235))))) else (some false)))) = some r := by rw [if_pos rfl] at H; exact H
          clear H
          have H := H1
          clear H1
          replace H := Option.bind_eq_some_iff.mp H
          obtain ⟨t229, A150, H⟩ := H
          replace H : ((laws_eqCrossS.f k t222 t229).bind fun t232 => (if t232 = true then ((laws_markCrossS.f k t222 1).bind fun bt233 => (if bt233.1 < 0 then (laws_FnExactCrossDrop.j0 k l0 a1 a2 t219 t225 true) else ((laws_eqCrossS.f k t225 t219).bind fun t235 => (laws_FnExactCrossDrop.j0 k l0 a1 a2 t219 t225 (!t235))))) else (some false))) = some r := H
          have A15 := Aside0.mk A150
          clear A150
          replace H := Option.bind_eq_some_iff.mp H
          obtain ⟨t232, A160, H⟩ := H
          replace H : (if t232 = true then ((laws_markCrossS.f k t222 1).bind fun bt233 => (if bt233.1 < 0 then (laws_FnExactCrossDrop.j0 k l0 a1 a2 t219 t225 true) else ((laws_eqCrossS.f k t225 t219).bind fun t235 => (laws_FnExactCrossDrop.j0 k l0 a1 a2 t219 t225 (!t235))))) else (some false)) = some r := H
          have A16 := Aside0.mk A160
          clear A160
          by_cases c17 : t232 = true
          · subst c17
            have H1 : ((laws_markCrossS.f k t222 1).bind fun bt233 => (if bt233.1 < 0 then (laws_FnExactCrossDrop.j0 k l0 a1 a2 t219 t225 true) else ((laws_eqCrossS.f k t225 t219).bind fun t235 => (laws_FnExactCrossDrop.j0 k l0 a1 a2 t219 t225 (!t235))))) = some r := by rw [if_pos rfl] at H; exact H
            clear H
            have H := H1
            clear H1
            replace H := Option.bind_eq_some_iff.mp H
            obtain ⟨⟨t233, t234⟩, A180, H⟩ := H
            replace H : (if t233 < 0 then (laws_FnExactCrossDrop.j0 k l0 a1 a2 t219 t225 true) else ((laws_eqCrossS.f k t225 t219).bind fun t235 => (laws_FnExactCrossDrop.j0 k l0 a1 a2 t219 t225 (!t235)))) = some r := H
            have A18 := Aside0.mk A180
            clear A180
            have HC19 := Aside0.mk H
            clear H
            go_enter Try.func6, Try.ntmps6
            go_upto_region 18 with (first | (go_at_call 14; (with_reducible refine (laws_szCrossS.calls k _ _ l0 1048576 t215 _ ?side1 ?side2 A6.out).mono ?_); (case side1 => exact au10_12); (case side2 => exact HC0.out); rintro e w20 ⟨rfl, hb⟩; (try clear A6); have n0_ := Aside0.mk (below_step bl_ hb); clear HB; have HB := n0_; clear n0_; (try clear hb); (try clear hb2); (try clear hk); (try clear hi)) | (go_at_call 16; (with_reducible refine (laws_toCrossS.calls k _ _ l0 t216 _ ?side1 ?side2 A9.out).mono ?_); (case side1 => exact au10_0); (case side2 => exact HC0.out); rintro e w21 ⟨v217, rfl, ho0, hb⟩; (try clear A9); have n0_ := Aside0.mk (Kd.R_lower ho0 (below_size bl_)); have n1_ := Aside0.mk (below_step bl_ hb); clear HB; have HO218 := n0_; have HB := n1_; clear n0_ n1_; (try clear hb); (try clear hb2); (try clear hk); (try clear hi); (try clear ho0); obtain ⟨Ao22, co22, eo22⟩ := Kd.R_slice HO218.out; subst eo22) | (go_at_call 23; (with_reducible refine (spec_CrossDrop.calls k _ _ t216 a1 a2 t219 _ ?side1 ?side2 A10.out).mono ?_); (case side1 => exact au10_13); (case side2 => exact (Kd.R_reads' HO218.out).2.1); rintro e w23 ⟨v220, rfl, ho0, hb⟩; (try clear A10); have n0_ := Aside0.mk (Kd.R_elder' (rk_ HO218) (Kd.R_base ho0) hb); have n1_ := Aside0.mk (Kd.R_lower (Kd.R_new' ho0 (Kd.R_lt (rk_ HO218))) (below_size bl_)); have n2_ := Aside0.mk (below_step bl_ hb); clear HO218; clear HB; have HO218 := n0_; have HO221 := n1_; have HB := n2_; clear n0_ n1_ n2_; (try clear hb); (try clear hb2); (try clear hk); (try clear hi); (try clear ho0)) | (go_at_call 16; (with_reducible refine (laws_toCrossS.calls k _ _ l0 t222 _ ?side1 ?side2 A11.out).mono ?_); (case side1 => exact au10_0); (case side2 => exact HC0.out); rintro e w24 ⟨v223, rfl, ho0, hb⟩; (try clear A11); have n0_ := Aside0.mk (Kd.R_elder' (rk_ HO218) (Kd.R_base ho0) hb); have n1_ := Aside0.mk (Kd.R_elder' (rk_ HO221) (Kd.R_base ho0) hb); have n2_ := Aside0.mk (Kd.R_lower (Kd.R_new' (Kd.R_new' ho0 (Kd.R_lt (rk_ HO218))) (Kd.R_lt (rk_ HO221))) (below_size bl_)); have n3_ := Aside0.mk (below_step bl_ hb); clear HO218; clear HO221; clear HB; have HO218 := n0_; have HO221 := n1_; have HO224 := n2_; have HB := n3_; clear n0_ n1_ n2_ n3_; (try clear hb); (try clear hb2); (try clear hk); (try clear hi); (try clear ho0); obtain ⟨Ao25, co25, eo25⟩ := Kd.R_slice HO224.out; subst eo25) | (go_at_call 24; (with_reducible refine (impl_CrossDrop.calls k _ _ t222 a1 a2 t225 _ ?side1 ?side2 A12.out).mono ?_); (case side1 => exact au10_6); (case side2 => exact au10_18); rintro e w26 ⟨v226, rfl, ho0, hb⟩; (try clear A12); have n0_ := Aside0.mk (Kd.R_elder' (rk_ HO218) (Kd.R_base ho0) hb); have n1_ := Aside0.mk (Kd.R_elder' (rk_ HO221) (Kd.R_base ho0) hb); have n2_ := Aside0.mk (Kd.R_elder' (rk_ HO224) (Kd.R_base ho0) hb); have n3_ := Aside0.mk (Kd.R_lower (Kd.R_new' (Kd.R_new' (Kd.R_new' ho0 (Kd.R_lt (rk_ HO218))) (Kd.R_lt (rk_ HO221))) (Kd.R_lt (rk_ HO224))) (below_size bl_)); have n4_ := Aside0.mk (below_step bl_ hb); clear HO218; clear HO221; clear HO224; clear HB; have HO218 := n0_; have HO221 := n1_; have HO224 := n2_; have HO227 := n3_; have HB := n4_; clear n0_ n1_ n2_ n3_ n4_; (try clear hb); (try clear hb2); (try clear hk); (try clear hi); (try clear ho0); obtain ⟨Ao27, co27, eo27⟩ := Kd.R_slice HO227.out; subst eo27; obtain ⟨Ao28, co28, eo28⟩ := Kd.R_slice HO221.out; subst eo28) | (go_at_call 18; (with_reducible refine (laws_eqCrossS.calls k _ _ t225 _ _ t219 true _ ?side1 ?side2 ?side3 ?side4 A13.out).mono ?_); (case side1 => exact au10_7); (case side2 => exact au10_19); (case side3 => exact au10_8); (case side4 => exact au10_20); rintro e w29 ⟨rfl, hb⟩; (try clear A13); have n0_ := Aside0.mk (Kd.R_below (rk_ HO218) hb); have n1_ := Aside0.mk (Kd.R_below (rk_ HO221) hb); have n2_ := Aside0.mk (Kd.R_below (rk_ HO224) hb); have n3_ := Aside0.mk (Kd.R_below (rk_ HO227) hb); have n4_ := Aside0.mk (below_step bl_ hb); clear HO218; clear HO221; clear HO224; clear HO227; clear HB; have HO218 := n0_; have HO221 := n1_; have HO224 := n2_; have HO227 := n3_; have HB := n4_; clear n0_ n1_ n2_ n3_ n4_; (try clear hb); (try clear hb2); (try clear hk); (try clear hi)) | (go_at_call 16; (with_reducible refine (laws_toCrossS.calls k _ _ l0 t229 _ ?side1 ?side2 A15.out).mono ?_); (case side1 => exact au10_0); (case side2 => exact HC0.out); rintro e w30 ⟨v230, rfl, ho0, hb⟩; (try clear A15); have n0_ := Aside0.mk (Kd.R_elder' (rk_ HO218) (Kd.R_base ho0) hb); have n1_ := Aside0.mk (Kd.R_elder' (rk_ HO221) (Kd.R_base ho0) hb); have n2_ := Aside0.mk (Kd.R_elder' (rk_ HO224) (Kd.R_base ho0) hb); have n3_ := Aside0.mk (Kd.R_elder' (rk_ HO227) (Kd.R_base ho0) hb); have n4_ := Aside0.mk (Kd.R_lower (Kd.R_new' (Kd.R_new' (Kd.R_new' (Kd.R_new' ho0 (Kd.R_lt (rk_ HO218))) (Kd.R_lt (rk_ HO221))) (Kd.R_lt (rk_ HO224))) (Kd.R_lt (rk_ HO227))) (below_size bl_)); have n5_ := Aside0.mk (below_step bl_ hb); clear HO218; clear HO221; clear HO224; clear HO227; clear HB; have HO218 := n0_; have HO221 := n1_; have HO224 := n2_; have HO227 := n3_; have HO231 := n4_; have HB := n5_; clear n0_ n1_ n2_ n3_ n4_ n5_; (try clear hb); (try clear hb2); (try clear hk); (try clear hi); (try clear ho0); obtain ⟨Ao31, co31, eo31⟩ := Kd.R_slice HO231.out; subst eo31) | (go_at_call 18; (with_reducible refine (laws_eqCrossS.calls k _ _ t222 _ _ t229 true _ ?side1 ?side2 ?side3 ?side4 A16.out).mono ?_); (case side1 => exact au10_6); (case side2 => exact au10_18); (case side3 => exact au10_14); (case side4 => exact (Kd.R_reads' HO231.out).2.1); rintro e w32 ⟨rfl, hb⟩; (try clear A16); have n0_ := Aside0.mk (Kd.R_below (rk_ HO218) hb); have n1_ := Aside0.mk (Kd.R_below (rk_ HO221) hb); have n2_ := Aside0.mk (Kd.R_below (rk_ HO224) hb); have n3_ := Aside0.mk (Kd.R_below (rk_ HO227) hb); have n4_ := Aside0.mk (Kd.R_below (rk_ HO231) hb); have n5_ := Aside0.mk (below_step bl_ hb); clear HO218; clear HO221; clear HO224; clear HO227; clear HO231; clear HB; have HO218 := n0_; have HO221 := n1_; have HO224 := n2_; have HO227 := n3_; have HO231 := n4_; have HB := n5_; clear n0_ n1_ n2_ n3_ n4_ n5_; (try clear hb); (try clear hb2); (try clear hk); (try clear hi)) | (go_at_call 25; (with_reducible refine (laws_markCrossS.calls k (fun k_ => some k_ = (.slice Ao25 t222.length co25 : Value).ownBlock) (.slice Ao25 t222.length co25) t222 1 t233 t234 w _ ?side1 ?side2 A18.out).mono ?_); (case side1 => exact au10_4); (case side2 => exact Kd.R_tight rfl HO224.out); rintro e w33 ⟨rfl, hy0, hb, hkp⟩; (try clear A18); have n0_ := Aside0.mk (Kd.R_mono (ok' := fun k_ => some k_ ≠ (.slice Ao28 t219.length co28 : Value).ownBlock ∧ some k_ ≠ (.slice Ao25 t222.length co25 : Value).ownBlock ∧ some k_ ≠ (.slice Ao27 t225.length co27 : Value).ownBlock ∧ some k_ ≠ (.slice Ao31 t229.length co31 : Value).ownBlock) (Kd.R_keptB (HO218.out) hkp (fun k_ hk_ hs_ => (hk_.1.1.2) hs_)) (fun k_ hk_ => ⟨hk_.1.1.1.1.2, hk_.1.1.1.2, hk_.1.1.2, hk_.1.2⟩)); have n1_ := Aside0.mk (Kd.R_mono (ok' := fun k_ => some k_ ≠ (.slice Ao22 t216.length co22 : Value).ownBlock ∧ some k_ ≠ (.slice Ao25 t222.length co25 : Value).ownBlock ∧ some k_ ≠ (.slice Ao27 t225.length co27 : Value).ownBlock ∧ some k_ ≠ (.slice Ao31 t229.length co31 : Value).ownBlock) (Kd.R_keptB (HO221.out) hkp (fun k_ hk_ hs_ => (hk_.1.1.2) hs_)) (fun k_ hk_ => ⟨hk_.1.1.1.1.2, hk_.1.1.1.2, hk_.1.1.2, hk_.1.2⟩)); have n2_ := Aside0.mk (Kd.R_reok rfl hy0 (fun k_ e_ => HO224.out.1 k_ e_)); have n3_ := Aside0.mk (Kd.R_mono (ok' := fun k_ => some k_ ≠ (.slice Ao22 t216.length co22 : Value).ownBlock ∧ some k_ ≠ (.slice Ao28 t219.length co28 : Value).ownBlock ∧ some k_ ≠ (.slice Ao25 t222.length co25 : Value).ownBlock ∧ some k_ ≠ (.slice Ao31 t229.length co31 : Value).ownBlock) (Kd.R_keptB (HO227.out) hkp (fun k_ hk_ hs_ => (hk_.1.2) hs_)) (fun k_ hk_ => ⟨hk_.1.1.1.1.2, hk_.1.1.1.2, hk_.1.1.2, hk_.1.2⟩)); have n4_ := Aside0.mk (Kd.R_mono (ok' := fun k_ => some k_ ≠ (.slice Ao22 t216.length co22 : Value).ownBlock ∧ some k_ ≠ (.slice Ao28 t219.length co28 : Value).ownBlock ∧ some k_ ≠ (.slice Ao25 t222.length co25 : Value).ownBlock ∧ some k_ ≠ (.slice Ao27 t225.length co27 : Value).ownBlock) (Kd.R_keptB (HO231.out) hkp (fun k_ hk_ hs_ => (hk_.1.2) hs_)) (fun k_ hk_ => ⟨hk_.1.1.1.1.2, hk_.1.1.1.2, hk_.1.1.2, hk_.1.2⟩)); have n5_ := Aside0.mk (hb); clear HO218; clear HO221; clear HO224; clear HO227; clear HO231; clear HB; have HO218 := n0_; have HO221 := n1_; have HO224 := n2_; have HO227 := n3_; have HO231 := n4_; have HB := n5_; clear n0_ n1_ n2_ n3_ n4_ n5_; (try clear hb); (try clear hkp); (try clear hy0)))
            (try simp only [Act.put, List.setIfInBounds_toArray, List.set_cons_zero, List.set_cons_succ])
            go_cut [56] (fun v56 wc => ∃ (kq : Nat) (x56_18 : Bool), v56 = .bool x56_18 ∧ Aside0 (laws_FnExactCrossDrop.j0 kq l0 a1 a2 t219 t225 x56_18 = some r) ∧ Aside0 (kq ≤ k) ∧ Aside0 (Kd.R k37 37 wc w.heap.size (fun k_ => some k_ ≠ ((.slice Ao27 t225.length co27) : Value).ownBlock) (.slice Ao28 t219.length co28) t219) ∧ Aside0 (Kd.R k37 37 wc w.heap.size (fun k_ => some k_ ≠ ((.slice Ao28 t219.length co28) : Value).ownBlock) (.slice Ao27 t225.length co27) t225) ∧ Aside0 (Below w.heap.size w wc))
            case first =>
              have H := HC19.out
              clear HC19
              by_cases c34 : t233 < 0
              · rw [if_pos c34] at H
                have c34b0 : decide (t233 < 0) = true := decide_eq_true c34
                clear c34
                (first | rw [c34b0] | (simp only [i64_w, i32_w]; rw [c34b0]) | skip)
                have H' := Aside0.mk H
                clear H
                go_wp2
                go_meet
                case rel => exact ⟨_, (true), er_, H', ⟨by first | omega | exact Nat.le_refl _⟩, ⟨au10_15⟩, ⟨au10_16⟩, ⟨bl_⟩⟩
              · rw [if_neg c34] at H
                have c34b0 : decide (t233 < 0) = false := decide_eq_false c34
                clear c34
                (first | rw [c34b0] | (simp only [i64_w, i32_w]; rw [c34b0]) | skip)
                replace H := Option.bind_eq_some_iff.mp H
                obtain ⟨t235, A350, H⟩ := H
                replace H : (laws_FnExactCrossDrop.j0 k l0 a1 a2 t219 t225 (!t235)) = some r := H
                have A35 := Aside0.mk A350
                clear A350
                have H' := Aside0.mk H
                clear H
                go_wp2_with (first | (go_at_call 18; (with_reducible refine (laws_eqCrossS.calls k _ _ t225 _ _ t219 t235 _ ?side1 ?side2 ?side3 ?side4 A35.out).mono ?_); (case side1 => exact au10_7); (case side2 => exact au10_19); (case side3 => exact au10_8); (case side4 => exact au10_20); rintro e w36 ⟨rfl, hb⟩; (try clear A35); have n0_ := Aside0.mk (Kd.R_below (rk_ HO218) hb); have n1_ := Aside0.mk (Kd.R_below (rk_ HO221) hb); have n2_ := Aside0.mk (Kd.R_below (rk_ HO224) hb); have n3_ := Aside0.mk (Kd.R_below (rk_ HO227) hb); have n4_ := Aside0.mk (Kd.R_below (rk_ HO231) hb); have n5_ := Aside0.mk (below_step bl_ hb); clear HO218; clear HO221; clear HO224; clear HO227; clear HO231; clear HB; have HO218 := n0_; have HO221 := n1_; have HO224 := n2_; have HO227 := n3_; have HO231 := n4_; have HB := n5_; clear n0_ n1_ n2_ n3_ n4_ n5_; (try clear hb); (try clear hb2); (try clear hk); (try clear hi)))
                go_meet
                case rel => exact ⟨_, (!t235), er_, H', ⟨by first | omega | exact Nat.le_refl _⟩, ⟨au10_15⟩, ⟨au10_16⟩, ⟨bl_⟩⟩
            case rest =>
              clear HC19
              try clear c1
              try clear p2
              try clear c3
              try clear c4
              try clear c4b0
              try clear c4b1
              try clear c5
              try clear c5b0
              try clear c5b1
              try clear c6
              try clear c7
              try clear c7b0
              try clear c14
              try clear c17
              try clear c34
              try clear c34b0
              obtain ⟨kq, x56_18, rfl, HA, HJ18, HO_8, HO_10, HB⟩ := hcut
              cases kq with
              | zero => exact absurd HA.out (by simp [laws_FnExactCrossDrop.j0])
              | succ kj18 =>
                have H := HA.out
                clear HA
                simp only [laws_FnExactCrossDrop.j0] at H
                by_cases c37 : x56_18 = true
                · subst c37
                  have H1 : (some false) = some r := by rw [if_pos rfl] at H; exact H
                  clear H
                  have H := H1
                  clear H1
                  obtain rfl := Option.some.inj H
                  go_wp2
                  go_ret
                  exact ⟨au10_2, bl_⟩
                · replace c37 := Bool.eq_false_iff.mpr c37
                  subst c37
                  have H1 : ((laws_markCrossS.f kj18 t225 1).bind fun bt236 => ((laws_heldCrossS.f kj18 bt236.2 1).bind fun t238 => (if t238 < 0 then (some false) else (if t238 = bt236.1 then ((laws_toCrossS.f kj18 l0).bind fun t239 => ((impl_CrossDrop.f kj18 t239 a1 a2).bind fun t242 => ((laws_eqCrossS.f kj18 t242 t219).bind fun t245 => (if t245 = true then ((laws_heldCrossS.f kj18 bt236.2 1).bind fun t246 => (if t246 < 0 then (some false) else (if t246 = bt236.1 then (some true) else (some false)))) else (some false))))) else (some false))))) = some r := by rw [if_neg (show ¬ (false = true) by decide)] at H; exact H
                  clear H
                  have H := H1
                  clear H1
                  replace H := Option.bind_eq_some_iff.mp H
                  obtain ⟨⟨t236, t237⟩, A380, H⟩ := H
                  replace H : ((laws_heldCrossS.f kj18 t237 1).bind fun t238 => (if t238 < 0 then (some false) else (if t238 = t236 then ((laws_toCrossS.f kj18 l0).bind fun t239 => ((impl_CrossDrop.f kj18 t239 a1 a2).bind fun t242 => ((laws_eqCrossS.f kj18 t242 t219).bind fun t245 => (if t245 = true then ((laws_heldCrossS.f kj18 t237 1).bind fun t246 => (if t246 < 0 then (some false) else (if t246 = t236 then (some true) else (some false)))) else (some false))))) else (some false)))) = some r := H
                  have A38 := Aside0.mk A380
                  clear A380
                  replace H := Option.bind_eq_some_iff.mp H
                  obtain ⟨t238, A390, H⟩ := H
                  replace H : (if t238 < 0 then (some false) else (if t238 = t236 then ((laws_toCrossS.f kj18 l0).bind fun t239 => ((impl_CrossDrop.f kj18 t239 a1 a2).bind fun t242 => ((laws_eqCrossS.f kj18 t242 t219).bind fun t245 => (if t245 = true then ((laws_heldCrossS.f kj18 t237 1).bind fun t246 => (if t246 < 0 then (some false) else (if t246 = t236 then (some true) else (some false)))) else (some false))))) else (some false))) = some r := H
                  have A39 := Aside0.mk A390
                  clear A390
                  by_cases c40 : t238 < 0
                  · rw [if_pos c40] at H
                    have c40b0 : decide (t238 < 0) = true := decide_eq_true c40
                    clear c40
                    obtain rfl := Option.some.inj H
                    go_wp2_with (first | (go_at_call 25; (with_reducible refine (laws_markCrossS.calls kj18 (fun k_ => some k_ = (.slice Ao27 t225.length co27 : Value).ownBlock) (.slice Ao27 t225.length co27) t225 1 t236 t237 w _ ?side1 ?side2 A38.out).mono ?_); (case side1 => exact au10_4); (case side2 => exact au10_17); rintro e w41 ⟨rfl, hy0, hb, hkp⟩; (try clear A38); have n0_ := Aside0.mk (Kd.R_mono (ok' := fun k_ => some k_ ≠ (.slice Ao27 t225.length co27 : Value).ownBlock) (Kd.R_keptB (HO_8.out) hkp (fun k_ hk_ hs_ => (hk_) hs_)) (fun k_ hk_ => hk_.1)); have n1_ := Aside0.mk (Kd.R_reok rfl hy0 (fun k_ e_ => HO_10.out.1 k_ e_)); have n2_ := Aside0.mk (hb); clear HO_8; clear HO_10; clear HB; have HO_8 := n0_; have HO_10 := n1_; have HB := n2_; clear n0_ n1_ n2_; (try clear hb); (try clear hkp); (try clear hy0)) | (go_at_call 26; refine calls_of_args (args' := #[.slice Ao27 t237.length co27, .int .i64 1]) au10_5 ?_; (with_reducible refine (laws_heldCrossS.calls kj18 _ _ t237 1 t238 _ ?side1 ?side2 A39.out).mono ?_); (case side1 => exact au10_1); (case side2 => exact au10_3); rintro e w42 ⟨rfl, hb⟩; (try clear A39); have n0_ := Aside0.mk (Kd.R_below (rk_ HO_8) hb); have n1_ := Aside0.mk (Kd.R_below (rk_ HO_10) hb); have n2_ := Aside0.mk (below_step bl_ hb); clear HO_8; clear HO_10; clear HB; have HO_8 := n0_; have HO_10 := n1_; have HB := n2_; clear n0_ n1_ n2_; (try clear hb); (try clear hb2); (try clear hk); (try clear hi)))
                    go_ret
                    exact ⟨au10_2, bl_⟩
                  · rw [if_neg c40] at H
                    have c40b0 : decide (t238 < 0) = false := decide_eq_false c40
                    clear c40
                    by_cases c43 : t238 = t236
                    · rw [if_pos c43] at H
                      have c43b0 : (t238 == t236) = true := beq_iff_eq.mpr c43
                      have c43b1 : (t238 != t236) = false := bne_eq_false_iff_eq.mpr c43
                      clear c43
                      replace H := Option.bind_eq_some_iff.mp H
                      obtain ⟨t239, A440, H⟩ := H
                      replace H : ((impl_CrossDrop.f kj18 t239 a1 a2).bind fun t242 => ((laws_eqCrossS.f kj18 t242 t219).bind fun t245 => (if t245 = true then ((laws_heldCrossS.f kj18 t237 1).bind fun t246 => (if t246 < 0 then (some false) else (if t246 = t236 then (some true) else (some false)))) else (some false)))) = some r := H
                      have A44 := Aside0.mk A440
                      clear A440
                      replace H := Option.bind_eq_some_iff.mp H
                      obtain ⟨t242, A450, H⟩ := H
                      replace H : ((laws_eqCrossS.f kj18 t242 t219).bind fun t245 => (if t245 = true then ((laws_heldCrossS.f kj18 t237 1).bind fun t246 => (if t246 < 0 then (some false) else (if t246 = t236 then (some true) else (some false)))) else (some false))) = some r := H
                      have A45 := Aside0.mk A450
                      clear A450
                      replace H := Option.bind_eq_some_iff.mp H
                      obtain ⟨t245, A460, H⟩ := H
                      replace H : (if t245 = true then ((laws_heldCrossS.f kj18 t237 1).bind fun t246 => (if t246 < 0 then (some false) else (if t246 = t236 then (some true) else (some false)))) else (some false)) = some r := H
                      have A46 := Aside0.mk A460
                      clear A460
                      by_cases c47 : t245 = true
                      · subst c47
                        have H1 : ((laws_heldCrossS.f kj18 t237 1).bind fun t246 => (if t246 < 0 then (some false) else (if t246 = t236 then (some true) else (some false)))) = some r := by rw [if_pos rfl] at H; exact H
                        clear H
                        have H := H1
                        clear H1
                        replace H := Option.bind_eq_some_iff.mp H
                        obtain ⟨t246, A480, H⟩ := H
                        replace H : (if t246 < 0 then (some false) else (if t246 = t236 then (some true) else (some false))) = some r := H
                        have A48 := Aside0.mk A480
                        clear A480
                        by_cases c49 : t246 < 0
                        · rw [if_pos c49] at H
                          have c49b0 : decide (t246 < 0) = true := decide_eq_true c49
                          clear c49
                          obtain rfl := Option.some.inj H
                          go_wp2_with (first | (go_at_call 25; (with_reducible refine (laws_markCrossS.calls kj18 (fun k_ => some k_ = (.slice Ao27 t225.length co27 : Value).ownBlock) (.slice Ao27 t225.length co27) t225 1 t236 t237 w _ ?side1 ?side2 A38.out).mono ?_); (case side1 => exact au10_4); (case side2 => exact au10_17); rintro e w50 ⟨rfl, hy0, hb, hkp⟩; (try clear A38); have n0_ := Aside0.mk (Kd.R_mono (ok' := fun k_ => some k_ ≠ (.slice Ao27 t225.length co27 : Value).ownBlock) (Kd.R_keptB (HO_8.out) hkp (fun k_ hk_ hs_ => (hk_) hs_)) (fun k_ hk_ => hk_.1)); have n1_ := Aside0.mk (Kd.R_reok rfl hy0 (fun k_ e_ => HO_10.out.1 k_ e_)); have n2_ := Aside0.mk (hb); clear HO_8; clear HO_10; clear HB; have HO_8 := n0_; have HO_10 := n1_; have HB := n2_; clear n0_ n1_ n2_; (try clear hb); (try clear hkp); (try clear hy0)) | (go_at_call 26; refine calls_of_args (args' := #[.slice Ao27 t237.length co27, .int .i64 1]) au10_5 ?_; (with_reducible refine (laws_heldCrossS.calls kj18 _ _ t237 1 t238 _ ?side1 ?side2 A39.out).mono ?_); (case side1 => exact au10_1); (case side2 => exact au10_3); rintro e w51 ⟨rfl, hb⟩; (try clear A39); have n0_ := Aside0.mk (Kd.R_below (rk_ HO_8) hb); have n1_ := Aside0.mk (Kd.R_below (rk_ HO_10) hb); have n2_ := Aside0.mk (below_step bl_ hb); clear HO_8; clear HO_10; clear HB; have HO_8 := n0_; have HO_10 := n1_; have HB := n2_; clear n0_ n1_ n2_; (try clear hb); (try clear hb2); (try clear hk); (try clear hi)) | (go_at_call 16; (with_reducible refine (laws_toCrossS.calls kj18 _ _ l0 t239 _ ?side1 ?side2 A44.out).mono ?_); (case side1 => exact au10_0); (case side2 => exact HC0.out); rintro e w52 ⟨v240, rfl, ho0, hb⟩; (try clear A44); have n0_ := Aside0.mk (Kd.R_elder' (rk_ HO_8) (Kd.R_base ho0) hb); have n1_ := Aside0.mk (Kd.R_elder' (rk_ HO_10) (Kd.R_base ho0) hb); have n2_ := Aside0.mk (Kd.R_lower (Kd.R_new' (Kd.R_new' ho0 (Kd.R_lt (rk_ HO_8))) (Kd.R_lt (rk_ HO_10))) (below_size bl_)); have n3_ := Aside0.mk (below_step bl_ hb); clear HO_8; clear HO_10; clear HB; have HO_8 := n0_; have HO_10 := n1_; have HO241 := n2_; have HB := n3_; clear n0_ n1_ n2_ n3_; (try clear hb); (try clear hb2); (try clear hk); (try clear hi); (try clear ho0); obtain ⟨Ao53, co53, eo53⟩ := Kd.R_slice HO241.out; subst eo53) | (go_at_call 24; (with_reducible refine (impl_CrossDrop.calls kj18 _ _ t239 a1 a2 t242 _ ?side1 ?side2 A45.out).mono ?_); (case side1 => exact au10_9); (case side2 => exact au10_21); rintro e w54 ⟨v243, rfl, ho0, hb⟩; (try clear A45); have n0_ := Aside0.mk (Kd.R_elder' (rk_ HO_8) (Kd.R_base ho0) hb); have n1_ := Aside0.mk (Kd.R_elder' (rk_ HO_10) (Kd.R_base ho0) hb); have n2_ := Aside0.mk (Kd.R_elder' (rk_ HO241) (Kd.R_base ho0) hb); have n3_ := Aside0.mk (Kd.R_lower (Kd.R_new' (Kd.R_new' (Kd.R_new' ho0 (Kd.R_lt (rk_ HO_8))) (Kd.R_lt (rk_ HO_10))) (Kd.R_lt (rk_ HO241))) (below_size bl_)); have n4_ := Aside0.mk (below_step bl_ hb); clear HO_8; clear HO_10; clear HO241; clear HB; have HO_8 := n0_; have HO_10 := n1_; have HO241 := n2_; have HO244 := n3_; have HB := n4_; clear n0_ n1_ n2_ n3_ n4_; (try clear hb); (try clear hb2); (try clear hk); (try clear hi); (try clear ho0); obtain ⟨Ao55, co55, eo55⟩ := Kd.R_slice HO244.out; subst eo55) | (go_at_call 18; (with_reducible refine (laws_eqCrossS.calls kj18 _ _ t242 _ _ t219 true _ ?side1 ?side2 ?side3 ?side4 A46.out).mono ?_); (case side1 => exact au10_10); (case side2 => exact au10_22); (case side3 => exact au10_11); (case side4 => exact au10_23); rintro e w56 ⟨rfl, hb⟩; (try clear A46); have n0_ := Aside0.mk (Kd.R_below (rk_ HO_8) hb); have n1_ := Aside0.mk (Kd.R_below (rk_ HO_10) hb); have n2_ := Aside0.mk (Kd.R_below (rk_ HO241) hb); have n3_ := Aside0.mk (Kd.R_below (rk_ HO244) hb); have n4_ := Aside0.mk (below_step bl_ hb); clear HO_8; clear HO_10; clear HO241; clear HO244; clear HB; have HO_8 := n0_; have HO_10 := n1_; have HO241 := n2_; have HO244 := n3_; have HB := n4_; clear n0_ n1_ n2_ n3_ n4_; (try clear hb); (try clear hb2); (try clear hk); (try clear hi)) | (go_at_call 26; refine calls_of_args (args' := #[.slice Ao27 t237.length co27, .int .i64 1]) au10_5 ?_; (with_reducible refine (laws_heldCrossS.calls kj18 _ _ t237 1 t246 _ ?side1 ?side2 A48.out).mono ?_); (case side1 => exact au10_1); (case side2 => exact au10_3); rintro e w57 ⟨rfl, hb⟩; (try clear A48); have n0_ := Aside0.mk (Kd.R_below (rk_ HO_8) hb); have n1_ := Aside0.mk (Kd.R_below (rk_ HO_10) hb); have n2_ := Aside0.mk (Kd.R_below (rk_ HO241) hb); have n3_ := Aside0.mk (Kd.R_below (rk_ HO244) hb); have n4_ := Aside0.mk (below_step bl_ hb); clear HO_8; clear HO_10; clear HO241; clear HO244; clear HB; have HO_8 := n0_; have HO_10 := n1_; have HO241 := n2_; have HO244 := n3_; have HB := n4_; clear n0_ n1_ n2_ n3_ n4_; (try clear hb); (try clear hb2); (try clear hk); (try clear hi)))
                          go_ret
                          exact ⟨au10_2, bl_⟩
                        · rw [if_neg c49] at H
                          have c49b0 : decide (t246 < 0) = false := decide_eq_false c49
                          clear c49
                          by_cases c58 : t246 = t236
                          · rw [if_pos c58] at H
                            have c58b0 : (t246 == t236) = true := beq_iff_eq.mpr c58
                            have c58b1 : (t246 != t236) = false := bne_eq_false_iff_eq.mpr c58
                            clear c58
                            obtain rfl := Option.some.inj H
                            go_wp2_with (first | (go_at_call 25; (with_reducible refine (laws_markCrossS.calls kj18 (fun k_ => some k_ = (.slice Ao27 t225.length co27 : Value).ownBlock) (.slice Ao27 t225.length co27) t225 1 t236 t237 w _ ?side1 ?side2 A38.out).mono ?_); (case side1 => exact au10_4); (case side2 => exact au10_17); rintro e w59 ⟨rfl, hy0, hb, hkp⟩; (try clear A38); have n0_ := Aside0.mk (Kd.R_mono (ok' := fun k_ => some k_ ≠ (.slice Ao27 t225.length co27 : Value).ownBlock) (Kd.R_keptB (HO_8.out) hkp (fun k_ hk_ hs_ => (hk_) hs_)) (fun k_ hk_ => hk_.1)); have n1_ := Aside0.mk (Kd.R_reok rfl hy0 (fun k_ e_ => HO_10.out.1 k_ e_)); have n2_ := Aside0.mk (hb); clear HO_8; clear HO_10; clear HB; have HO_8 := n0_; have HO_10 := n1_; have HB := n2_; clear n0_ n1_ n2_; (try clear hb); (try clear hkp); (try clear hy0)) | (go_at_call 26; refine calls_of_args (args' := #[.slice Ao27 t237.length co27, .int .i64 1]) au10_5 ?_; (with_reducible refine (laws_heldCrossS.calls kj18 _ _ t237 1 t238 _ ?side1 ?side2 A39.out).mono ?_); (case side1 => exact au10_1); (case side2 => exact au10_3); rintro e w60 ⟨rfl, hb⟩; (try clear A39); have n0_ := Aside0.mk (Kd.R_below (rk_ HO_8) hb); have n1_ := Aside0.mk (Kd.R_below (rk_ HO_10) hb); have n2_ := Aside0.mk (below_step bl_ hb); clear HO_8; clear HO_10; clear HB; have HO_8 := n0_; have HO_10 := n1_; have HB := n2_; clear n0_ n1_ n2_; (try clear hb); (try clear hb2); (try clear hk); (try clear hi)) | (go_at_call 16; (with_reducible refine (laws_toCrossS.calls kj18 _ _ l0 t239 _ ?side1 ?side2 A44.out).mono ?_); (case side1 => exact au10_0); (case side2 => exact HC0.out); rintro e w61 ⟨v240, rfl, ho0, hb⟩; (try clear A44); have n0_ := Aside0.mk (Kd.R_elder' (rk_ HO_8) (Kd.R_base ho0) hb); have n1_ := Aside0.mk (Kd.R_elder' (rk_ HO_10) (Kd.R_base ho0) hb); have n2_ := Aside0.mk (Kd.R_lower (Kd.R_new' (Kd.R_new' ho0 (Kd.R_lt (rk_ HO_8))) (Kd.R_lt (rk_ HO_10))) (below_size bl_)); have n3_ := Aside0.mk (below_step bl_ hb); clear HO_8; clear HO_10; clear HB; have HO_8 := n0_; have HO_10 := n1_; have HO241 := n2_; have HB := n3_; clear n0_ n1_ n2_ n3_; (try clear hb); (try clear hb2); (try clear hk); (try clear hi); (try clear ho0); obtain ⟨Ao62, co62, eo62⟩ := Kd.R_slice HO241.out; subst eo62) | (go_at_call 24; (with_reducible refine (impl_CrossDrop.calls kj18 _ _ t239 a1 a2 t242 _ ?side1 ?side2 A45.out).mono ?_); (case side1 => exact au10_9); (case side2 => exact au10_21); rintro e w63 ⟨v243, rfl, ho0, hb⟩; (try clear A45); have n0_ := Aside0.mk (Kd.R_elder' (rk_ HO_8) (Kd.R_base ho0) hb); have n1_ := Aside0.mk (Kd.R_elder' (rk_ HO_10) (Kd.R_base ho0) hb); have n2_ := Aside0.mk (Kd.R_elder' (rk_ HO241) (Kd.R_base ho0) hb); have n3_ := Aside0.mk (Kd.R_lower (Kd.R_new' (Kd.R_new' (Kd.R_new' ho0 (Kd.R_lt (rk_ HO_8))) (Kd.R_lt (rk_ HO_10))) (Kd.R_lt (rk_ HO241))) (below_size bl_)); have n4_ := Aside0.mk (below_step bl_ hb); clear HO_8; clear HO_10; clear HO241; clear HB; have HO_8 := n0_; have HO_10 := n1_; have HO241 := n2_; have HO244 := n3_; have HB := n4_; clear n0_ n1_ n2_ n3_ n4_; (try clear hb); (try clear hb2); (try clear hk); (try clear hi); (try clear ho0); obtain ⟨Ao64, co64, eo64⟩ := Kd.R_slice HO244.out; subst eo64) | (go_at_call 18; (with_reducible refine (laws_eqCrossS.calls kj18 _ _ t242 _ _ t219 true _ ?side1 ?side2 ?side3 ?side4 A46.out).mono ?_); (case side1 => exact au10_10); (case side2 => exact au10_22); (case side3 => exact au10_11); (case side4 => exact au10_23); rintro e w65 ⟨rfl, hb⟩; (try clear A46); have n0_ := Aside0.mk (Kd.R_below (rk_ HO_8) hb); have n1_ := Aside0.mk (Kd.R_below (rk_ HO_10) hb); have n2_ := Aside0.mk (Kd.R_below (rk_ HO241) hb); have n3_ := Aside0.mk (Kd.R_below (rk_ HO244) hb); have n4_ := Aside0.mk (below_step bl_ hb); clear HO_8; clear HO_10; clear HO241; clear HO244; clear HB; have HO_8 := n0_; have HO_10 := n1_; have HO241 := n2_; have HO244 := n3_; have HB := n4_; clear n0_ n1_ n2_ n3_ n4_; (try clear hb); (try clear hb2); (try clear hk); (try clear hi)) | (go_at_call 26; refine calls_of_args (args' := #[.slice Ao27 t237.length co27, .int .i64 1]) au10_5 ?_; (with_reducible refine (laws_heldCrossS.calls kj18 _ _ t237 1 t246 _ ?side1 ?side2 A48.out).mono ?_); (case side1 => exact au10_1); (case side2 => exact au10_3); rintro e w66 ⟨rfl, hb⟩; (try clear A48); have n0_ := Aside0.mk (Kd.R_below (rk_ HO_8) hb); have n1_ := Aside0.mk (Kd.R_below (rk_ HO_10) hb); have n2_ := Aside0.mk (Kd.R_below (rk_ HO241) hb); have n3_ := Aside0.mk (Kd.R_below (rk_ HO244) hb); have n4_ := Aside0.mk (below_step bl_ hb); clear HO_8; clear HO_10; clear HO241; clear HO244; clear HB; have HO_8 := n0_; have HO_10 := n1_; have HO241 := n2_; have HO244 := n3_; have HB := n4_; clear n0_ n1_ n2_ n3_ n4_; (try clear hb); (try clear hb2); (try clear hk); (try clear hi)))
                            go_ret
                            exact ⟨au10_2, bl_⟩
                          · rw [if_neg c58] at H
                            have c58b0 : (t246 == t236) = false := beq_eq_false_iff_ne.mpr c58
                            have c58b1 : (t246 != t236) = true := bne_iff_ne.mpr c58
                            obtain rfl := Option.some.inj H
                            go_wp2_with (first | (go_at_call 25; (with_reducible refine (laws_markCrossS.calls kj18 (fun k_ => some k_ = (.slice Ao27 t225.length co27 : Value).ownBlock) (.slice Ao27 t225.length co27) t225 1 t236 t237 w _ ?side1 ?side2 A38.out).mono ?_); (case side1 => exact au10_4); (case side2 => exact au10_17); rintro e w67 ⟨rfl, hy0, hb, hkp⟩; (try clear A38); have n0_ := Aside0.mk (Kd.R_mono (ok' := fun k_ => some k_ ≠ (.slice Ao27 t225.length co27 : Value).ownBlock) (Kd.R_keptB (HO_8.out) hkp (fun k_ hk_ hs_ => (hk_) hs_)) (fun k_ hk_ => hk_.1)); have n1_ := Aside0.mk (Kd.R_reok rfl hy0 (fun k_ e_ => HO_10.out.1 k_ e_)); have n2_ := Aside0.mk (hb); clear HO_8; clear HO_10; clear HB; have HO_8 := n0_; have HO_10 := n1_; have HB := n2_; clear n0_ n1_ n2_; (try clear hb); (try clear hkp); (try clear hy0)) | (go_at_call 26; refine calls_of_args (args' := #[.slice Ao27 t237.length co27, .int .i64 1]) au10_5 ?_; (with_reducible refine (laws_heldCrossS.calls kj18 _ _ t237 1 t238 _ ?side1 ?side2 A39.out).mono ?_); (case side1 => exact au10_1); (case side2 => exact au10_3); rintro e w68 ⟨rfl, hb⟩; (try clear A39); have n0_ := Aside0.mk (Kd.R_below (rk_ HO_8) hb); have n1_ := Aside0.mk (Kd.R_below (rk_ HO_10) hb); have n2_ := Aside0.mk (below_step bl_ hb); clear HO_8; clear HO_10; clear HB; have HO_8 := n0_; have HO_10 := n1_; have HB := n2_; clear n0_ n1_ n2_; (try clear hb); (try clear hb2); (try clear hk); (try clear hi)) | (go_at_call 16; (with_reducible refine (laws_toCrossS.calls kj18 _ _ l0 t239 _ ?side1 ?side2 A44.out).mono ?_); (case side1 => exact au10_0); (case side2 => exact HC0.out); rintro e w69 ⟨v240, rfl, ho0, hb⟩; (try clear A44); have n0_ := Aside0.mk (Kd.R_elder' (rk_ HO_8) (Kd.R_base ho0) hb); have n1_ := Aside0.mk (Kd.R_elder' (rk_ HO_10) (Kd.R_base ho0) hb); have n2_ := Aside0.mk (Kd.R_lower (Kd.R_new' (Kd.R_new' ho0 (Kd.R_lt (rk_ HO_8))) (Kd.R_lt (rk_ HO_10))) (below_size bl_)); have n3_ := Aside0.mk (below_step bl_ hb); clear HO_8; clear HO_10; clear HB; have HO_8 := n0_; have HO_10 := n1_; have HO241 := n2_; have HB := n3_; clear n0_ n1_ n2_ n3_; (try clear hb); (try clear hb2); (try clear hk); (try clear hi); (try clear ho0); obtain ⟨Ao70, co70, eo70⟩ := Kd.R_slice HO241.out; subst eo70) | (go_at_call 24; (with_reducible refine (impl_CrossDrop.calls kj18 _ _ t239 a1 a2 t242 _ ?side1 ?side2 A45.out).mono ?_); (case side1 => exact au10_9); (case side2 => exact au10_21); rintro e w71 ⟨v243, rfl, ho0, hb⟩; (try clear A45); have n0_ := Aside0.mk (Kd.R_elder' (rk_ HO_8) (Kd.R_base ho0) hb); have n1_ := Aside0.mk (Kd.R_elder' (rk_ HO_10) (Kd.R_base ho0) hb); have n2_ := Aside0.mk (Kd.R_elder' (rk_ HO241) (Kd.R_base ho0) hb); have n3_ := Aside0.mk (Kd.R_lower (Kd.R_new' (Kd.R_new' (Kd.R_new' ho0 (Kd.R_lt (rk_ HO_8))) (Kd.R_lt (rk_ HO_10))) (Kd.R_lt (rk_ HO241))) (below_size bl_)); have n4_ := Aside0.mk (below_step bl_ hb); clear HO_8; clear HO_10; clear HO241; clear HB; have HO_8 := n0_; have HO_10 := n1_; have HO241 := n2_; have HO244 := n3_; have HB := n4_; clear n0_ n1_ n2_ n3_ n4_; (try clear hb); (try clear hb2); (try clear hk); (try clear hi); (try clear ho0); obtain ⟨Ao72, co72, eo72⟩ := Kd.R_slice HO244.out; subst eo72) | (go_at_call 18; (with_reducible refine (laws_eqCrossS.calls kj18 _ _ t242 _ _ t219 true _ ?side1 ?side2 ?side3 ?side4 A46.out).mono ?_); (case side1 => exact au10_10); (case side2 => exact au10_22); (case side3 => exact au10_11); (case side4 => exact au10_23); rintro e w73 ⟨rfl, hb⟩; (try clear A46); have n0_ := Aside0.mk (Kd.R_below (rk_ HO_8) hb); have n1_ := Aside0.mk (Kd.R_below (rk_ HO_10) hb); have n2_ := Aside0.mk (Kd.R_below (rk_ HO241) hb); have n3_ := Aside0.mk (Kd.R_below (rk_ HO244) hb); have n4_ := Aside0.mk (below_step bl_ hb); clear HO_8; clear HO_10; clear HO241; clear HO244; clear HB; have HO_8 := n0_; have HO_10 := n1_; have HO241 := n2_; have HO244 := n3_; have HB := n4_; clear n0_ n1_ n2_ n3_ n4_; (try clear hb); (try clear hb2); (try clear hk); (try clear hi)) | (go_at_call 26; refine calls_of_args (args' := #[.slice Ao27 t237.length co27, .int .i64 1]) au10_5 ?_; (with_reducible refine (laws_heldCrossS.calls kj18 _ _ t237 1 t246 _ ?side1 ?side2 A48.out).mono ?_); (case side1 => exact au10_1); (case side2 => exact au10_3); rintro e w74 ⟨rfl, hb⟩; (try clear A48); have n0_ := Aside0.mk (Kd.R_below (rk_ HO_8) hb); have n1_ := Aside0.mk (Kd.R_below (rk_ HO_10) hb); have n2_ := Aside0.mk (Kd.R_below (rk_ HO241) hb); have n3_ := Aside0.mk (Kd.R_below (rk_ HO244) hb); have n4_ := Aside0.mk (below_step bl_ hb); clear HO_8; clear HO_10; clear HO241; clear HO244; clear HB; have HO_8 := n0_; have HO_10 := n1_; have HO241 := n2_; have HO244 := n3_; have HB := n4_; clear n0_ n1_ n2_ n3_ n4_; (try clear hb); (try clear hb2); (try clear hk); (try clear hi)))
                            go_ret
                            exact ⟨au10_2, bl_⟩
                      · replace c47 := Bool.eq_false_iff.mpr c47
                        subst c47
                        have H1 : (some false) = some r := by rw [if_neg (show ¬ (false = true) by decide)] at H; exact H
                        clear H
                        have H := H1
                        clear H1
                        obtain rfl := Option.some.inj H
                        go_wp2_with (first | (go_at_call 25; (with_reducible refine (laws_markCrossS.calls kj18 (fun k_ => some k_ = (.slice Ao27 t225.length co27 : Value).ownBlock) (.slice Ao27 t225.length co27) t225 1 t236 t237 w _ ?side1 ?side2 A38.out).mono ?_); (case side1 => exact au10_4); (case side2 => exact au10_17); rintro e w75 ⟨rfl, hy0, hb, hkp⟩; (try clear A38); have n0_ := Aside0.mk (Kd.R_mono (ok' := fun k_ => some k_ ≠ (.slice Ao27 t225.length co27 : Value).ownBlock) (Kd.R_keptB (HO_8.out) hkp (fun k_ hk_ hs_ => (hk_) hs_)) (fun k_ hk_ => hk_.1)); have n1_ := Aside0.mk (Kd.R_reok rfl hy0 (fun k_ e_ => HO_10.out.1 k_ e_)); have n2_ := Aside0.mk (hb); clear HO_8; clear HO_10; clear HB; have HO_8 := n0_; have HO_10 := n1_; have HB := n2_; clear n0_ n1_ n2_; (try clear hb); (try clear hkp); (try clear hy0)) | (go_at_call 26; refine calls_of_args (args' := #[.slice Ao27 t237.length co27, .int .i64 1]) au10_5 ?_; (with_reducible refine (laws_heldCrossS.calls kj18 _ _ t237 1 t238 _ ?side1 ?side2 A39.out).mono ?_); (case side1 => exact au10_1); (case side2 => exact au10_3); rintro e w76 ⟨rfl, hb⟩; (try clear A39); have n0_ := Aside0.mk (Kd.R_below (rk_ HO_8) hb); have n1_ := Aside0.mk (Kd.R_below (rk_ HO_10) hb); have n2_ := Aside0.mk (below_step bl_ hb); clear HO_8; clear HO_10; clear HB; have HO_8 := n0_; have HO_10 := n1_; have HB := n2_; clear n0_ n1_ n2_; (try clear hb); (try clear hb2); (try clear hk); (try clear hi)) | (go_at_call 16; (with_reducible refine (laws_toCrossS.calls kj18 _ _ l0 t239 _ ?side1 ?side2 A44.out).mono ?_); (case side1 => exact au10_0); (case side2 => exact HC0.out); rintro e w77 ⟨v240, rfl, ho0, hb⟩; (try clear A44); have n0_ := Aside0.mk (Kd.R_elder' (rk_ HO_8) (Kd.R_base ho0) hb); have n1_ := Aside0.mk (Kd.R_elder' (rk_ HO_10) (Kd.R_base ho0) hb); have n2_ := Aside0.mk (Kd.R_lower (Kd.R_new' (Kd.R_new' ho0 (Kd.R_lt (rk_ HO_8))) (Kd.R_lt (rk_ HO_10))) (below_size bl_)); have n3_ := Aside0.mk (below_step bl_ hb); clear HO_8; clear HO_10; clear HB; have HO_8 := n0_; have HO_10 := n1_; have HO241 := n2_; have HB := n3_; clear n0_ n1_ n2_ n3_; (try clear hb); (try clear hb2); (try clear hk); (try clear hi); (try clear ho0); obtain ⟨Ao78, co78, eo78⟩ := Kd.R_slice HO241.out; subst eo78) | (go_at_call 24; (with_reducible refine (impl_CrossDrop.calls kj18 _ _ t239 a1 a2 t242 _ ?side1 ?side2 A45.out).mono ?_); (case side1 => exact au10_9); (case side2 => exact au10_21); rintro e w79 ⟨v243, rfl, ho0, hb⟩; (try clear A45); have n0_ := Aside0.mk (Kd.R_elder' (rk_ HO_8) (Kd.R_base ho0) hb); have n1_ := Aside0.mk (Kd.R_elder' (rk_ HO_10) (Kd.R_base ho0) hb); have n2_ := Aside0.mk (Kd.R_elder' (rk_ HO241) (Kd.R_base ho0) hb); have n3_ := Aside0.mk (Kd.R_lower (Kd.R_new' (Kd.R_new' (Kd.R_new' ho0 (Kd.R_lt (rk_ HO_8))) (Kd.R_lt (rk_ HO_10))) (Kd.R_lt (rk_ HO241))) (below_size bl_)); have n4_ := Aside0.mk (below_step bl_ hb); clear HO_8; clear HO_10; clear HO241; clear HB; have HO_8 := n0_; have HO_10 := n1_; have HO241 := n2_; have HO244 := n3_; have HB := n4_; clear n0_ n1_ n2_ n3_ n4_; (try clear hb); (try clear hb2); (try clear hk); (try clear hi); (try clear ho0); obtain ⟨Ao80, co80, eo80⟩ := Kd.R_slice HO244.out; subst eo80) | (go_at_call 18; (with_reducible refine (laws_eqCrossS.calls kj18 _ _ t242 _ _ t219 false _ ?side1 ?side2 ?side3 ?side4 A46.out).mono ?_); (case side1 => exact au10_10); (case side2 => exact au10_22); (case side3 => exact au10_11); (case side4 => exact au10_23); rintro e w81 ⟨rfl, hb⟩; (try clear A46); have n0_ := Aside0.mk (Kd.R_below (rk_ HO_8) hb); have n1_ := Aside0.mk (Kd.R_below (rk_ HO_10) hb); have n2_ := Aside0.mk (Kd.R_below (rk_ HO241) hb); have n3_ := Aside0.mk (Kd.R_below (rk_ HO244) hb); have n4_ := Aside0.mk (below_step bl_ hb); clear HO_8; clear HO_10; clear HO241; clear HO244; clear HB; have HO_8 := n0_; have HO_10 := n1_; have HO241 := n2_; have HO244 := n3_; have HB := n4_; clear n0_ n1_ n2_ n3_ n4_; (try clear hb); (try clear hb2); (try clear hk); (try clear hi)))
                        go_ret
                        exact ⟨au10_2, bl_⟩
                    · rw [if_neg c43] at H
                      have c43b0 : (t238 == t236) = false := beq_eq_false_iff_ne.mpr c43
                      have c43b1 : (t238 != t236) = true := bne_iff_ne.mpr c43
                      obtain rfl := Option.some.inj H
                      go_wp2_with (first | (go_at_call 25; (with_reducible refine (laws_markCrossS.calls kj18 (fun k_ => some k_ = (.slice Ao27 t225.length co27 : Value).ownBlock) (.slice Ao27 t225.length co27) t225 1 t236 t237 w _ ?side1 ?side2 A38.out).mono ?_); (case side1 => exact au10_4); (case side2 => exact au10_17); rintro e w82 ⟨rfl, hy0, hb, hkp⟩; (try clear A38); have n0_ := Aside0.mk (Kd.R_mono (ok' := fun k_ => some k_ ≠ (.slice Ao27 t225.length co27 : Value).ownBlock) (Kd.R_keptB (HO_8.out) hkp (fun k_ hk_ hs_ => (hk_) hs_)) (fun k_ hk_ => hk_.1)); have n1_ := Aside0.mk (Kd.R_reok rfl hy0 (fun k_ e_ => HO_10.out.1 k_ e_)); have n2_ := Aside0.mk (hb); clear HO_8; clear HO_10; clear HB; have HO_8 := n0_; have HO_10 := n1_; have HB := n2_; clear n0_ n1_ n2_; (try clear hb); (try clear hkp); (try clear hy0)) | (go_at_call 26; refine calls_of_args (args' := #[.slice Ao27 t237.length co27, .int .i64 1]) au10_5 ?_; (with_reducible refine (laws_heldCrossS.calls kj18 _ _ t237 1 t238 _ ?side1 ?side2 A39.out).mono ?_); (case side1 => exact au10_1); (case side2 => exact au10_3); rintro e w83 ⟨rfl, hb⟩; (try clear A39); have n0_ := Aside0.mk (Kd.R_below (rk_ HO_8) hb); have n1_ := Aside0.mk (Kd.R_below (rk_ HO_10) hb); have n2_ := Aside0.mk (below_step bl_ hb); clear HO_8; clear HO_10; clear HB; have HO_8 := n0_; have HO_10 := n1_; have HB := n2_; clear n0_ n1_ n2_; (try clear hb); (try clear hb2); (try clear hk); (try clear hi)))
                      go_ret
                      exact ⟨au10_2, bl_⟩
          · replace c17 := Bool.eq_false_iff.mpr c17
            subst c17
            have H1 : (some false) = some r := by rw [if_neg (show ¬ (false = true) by decide)] at H; exact H
            clear H
            have H := H1
            clear H1
            obtain rfl := Option.some.inj H
            go_enter Try.func6, Try.ntmps6
            go_wp2_with (first | (go_at_call 14; (with_reducible refine (laws_szCrossS.calls k _ _ l0 1048576 t215 _ ?side1 ?side2 A6.out).mono ?_); (case side1 => exact au10_12); (case side2 => exact HC0.out); rintro e w84 ⟨rfl, hb⟩; (try clear A6); have n0_ := Aside0.mk (below_step bl_ hb); clear HB; have HB := n0_; clear n0_; (try clear hb); (try clear hb2); (try clear hk); (try clear hi)) | (go_at_call 16; (with_reducible refine (laws_toCrossS.calls k _ _ l0 t216 _ ?side1 ?side2 A9.out).mono ?_); (case side1 => exact au10_0); (case side2 => exact HC0.out); rintro e w85 ⟨v217, rfl, ho0, hb⟩; (try clear A9); have n0_ := Aside0.mk (Kd.R_lower ho0 (below_size bl_)); have n1_ := Aside0.mk (below_step bl_ hb); clear HB; have HO218 := n0_; have HB := n1_; clear n0_ n1_; (try clear hb); (try clear hb2); (try clear hk); (try clear hi); (try clear ho0); obtain ⟨Ao86, co86, eo86⟩ := Kd.R_slice HO218.out; subst eo86) | (go_at_call 23; (with_reducible refine (spec_CrossDrop.calls k _ _ t216 a1 a2 t219 _ ?side1 ?side2 A10.out).mono ?_); (case side1 => exact au10_13); (case side2 => exact (Kd.R_reads' HO218.out).2.1); rintro e w87 ⟨v220, rfl, ho0, hb⟩; (try clear A10); have n0_ := Aside0.mk (Kd.R_elder' (rk_ HO218) (Kd.R_base ho0) hb); have n1_ := Aside0.mk (Kd.R_lower (Kd.R_new' ho0 (Kd.R_lt (rk_ HO218))) (below_size bl_)); have n2_ := Aside0.mk (below_step bl_ hb); clear HO218; clear HB; have HO218 := n0_; have HO221 := n1_; have HB := n2_; clear n0_ n1_ n2_; (try clear hb); (try clear hb2); (try clear hk); (try clear hi); (try clear ho0)) | (go_at_call 16; (with_reducible refine (laws_toCrossS.calls k _ _ l0 t222 _ ?side1 ?side2 A11.out).mono ?_); (case side1 => exact au10_0); (case side2 => exact HC0.out); rintro e w88 ⟨v223, rfl, ho0, hb⟩; (try clear A11); have n0_ := Aside0.mk (Kd.R_elder' (rk_ HO218) (Kd.R_base ho0) hb); have n1_ := Aside0.mk (Kd.R_elder' (rk_ HO221) (Kd.R_base ho0) hb); have n2_ := Aside0.mk (Kd.R_lower (Kd.R_new' (Kd.R_new' ho0 (Kd.R_lt (rk_ HO218))) (Kd.R_lt (rk_ HO221))) (below_size bl_)); have n3_ := Aside0.mk (below_step bl_ hb); clear HO218; clear HO221; clear HB; have HO218 := n0_; have HO221 := n1_; have HO224 := n2_; have HB := n3_; clear n0_ n1_ n2_ n3_; (try clear hb); (try clear hb2); (try clear hk); (try clear hi); (try clear ho0); obtain ⟨Ao89, co89, eo89⟩ := Kd.R_slice HO224.out; subst eo89) | (go_at_call 24; (with_reducible refine (impl_CrossDrop.calls k _ _ t222 a1 a2 t225 _ ?side1 ?side2 A12.out).mono ?_); (case side1 => exact au10_6); (case side2 => exact au10_18); rintro e w90 ⟨v226, rfl, ho0, hb⟩; (try clear A12); have n0_ := Aside0.mk (Kd.R_elder' (rk_ HO218) (Kd.R_base ho0) hb); have n1_ := Aside0.mk (Kd.R_elder' (rk_ HO221) (Kd.R_base ho0) hb); have n2_ := Aside0.mk (Kd.R_elder' (rk_ HO224) (Kd.R_base ho0) hb); have n3_ := Aside0.mk (Kd.R_lower (Kd.R_new' (Kd.R_new' (Kd.R_new' ho0 (Kd.R_lt (rk_ HO218))) (Kd.R_lt (rk_ HO221))) (Kd.R_lt (rk_ HO224))) (below_size bl_)); have n4_ := Aside0.mk (below_step bl_ hb); clear HO218; clear HO221; clear HO224; clear HB; have HO218 := n0_; have HO221 := n1_; have HO224 := n2_; have HO227 := n3_; have HB := n4_; clear n0_ n1_ n2_ n3_ n4_; (try clear hb); (try clear hb2); (try clear hk); (try clear hi); (try clear ho0); obtain ⟨Ao91, co91, eo91⟩ := Kd.R_slice HO227.out; subst eo91; obtain ⟨Ao92, co92, eo92⟩ := Kd.R_slice HO221.out; subst eo92) | (go_at_call 18; (with_reducible refine (laws_eqCrossS.calls k _ _ t225 _ _ t219 true _ ?side1 ?side2 ?side3 ?side4 A13.out).mono ?_); (case side1 => exact au10_7); (case side2 => exact au10_19); (case side3 => exact au10_8); (case side4 => exact au10_20); rintro e w93 ⟨rfl, hb⟩; (try clear A13); have n0_ := Aside0.mk (Kd.R_below (rk_ HO218) hb); have n1_ := Aside0.mk (Kd.R_below (rk_ HO221) hb); have n2_ := Aside0.mk (Kd.R_below (rk_ HO224) hb); have n3_ := Aside0.mk (Kd.R_below (rk_ HO227) hb); have n4_ := Aside0.mk (below_step bl_ hb); clear HO218; clear HO221; clear HO224; clear HO227; clear HB; have HO218 := n0_; have HO221 := n1_; have HO224 := n2_; have HO227 := n3_; have HB := n4_; clear n0_ n1_ n2_ n3_ n4_; (try clear hb); (try clear hb2); (try clear hk); (try clear hi)) | (go_at_call 16; (with_reducible refine (laws_toCrossS.calls k _ _ l0 t229 _ ?side1 ?side2 A15.out).mono ?_); (case side1 => exact au10_0); (case side2 => exact HC0.out); rintro e w94 ⟨v230, rfl, ho0, hb⟩; (try clear A15); have n0_ := Aside0.mk (Kd.R_elder' (rk_ HO218) (Kd.R_base ho0) hb); have n1_ := Aside0.mk (Kd.R_elder' (rk_ HO221) (Kd.R_base ho0) hb); have n2_ := Aside0.mk (Kd.R_elder' (rk_ HO224) (Kd.R_base ho0) hb); have n3_ := Aside0.mk (Kd.R_elder' (rk_ HO227) (Kd.R_base ho0) hb); have n4_ := Aside0.mk (Kd.R_lower (Kd.R_new' (Kd.R_new' (Kd.R_new' (Kd.R_new' ho0 (Kd.R_lt (rk_ HO218))) (Kd.R_lt (rk_ HO221))) (Kd.R_lt (rk_ HO224))) (Kd.R_lt (rk_ HO227))) (below_size bl_)); have n5_ := Aside0.mk (below_step bl_ hb); clear HO218; clear HO221; clear HO224; clear HO227; clear HB; have HO218 := n0_; have HO221 := n1_; have HO224 := n2_; have HO227 := n3_; have HO231 := n4_; have HB := n5_; clear n0_ n1_ n2_ n3_ n4_ n5_; (try clear hb); (try clear hb2); (try clear hk); (try clear hi); (try clear ho0); obtain ⟨Ao95, co95, eo95⟩ := Kd.R_slice HO231.out; subst eo95) | (go_at_call 18; (with_reducible refine (laws_eqCrossS.calls k _ _ t222 _ _ t229 false _ ?side1 ?side2 ?side3 ?side4 A16.out).mono ?_); (case side1 => exact au10_6); (case side2 => exact au10_18); (case side3 => exact au10_14); (case side4 => exact (Kd.R_reads' HO231.out).2.1); rintro e w96 ⟨rfl, hb⟩; (try clear A16); have n0_ := Aside0.mk (Kd.R_below (rk_ HO218) hb); have n1_ := Aside0.mk (Kd.R_below (rk_ HO221) hb); have n2_ := Aside0.mk (Kd.R_below (rk_ HO224) hb); have n3_ := Aside0.mk (Kd.R_below (rk_ HO227) hb); have n4_ := Aside0.mk (Kd.R_below (rk_ HO231) hb); have n5_ := Aside0.mk (below_step bl_ hb); clear HO218; clear HO221; clear HO224; clear HO227; clear HO231; clear HB; have HO218 := n0_; have HO221 := n1_; have HO224 := n2_; have HO227 := n3_; have HO231 := n4_; have HB := n5_; clear n0_ n1_ n2_ n3_ n4_ n5_; (try clear hb); (try clear hb2); (try clear hk); (try clear hi)))
            go_ret
            exact ⟨au10_2, bl_⟩
        · replace c14 := Bool.eq_false_iff.mpr c14
          subst c14
          have H1 : (some false) = some r := by rw [if_neg (show ¬ (false = true) by decide)] at H; exact H
          clear H
          have H := H1
          clear H1
          obtain rfl := Option.some.inj H
          go_enter Try.func6, Try.ntmps6
          go_wp2_with (first | (go_at_call 14; (with_reducible refine (laws_szCrossS.calls k _ _ l0 1048576 t215 _ ?side1 ?side2 A6.out).mono ?_); (case side1 => exact au10_12); (case side2 => exact HC0.out); rintro e w97 ⟨rfl, hb⟩; (try clear A6); have n0_ := Aside0.mk (below_step bl_ hb); clear HB; have HB := n0_; clear n0_; (try clear hb); (try clear hb2); (try clear hk); (try clear hi)) | (go_at_call 16; (with_reducible refine (laws_toCrossS.calls k _ _ l0 t216 _ ?side1 ?side2 A9.out).mono ?_); (case side1 => exact au10_0); (case side2 => exact HC0.out); rintro e w98 ⟨v217, rfl, ho0, hb⟩; (try clear A9); have n0_ := Aside0.mk (Kd.R_lower ho0 (below_size bl_)); have n1_ := Aside0.mk (below_step bl_ hb); clear HB; have HO218 := n0_; have HB := n1_; clear n0_ n1_; (try clear hb); (try clear hb2); (try clear hk); (try clear hi); (try clear ho0); obtain ⟨Ao99, co99, eo99⟩ := Kd.R_slice HO218.out; subst eo99) | (go_at_call 23; (with_reducible refine (spec_CrossDrop.calls k _ _ t216 a1 a2 t219 _ ?side1 ?side2 A10.out).mono ?_); (case side1 => exact au10_13); (case side2 => exact (Kd.R_reads' HO218.out).2.1); rintro e w100 ⟨v220, rfl, ho0, hb⟩; (try clear A10); have n0_ := Aside0.mk (Kd.R_elder' (rk_ HO218) (Kd.R_base ho0) hb); have n1_ := Aside0.mk (Kd.R_lower (Kd.R_new' ho0 (Kd.R_lt (rk_ HO218))) (below_size bl_)); have n2_ := Aside0.mk (below_step bl_ hb); clear HO218; clear HB; have HO218 := n0_; have HO221 := n1_; have HB := n2_; clear n0_ n1_ n2_; (try clear hb); (try clear hb2); (try clear hk); (try clear hi); (try clear ho0)) | (go_at_call 16; (with_reducible refine (laws_toCrossS.calls k _ _ l0 t222 _ ?side1 ?side2 A11.out).mono ?_); (case side1 => exact au10_0); (case side2 => exact HC0.out); rintro e w101 ⟨v223, rfl, ho0, hb⟩; (try clear A11); have n0_ := Aside0.mk (Kd.R_elder' (rk_ HO218) (Kd.R_base ho0) hb); have n1_ := Aside0.mk (Kd.R_elder' (rk_ HO221) (Kd.R_base ho0) hb); have n2_ := Aside0.mk (Kd.R_lower (Kd.R_new' (Kd.R_new' ho0 (Kd.R_lt (rk_ HO218))) (Kd.R_lt (rk_ HO221))) (below_size bl_)); have n3_ := Aside0.mk (below_step bl_ hb); clear HO218; clear HO221; clear HB; have HO218 := n0_; have HO221 := n1_; have HO224 := n2_; have HB := n3_; clear n0_ n1_ n2_ n3_; (try clear hb); (try clear hb2); (try clear hk); (try clear hi); (try clear ho0); obtain ⟨Ao102, co102, eo102⟩ := Kd.R_slice HO224.out; subst eo102) | (go_at_call 24; (with_reducible refine (impl_CrossDrop.calls k _ _ t222 a1 a2 t225 _ ?side1 ?side2 A12.out).mono ?_); (case side1 => exact au10_6); (case side2 => exact au10_18); rintro e w103 ⟨v226, rfl, ho0, hb⟩; (try clear A12); have n0_ := Aside0.mk (Kd.R_elder' (rk_ HO218) (Kd.R_base ho0) hb); have n1_ := Aside0.mk (Kd.R_elder' (rk_ HO221) (Kd.R_base ho0) hb); have n2_ := Aside0.mk (Kd.R_elder' (rk_ HO224) (Kd.R_base ho0) hb); have n3_ := Aside0.mk (Kd.R_lower (Kd.R_new' (Kd.R_new' (Kd.R_new' ho0 (Kd.R_lt (rk_ HO218))) (Kd.R_lt (rk_ HO221))) (Kd.R_lt (rk_ HO224))) (below_size bl_)); have n4_ := Aside0.mk (below_step bl_ hb); clear HO218; clear HO221; clear HO224; clear HB; have HO218 := n0_; have HO221 := n1_; have HO224 := n2_; have HO227 := n3_; have HB := n4_; clear n0_ n1_ n2_ n3_ n4_; (try clear hb); (try clear hb2); (try clear hk); (try clear hi); (try clear ho0); obtain ⟨Ao104, co104, eo104⟩ := Kd.R_slice HO227.out; subst eo104; obtain ⟨Ao105, co105, eo105⟩ := Kd.R_slice HO221.out; subst eo105) | (go_at_call 18; (with_reducible refine (laws_eqCrossS.calls k _ _ t225 _ _ t219 false _ ?side1 ?side2 ?side3 ?side4 A13.out).mono ?_); (case side1 => exact au10_7); (case side2 => exact au10_19); (case side3 => exact au10_8); (case side4 => exact au10_20); rintro e w106 ⟨rfl, hb⟩; (try clear A13); have n0_ := Aside0.mk (Kd.R_below (rk_ HO218) hb); have n1_ := Aside0.mk (Kd.R_below (rk_ HO221) hb); have n2_ := Aside0.mk (Kd.R_below (rk_ HO224) hb); have n3_ := Aside0.mk (Kd.R_below (rk_ HO227) hb); have n4_ := Aside0.mk (below_step bl_ hb); clear HO218; clear HO221; clear HO224; clear HO227; clear HB; have HO218 := n0_; have HO221 := n1_; have HO224 := n2_; have HO227 := n3_; have HB := n4_; clear n0_ n1_ n2_ n3_ n4_; (try clear hb); (try clear hb2); (try clear hk); (try clear hi)))
          go_ret
          exact ⟨au10_2, bl_⟩

/-- THE ONE PURE STATEMENT of laws_FnExactCrossDrop: yours. -/
def laws_FnExactCrossDrop.Pure : Prop := ∀ (l0 : List (S34)) (a1 : ByteArray) (a2 : ByteArray), (fun xs_ : List (S34) => xs_.length ≤ maxLen ∧ ∀ x_ ∈ xs_, q34 x_) l0 → (fun s_ : ByteArray => s_.size ≤ maxLen) a1 → (fun s_ : ByteArray => s_.size ≤ maxLen) a2 → ∃ k, laws_FnExactCrossDrop.f k l0 a1 a2 = some true

end Go.Proofs.Ytjffakoifpldeaa.PFnExactCrossDrop
