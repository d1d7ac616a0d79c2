-- printed by a program of this session (wip/xp/xprint.py) out of the translation; Lean checks it
import Derived.Test.YtlghcbmkhdibdaaPFnExactIxRightx0
import Derived.Test.YtlghcbmkhdibdaaPFnExactIxRightx7
import Derived.Test.YtlghcbmkhdibdaaPFnExactIxRightx8
namespace Go.Proofs.Ytlghcbmkhdibdaa.PFnExactIxRight
open Go.RowKit Go.Proofs.YtlghcbmkhdibdaaW.PrintWords Go.Proofs.YtlghcbmkhdibdaaW.PrintLast Go.Proofs.YtlghcbmkhdibdaaW.PrintMore
attribute [local go_sem] max2_int min2_int max_two min_two max_three min_three max_four min_four   -- for this text's walks alone
set_option linter.unusedVariables false
set_option linter.unusedSimpArgs false

theorem au9_0 {p : Prop} (h : p := by first | rfl | (simp [errW_none, errW_some] <;> rfl) | (simp [*, errW_none, errW_some] <;> rfl)) : p := h
theorem au9_1 {p : Prop} (h : p := by repeat (first | exact HR0.out | (with_reducible refine Kd.C_alloc ?_ _) | (with_reducible refine Kd.C_drewN ?_ _) | (with_reducible refine Kd.C_drew ?_))) : p := h
theorem au9_2 {p : Prop} (h : p := by repeat (first | exact (Kd.C_below HR247_1.out HB.out) | (with_reducible refine Kd.C_alloc ?_ _) | (with_reducible refine Kd.C_drewN ?_ _) | (with_reducible refine Kd.C_drew ?_))) : p := h
theorem au9_3 {p : Prop} (h : p := by repeat (first | exact (Kd.C_below HR255_1.out HB.out) | (with_reducible refine Kd.C_alloc ?_ _) | (with_reducible refine Kd.C_drewN ?_ _) | (with_reducible refine Kd.C_drew ?_))) : p := h
theorem au9_4 {p : Prop} (h : p := by repeat (first | exact (Kd.C_below HR265_2.out HB.out) | (with_reducible refine Kd.C_alloc ?_ _) | (with_reducible refine Kd.C_drewN ?_ _) | (with_reducible refine Kd.C_drew ?_))) : p := h

/-! ### impl_Segment_85__impl_messageRight_1: function 85 -/
def impl_Segment_85__impl_messageRight_1.l0 : Nat → List (S88) → Int → Int → Option (Int)
  | 0, _, _, _ => none
  | k + 1, x0, x7, x8 => if x8 < x7 then (if 0 ≤ x8 then (if x8 < (x0.length : Int) then ((impl_messageRight_1.f k ((rd_T88 x0 x8).f0) ((rd_T88 x0 x8).f1)).bind fun t248 => (if t248 = true then (some x8) else (impl_Segment_85__impl_messageRight_1.l0 k x0 x7 (wrap64 (x8 + 1))))) else (none)) else (none)) else (some (-1))
def impl_Segment_85__impl_messageRight_1.f (k : Nat) (l0 : List (S88))  : Option (Int) := impl_Segment_85__impl_messageRight_1.l0 k l0 (l0.length : Int) 0
theorem impl_Segment_85__impl_messageRight_1.mono_l : ∀ k, (∀ y0 y1 y2, LeO (impl_Segment_85__impl_messageRight_1.l0 k y0 y1 y2) (impl_Segment_85__impl_messageRight_1.l0 (k + 1) y0 y1 y2))
  | 0 => fun _ _ _ r h => by simp [impl_Segment_85__impl_messageRight_1.l0] at h
  | k + 1 => by
    have ih0 := impl_Segment_85__impl_messageRight_1.mono_l k
    · intro y0 y1 y2
      unfold impl_Segment_85__impl_messageRight_1.l0
      repeat' first
      | (with_reducible exact ih0 _ _ _)
      | (with_reducible exact impl_messageRight_1.mono _ _ _)
      | (with_reducible exact LeO.refl _)
      | (with_reducible exact LeO.none _)
      | (with_reducible refine LeO.ite ?_ ?_)
      | (with_reducible refine LeO.bind ?_ (fun _ => ?_))
      | exact ih0 _ _ _
      | exact impl_messageRight_1.mono _ _ _
      | exact LeO.none _
      | refine LeO.ite ?_ ?_
      | refine LeO.bind ?_ (fun _ => ?_)
theorem impl_Segment_85__impl_messageRight_1.mono : ∀ a0 k, LeO (impl_Segment_85__impl_messageRight_1.f k a0) (impl_Segment_85__impl_messageRight_1.f (k + 1) a0) := by
  intro a0 k
  have ih0 := impl_Segment_85__impl_messageRight_1.mono_l k
  unfold impl_Segment_85__impl_messageRight_1.f
  repeat' first
      | (with_reducible exact ih0 _ _ _)
      | (with_reducible exact impl_messageRight_1.mono _ _ _)
      | (with_reducible exact LeO.refl _)
      | (with_reducible exact LeO.none _)
      | (with_reducible refine LeO.ite ?_ ?_)
      | (with_reducible refine LeO.bind ?_ (fun _ => ?_))
      | exact ih0 _ _ _
      | exact impl_messageRight_1.mono _ _ _
      | exact LeO.none _
      | refine LeO.ite ?_ ?_
      | refine LeO.bind ?_ (fun _ => ?_)
set_option maxHeartbeats 8000000 in
set_option maxRecDepth 100000 in
theorem impl_Segment_85__impl_messageRight_1.calls (k : Nat) (A0 : Option Addr) (c0 : Nat) (l0 : List (S88))  (r : Int) (w : World) (hr0 : Kd.C k88 w A0 l0.length l0) (hc0 : l0.length ≤ c0) (h : impl_Segment_85__impl_messageRight_1.f k l0 = some r) :
    Calls Try.prog 85 #[.slice A0 l0.length c0, .func (.func 116) #[] #[]] w fun e w' => e = .returned (.int .i64 r) ∧ Below w.heap.size w w' := by
  have hu88 := Try.underlying88
  have HR0 := Aside0.mk hr0
  have HC0 := Aside0.mk hc0
  clear hr0 hc0
  have HB := Aside0.mk (Below.refl w.heap.size w)
  have H : (impl_Segment_85__impl_messageRight_1.l0 k l0 (l0.length : Int) 0) = some r := h
  clear h
  have H' := Aside0.mk H
  clear H
  go_enter Try.func85, Try.ntmps85
  go_wp2
  go_loopg [8] k (fun kq v8 w' => ∃ (x8_1 : Int), v8 = .int .i64 x8_1 ∧ Aside0 (impl_Segment_85__impl_messageRight_1.l0 kq l0 (l0.length : Int) x8_1 = some r) ∧ Aside0 (kq ≤ k) ∧ Aside0 (Below w.heap.size w w'))
  case atStart => exact ⟨(0), er_, H', ⟨Nat.le_refl _⟩, ⟨bl_⟩⟩
  case round =>
    clear H'
    try clear p2
    obtain ⟨x8_1, rfl, HA, HK1, HB⟩ := hrel
    cases gk with
    | zero => exact absurd HA.out (by simp [impl_Segment_85__impl_messageRight_1.l0])
    | succ k1 =>
      have H := HA.out
      clear HA
      simp only [impl_Segment_85__impl_messageRight_1.l0] at H
      by_cases c3 : x8_1 < (l0.length : Int)
      · rw [if_pos c3] at H
        have c3b0 : decide (x8_1 < (l0.length : Int)) = true := decide_eq_true c3
        clear c3
        by_cases c4 : 0 ≤ x8_1
        · rw [if_pos c4] at H
          have c4b0 : decide (0 ≤ x8_1) = true := decide_eq_true c4
          clear c4
          by_cases c5 : x8_1 < (l0.length : Int)
          · rw [if_pos c5] at H
            have c5b0 : decide (x8_1 < (l0.length : Int)) = true := decide_eq_true c5
            clear c5
            replace H := Option.bind_eq_some_iff.mp H
            obtain ⟨t248, A60, H⟩ := H
            replace H : (if t248 = true then (some x8_1) else (impl_Segment_85__impl_messageRight_1.l0 k1 l0 (l0.length : Int) (wrap64 (x8_1 + 1)))) = some r := H
            have A6 := Aside0.mk A60
            clear A60
            by_cases c7 : t248 = true
            · subst c7
              have H1 : (some x8_1) = some r := by rw [if_pos rfl] at H; exact H
              clear H
              have H := H1
              clear H1
              obtain rfl := Option.some.inj H
              have p247 : 0 ≤ (x8_1 : Int) := of_decide_eq_true as_
              have q247 : x8_1 < (l0.length : Int) := of_decide_eq_true as_
              obtain ⟨ad247, A247_1, c247_1, e247, hx247_0, hx247_1, hl247_1, hi247_1⟩ := at_T88 HR0.out x8_1 p247 q247
              cases e247
              replace hx247_0 := (HB.out.cell (World.block_lt_of_cell? _ _ hx247_0)).trans hx247_0
              replace hx247_1 := (HB.out.cell (World.block_lt_of_cell? _ _ hx247_1)).trans hx247_1
              have HR247_1 := Aside0.mk hi247_1
              have HC247_1 := Aside0.mk hl247_1
              clear hi247_1 hl247_1
              replace p247 := eq_true p247
              replace q247 := eq_true q247
              go_wp2_with (first | (go_at_call 116; (with_reducible refine (impl_messageRight_1.calls k1 ((rd_T88 l0 x8_1).f0) _ _ ((rd_T88 l0 x8_1).f1) true _ ?side1 ?side2 A6.out).mono ?_); (case side1 => exact au9_2); (case side2 => exact HC247_1.out); rintro e w8 ⟨rfl, hb⟩; have n0_ := Aside0.mk (below_step bl_ hb); clear HB; have HB := n0_; clear n0_; (try clear hb); (try clear hb2); (try clear hk); (try clear hi)))
              go_ret
              exact ⟨au9_0, bl_⟩
            · replace c7 := Bool.eq_false_iff.mpr c7
              subst c7
              have H1 : (impl_Segment_85__impl_messageRight_1.l0 k1 l0 (l0.length : Int) (wrap64 (x8_1 + 1))) = some r := by rw [if_neg (show ¬ (false = true) by decide)] at H; exact H
              clear H
              have H := H1
              clear H1
              have H' := Aside0.mk H
              clear H
              have p247 : 0 ≤ (x8_1 : Int) := of_decide_eq_true as_
              have q247 : x8_1 < (l0.length : Int) := of_decide_eq_true as_
              obtain ⟨ad247, A247_1, c247_1, e247, hx247_0, hx247_1, hl247_1, hi247_1⟩ := at_T88 HR0.out x8_1 p247 q247
              cases e247
              replace hx247_0 := (HB.out.cell (World.block_lt_of_cell? _ _ hx247_0)).trans hx247_0
              replace hx247_1 := (HB.out.cell (World.block_lt_of_cell? _ _ hx247_1)).trans hx247_1
              have HR247_1 := Aside0.mk hi247_1
              have HC247_1 := Aside0.mk hl247_1
              clear hi247_1 hl247_1
              replace p247 := eq_true p247
              replace q247 := eq_true q247
              go_wp2_with (first | (go_at_call 116; (with_reducible refine (impl_messageRight_1.calls k1 ((rd_T88 l0 x8_1).f0) _ _ ((rd_T88 l0 x8_1).f1) false _ ?side1 ?side2 A6.out).mono ?_); (case side1 => exact au9_2); (case side2 => exact HC247_1.out); rintro e w9 ⟨rfl, hb⟩; have n0_ := Aside0.mk (below_step bl_ hb); clear HB; have HB := n0_; clear n0_; (try clear hb); (try clear hb2); (try clear hk); (try clear hi)))
              go_roundg k1
              case measure => have := HK1.out; omega
              case rel => exact ⟨(wrap64 (x8_1 + 1)), er_, H', ⟨by have := HK1.out; omega⟩, ⟨bl_⟩⟩
          · rw [if_neg c5] at H
            exact absurd H (by simp)
        · rw [if_neg c4] at H
          exact absurd H (by simp)
      · rw [if_neg c3] at H
        have c3b0 : decide (x8_1 < (l0.length : Int)) = false := decide_eq_false c3
        clear c3
        obtain rfl := Option.some.inj H
        go_wp2
        go_ret
        exact ⟨au9_0, bl_⟩

/-! ### impl_Segment_47__impl_messageRight_1: function 47 -/
def impl_Segment_47__impl_messageRight_1.f (k : Nat) (l0 : List (S88))  : Option (Bool) := (impl_Segment_85__impl_messageRight_1.f k l0).bind fun t249 => (some (decide (t249 ≥ 0)))
theorem impl_Segment_47__impl_messageRight_1.mono : ∀ a0 k, LeO (impl_Segment_47__impl_messageRight_1.f k a0) (impl_Segment_47__impl_messageRight_1.f (k + 1) a0) := by
  intro a0 k
  unfold impl_Segment_47__impl_messageRight_1.f
  repeat' first
      | (with_reducible exact impl_Segment_85__impl_messageRight_1.mono _ _)
      | (with_reducible exact LeO.refl _)
      | (with_reducible exact LeO.none _)
      | (with_reducible refine LeO.ite ?_ ?_)
      | (with_reducible refine LeO.bind ?_ (fun _ => ?_))
      | exact impl_Segment_85__impl_messageRight_1.mono _ _
      | exact LeO.none _
      | refine LeO.ite ?_ ?_
      | refine LeO.bind ?_ (fun _ => ?_)
set_option maxHeartbeats 8000000 in
set_option maxRecDepth 100000 in
theorem impl_Segment_47__impl_messageRight_1.calls (k : Nat) (A0 : Option Addr) (c0 : Nat) (l0 : List (S88))  (r : Bool) (w : World) (hr0 : Kd.C k88 w A0 l0.length l0) (hc0 : l0.length ≤ c0) (h : impl_Segment_47__impl_messageRight_1.f k l0 = some r) :
    Calls Try.prog 47 #[.slice A0 l0.length c0, .func (.func 116) #[] #[]] w fun e w' => e = .returned (.bool r) ∧ Below w.heap.size w w' := by
  have HR0 := Aside0.mk hr0
  have HC0 := Aside0.mk hc0
  clear hr0 hc0
  have HB := Aside0.mk (Below.refl w.heap.size w)
  have H : ((impl_Segment_85__impl_messageRight_1.f k l0).bind fun t249 => (some (decide (t249 ≥ 0)))) = some r := h
  clear h
  replace H := Option.bind_eq_some_iff.mp H
  obtain ⟨t249, A30, H⟩ := H
  replace H : (some (decide (t249 ≥ 0))) = some r := H
  have A3 := Aside0.mk A30
  clear A30
  obtain rfl := Option.some.inj H
  go_enter Try.func47, Try.ntmps47
  go_wp2_with (first | ((with_reducible refine gate_callee (f := 85) rfl ?_); refine gl_ 7 Try.func85 #[.slice A0 l0.length c0, .func (.func 116) #[] #[]] ?_ rfl rfl rfl rfl; (with_reducible refine (impl_Segment_85__impl_messageRight_1.calls k _ _ l0  t249 _ ?side1 ?side2 A3.out).mono ?_); (case side1 => exact au9_1); (case side2 => exact HC0.out); rintro e w4 ⟨rfl, hb⟩; refine ⟨_, rfl, ?_⟩; have n0_ := Aside0.mk (below_step bl_ hb); clear HB; have HB := n0_; clear n0_; (try clear hb); (try clear hb2); (try clear hk); (try clear hi)))
  go_ret
  exact ⟨au9_0, bl_⟩

/-! ### impl_messageRight: function 100 -/
def impl_messageRight.f (k : Nat) (a0_0 : Int) (l0_1 : List (S88)) : Option (Bool) := (impl_isControl.f a0_0).bind fun t251 => (if t251 = true then (if (l0_1.length : Int) ≤ 40 then ((impl_Segment_47__impl_messageRight_1.f k l0_1).bind fun t252 => (some (!t252))) else (some false)) else (some false))
theorem impl_messageRight.mono : ∀ a0 a1 k, LeO (impl_messageRight.f k a0 a1) (impl_messageRight.f (k + 1) a0 a1) := by
  intro a0 a1 k
  unfold impl_messageRight.f
  repeat' first
      | (with_reducible exact impl_Segment_47__impl_messageRight_1.mono _ _)
      | (with_reducible exact LeO.refl _)
      | (with_reducible exact LeO.none _)
      | (with_reducible refine LeO.ite ?_ ?_)
      | (with_reducible refine LeO.bind ?_ (fun _ => ?_))
      | exact impl_Segment_47__impl_messageRight_1.mono _ _
      | exact LeO.none _
      | refine LeO.ite ?_ ?_
      | refine LeO.bind ?_ (fun _ => ?_)
set_option maxHeartbeats 8000000 in
set_option maxRecDepth 100000 in
theorem impl_messageRight.calls (k : Nat) (a0_0 : Int) (A0_1 : Option Addr) (c0_1 : Nat) (l0_1 : List (S88)) (r : Bool) (w : World) (hr0_1 : Kd.C k88 w A0_1 l0_1.length l0_1) (hc0_1 : l0_1.length ≤ c0_1) (h : impl_messageRight.f k a0_0 l0_1 = some r) :
    Calls Try.prog 100 #[.agg #[.int .i64 a0_0, .slice A0_1 l0_1.length c0_1]] w fun e w' => e = .returned (.bool r) ∧ Below w.heap.size w w' := by
  have hu104 := Try.underlying104
  have HR0_1 := Aside0.mk hr0_1
  have HC0_1 := Aside0.mk hc0_1
  clear hr0_1 hc0_1
  have HB := Aside0.mk (Below.refl w.heap.size w)
  have H : ((impl_isControl.f a0_0).bind fun t251 => (if t251 = true then (if (l0_1.length : Int) ≤ 40 then ((impl_Segment_47__impl_messageRight_1.f k l0_1).bind fun t252 => (some (!t252))) else (some false)) else (some false))) = some r := h
  clear h
  replace H := Option.bind_eq_some_iff.mp H
  obtain ⟨t251, A20, H⟩ := H
  replace H : (if t251 = true then (if (l0_1.length : Int) ≤ 40 then ((impl_Segment_47__impl_messageRight_1.f k l0_1).bind fun t252 => (some (!t252))) else (some false)) else (some false)) = some r := H
  have A2 := Aside0.mk A20
  clear A20
  by_cases c3 : t251 = true
  · subst c3
    have H1 : (if (l0_1.length : Int) ≤ 40 then ((impl_Segment_47__impl_messageRight_1.f k l0_1).bind fun t252 => (some (!t252))) else (some false)) = some r := by rw [if_pos rfl] at H; exact H
    clear H
    have H := H1
    clear H1
    by_cases c4 : (l0_1.length : Int) ≤ 40
    · rw [if_pos c4] at H
      have c4b0 : decide ((l0_1.length : Int) ≤ 40) = true := decide_eq_true c4
      have c4b1 : decide (l0_1.length ≤ 40) = true := decide_eq_true (by omega)
      clear c4
      replace H := Option.bind_eq_some_iff.mp H
      obtain ⟨t252, A50, H⟩ := H
      replace H : (some (!t252)) = some r := H
      have A5 := Aside0.mk A50
      clear A50
      obtain rfl := Option.some.inj H
      go_enter Try.func100, Try.ntmps100
      go_wp2_with (first | ((with_reducible refine gate_dst (N := 1) rfl ?_); (try (refine gate_guard (by rfl) ?_; dsimp only)); refine box_event ?hg (N := 1) ?hd (cs := #[.int .i64 a0_0, .slice A0_1 l0_1.length c0_1]) (t := 104) ?hr ?_; (case hd => rfl); (case hg => rfl); (case hr => exact hr_); intro gb250 hg w6 hbox hb; have n0_ := Aside0.mk (below_step bl_ hb); have n1_ := Aside0.mk (hbox); have n2_ := Aside0.mk (gw_ hg bl_); have n3_ := Aside0.mk (gw_ hg bl_); clear HB; have HB := n0_; have BK250 := n1_; have GW250 := n2_; have GE250 := n3_; clear n0_ n1_ n2_ n3_; clear hb hbox hg; obtain ⟨hcz7_0, hcz7_1, hfz7_0, hfz7_1⟩ := cellsF2 BK250.out) | ((with_reducible refine gate_callee (f := 60) rfl ?_); refine gl_ 5 Try.func60 #[.int .i64 a0_0] ?_ rfl rfl rfl rfl; (with_reducible refine (impl_isControl.calls a0_0 true _ A2.out).mono ?_); rintro e w' ⟨rfl, ⟨nd, rfl⟩⟩; refine ⟨_, rfl, ?_⟩) | (go_at_call 47; (with_reducible refine (impl_Segment_47__impl_messageRight_1.calls k _ _ l0_1  t252 _ ?side1 ?side2 A5.out).mono ?_); (case side1 => repeat (first | exact (Kd.C_below HR0_1.out bl_) | (with_reducible refine Kd.C_alloc ?_ _) | (with_reducible refine Kd.C_drewN ?_ _) | (with_reducible refine Kd.C_drew ?_))); (case side2 => exact HC0_1.out); rintro e w8 ⟨rfl, hb⟩; have n0_ := Aside0.mk (blkb_ BK250 hb); have n1_ := Aside0.mk (below_step bl_ hb); clear BK250; clear HB; have BK250 := n0_; have HB := n1_; clear n0_ n1_; (try clear hb); (try clear hb2); (try clear hk); (try clear hi)))
      go_ret
      exact ⟨au9_0, bl_⟩
    · rw [if_neg c4] at H
      have c4b0 : decide ((l0_1.length : Int) ≤ 40) = false := decide_eq_false c4
      have c4b1 : decide (l0_1.length ≤ 40) = false := decide_eq_false (by omega)
      clear c4
      obtain rfl := Option.some.inj H
      go_enter Try.func100, Try.ntmps100
      go_wp2_with (first | ((with_reducible refine gate_dst (N := 1) rfl ?_); (try (refine gate_guard (by rfl) ?_; dsimp only)); refine box_event ?hg (N := 1) ?hd (cs := #[.int .i64 a0_0, .slice A0_1 l0_1.length c0_1]) (t := 104) ?hr ?_; (case hd => rfl); (case hg => rfl); (case hr => exact hr_); intro gb250 hg w9 hbox hb; have n0_ := Aside0.mk (below_step bl_ hb); have n1_ := Aside0.mk (hbox); have n2_ := Aside0.mk (gw_ hg bl_); have n3_ := Aside0.mk (gw_ hg bl_); clear HB; have HB := n0_; have BK250 := n1_; have GW250 := n2_; have GE250 := n3_; clear n0_ n1_ n2_ n3_; clear hb hbox hg; obtain ⟨hcz10_0, hcz10_1, hfz10_0, hfz10_1⟩ := cellsF2 BK250.out) | ((with_reducible refine gate_callee (f := 60) rfl ?_); refine gl_ 5 Try.func60 #[.int .i64 a0_0] ?_ rfl rfl rfl rfl; (with_reducible refine (impl_isControl.calls a0_0 true _ A2.out).mono ?_); rintro e w' ⟨rfl, ⟨nd, rfl⟩⟩; refine ⟨_, rfl, ?_⟩))
      go_ret
      exact ⟨au9_0, bl_⟩
  · replace c3 := Bool.eq_false_iff.mpr c3
    subst c3
    have H1 : (some false) = some r := by rw [if_neg (show ¬ (false = true) by decide)] at H; exact H
    clear H
    have H := H1
    clear H1
    obtain rfl := Option.some.inj H
    go_enter Try.func100, Try.ntmps100
    go_wp2_with (first | ((with_reducible refine gate_dst (N := 1) rfl ?_); (try (refine gate_guard (by rfl) ?_; dsimp only)); refine box_event ?hg (N := 1) ?hd (cs := #[.int .i64 a0_0, .slice A0_1 l0_1.length c0_1]) (t := 104) ?hr ?_; (case hd => rfl); (case hg => rfl); (case hr => exact hr_); intro gb250 hg w11 hbox hb; have n0_ := Aside0.mk (below_step bl_ hb); have n1_ := Aside0.mk (hbox); have n2_ := Aside0.mk (gw_ hg bl_); have n3_ := Aside0.mk (gw_ hg bl_); clear HB; have HB := n0_; have BK250 := n1_; have GW250 := n2_; have GE250 := n3_; clear n0_ n1_ n2_ n3_; clear hb hbox hg; obtain ⟨hcz12_0, hcz12_1, hfz12_0, hfz12_1⟩ := cellsF2 BK250.out) | ((with_reducible refine gate_callee (f := 60) rfl ?_); refine gl_ 5 Try.func60 #[.int .i64 a0_0] ?_ rfl rfl rfl rfl; (with_reducible refine (impl_isControl.calls a0_0 false _ A2.out).mono ?_); rintro e w' ⟨rfl, ⟨nd, rfl⟩⟩; refine ⟨_, rfl, ?_⟩))
    go_ret
    exact ⟨au9_0, bl_⟩

/-! ### impl_bundleRight_1: function 99 -/
def impl_bundleRight_1.f (k : Nat) (a0_0 : Int) (l0_1 : List (S88)) : Option (Bool) := (impl_messageRight.f k a0_0 l0_1).bind fun t254 => (some (!t254))
theorem impl_bundleRight_1.mono : ∀ a0 a1 k, LeO (impl_bundleRight_1.f k a0 a1) (impl_bundleRight_1.f (k + 1) a0 a1) := by
  intro a0 a1 k
  unfold impl_bundleRight_1.f
  repeat' first
      | (with_reducible exact impl_messageRight.mono _ _ _)
      | (with_reducible exact LeO.refl _)
      | (with_reducible exact LeO.none _)
      | (with_reducible refine LeO.ite ?_ ?_)
      | (with_reducible refine LeO.bind ?_ (fun _ => ?_))
      | exact impl_messageRight.mono _ _ _
      | exact LeO.none _
      | refine LeO.ite ?_ ?_
      | refine LeO.bind ?_ (fun _ => ?_)
set_option maxHeartbeats 8000000 in
set_option maxRecDepth 100000 in
theorem impl_bundleRight_1.calls (k : Nat) (a0_0 : Int) (A0_1 : Option Addr) (c0_1 : Nat) (l0_1 : List (S88)) (r : Bool) (w : World) (hr0_1 : Kd.C k88 w A0_1 l0_1.length l0_1) (hc0_1 : l0_1.length ≤ c0_1) (h : impl_bundleRight_1.f k a0_0 l0_1 = some r) :
    Calls Try.prog 99 #[.agg #[.int .i64 a0_0, .slice A0_1 l0_1.length c0_1]] w fun e w' => e = .returned (.bool r) ∧ Below w.heap.size w w' := by
  have hu104 := Try.underlying104
  have HR0_1 := Aside0.mk hr0_1
  have HC0_1 := Aside0.mk hc0_1
  clear hr0_1 hc0_1
  have HB := Aside0.mk (Below.refl w.heap.size w)
  have H : ((impl_messageRight.f k a0_0 l0_1).bind fun t254 => (some (!t254))) = some r := h
  clear h
  replace H := Option.bind_eq_some_iff.mp H
  obtain ⟨t254, A20, H⟩ := H
  replace H : (some (!t254)) = some r := H
  have A2 := Aside0.mk A20
  clear A20
  obtain rfl := Option.some.inj H
  go_enter Try.func99, Try.ntmps99
  go_wp2_with (first | ((with_reducible refine gate_dst (N := 1) rfl ?_); refine box_event ?hg (N := 1) ?hd (cs := #[.int .i64 a0_0, .slice A0_1 l0_1.length c0_1]) (t := 104) ?hr ?_; (case hd => rfl); (case hg => rfl); (case hr => exact hr_); intro gb253 hg w3 hbox hb; have n0_ := Aside0.mk (below_step bl_ hb); have n1_ := Aside0.mk (hbox); have n2_ := Aside0.mk (gw_ hg bl_); have n3_ := Aside0.mk (gw_ hg bl_); clear HB; have HB := n0_; have BK253 := n1_; have GW253 := n2_; have GE253 := n3_; clear n0_ n1_ n2_ n3_; clear hb hbox hg; obtain ⟨hcz4_0, hcz4_1, hfz4_0, hfz4_1⟩ := cellsF2 BK253.out) | ((with_reducible refine gate_callee (f := 100) rfl ?_); refine gl_ 4 Try.func100 #[.agg #[.int .i64 a0_0, .slice A0_1 l0_1.length c0_1]] ?_ rfl rfl rfl rfl; (with_reducible refine (impl_messageRight.calls k a0_0 _ _ l0_1 t254 _ ?side1 ?side2 A2.out).mono ?_); (case side1 => repeat (first | exact (Kd.C_below HR0_1.out HB.out) | (with_reducible refine Kd.C_alloc ?_ _) | (with_reducible refine Kd.C_drewN ?_ _) | (with_reducible refine Kd.C_drew ?_))); (case side2 => exact HC0_1.out); rintro e w5 ⟨rfl, hb⟩; refine ⟨_, rfl, ?_⟩; have n0_ := Aside0.mk (blkb_ BK253 hb); have n1_ := Aside0.mk (below_step bl_ hb); clear BK253; clear HB; have BK253 := n0_; have HB := n1_; clear n0_ n1_; (try clear hb); (try clear hb2); (try clear hk); (try clear hi)))
  go_ret
  exact ⟨au9_0, bl_⟩

/-! ### impl_Message_115__impl_bundleRight_1: function 115 -/
def impl_Message_115__impl_bundleRight_1.l0 : Nat → List (S104) → Int → Int → Option (Int)
  | 0, _, _, _ => none
  | k + 1, x0, x7, x8 => if x8 < x7 then (if 0 ≤ x8 then (if x8 < (x0.length : Int) then ((impl_bundleRight_1.f k ((rd_T104 x0 x8).f0) ((rd_T104 x0 x8).f1)).bind fun t256 => (if t256 = true then (some x8) else (impl_Message_115__impl_bundleRight_1.l0 k x0 x7 (wrap64 (x8 + 1))))) else (none)) else (none)) else (some (-1))
def impl_Message_115__impl_bundleRight_1.f (k : Nat) (l0 : List (S104))  : Option (Int) := impl_Message_115__impl_bundleRight_1.l0 k l0 (l0.length : Int) 0
theorem impl_Message_115__impl_bundleRight_1.mono_l : ∀ k, (∀ y0 y1 y2, LeO (impl_Message_115__impl_bundleRight_1.l0 k y0 y1 y2) (impl_Message_115__impl_bundleRight_1.l0 (k + 1) y0 y1 y2))
  | 0 => fun _ _ _ r h => by simp [impl_Message_115__impl_bundleRight_1.l0] at h
  | k + 1 => by
    have ih0 := impl_Message_115__impl_bundleRight_1.mono_l k
    · intro y0 y1 y2
      unfold impl_Message_115__impl_bundleRight_1.l0
      repeat' first
      | (with_reducible exact ih0 _ _ _)
      | (with_reducible exact impl_bundleRight_1.mono _ _ _)
      | (with_reducible exact LeO.refl _)
      | (with_reducible exact LeO.none _)
      | (with_reducible refine LeO.ite ?_ ?_)
      | (with_reducible refine LeO.bind ?_ (fun _ => ?_))
      | exact ih0 _ _ _
      | exact impl_bundleRight_1.mono _ _ _
      | exact LeO.none _
      | refine LeO.ite ?_ ?_
      | refine LeO.bind ?_ (fun _ => ?_)
theorem impl_Message_115__impl_bundleRight_1.mono : ∀ a0 k, LeO (impl_Message_115__impl_bundleRight_1.f k a0) (impl_Message_115__impl_bundleRight_1.f (k + 1) a0) := by
  intro a0 k
  have ih0 := impl_Message_115__impl_bundleRight_1.mono_l k
  unfold impl_Message_115__impl_bundleRight_1.f
  repeat' first
      | (with_reducible exact ih0 _ _ _)
      | (with_reducible exact impl_bundleRight_1.mono _ _ _)
      | (with_reducible exact LeO.refl _)
      | (with_reducible exact LeO.none _)
      | (with_reducible refine LeO.ite ?_ ?_)
      | (with_reducible refine LeO.bind ?_ (fun _ => ?_))
      | exact ih0 _ _ _
      | exact impl_bundleRight_1.mono _ _ _
      | exact LeO.none _
      | refine LeO.ite ?_ ?_
      | refine LeO.bind ?_ (fun _ => ?_)
set_option maxHeartbeats 8000000 in
set_option maxRecDepth 100000 in
theorem impl_Message_115__impl_bundleRight_1.calls (k : Nat) (A0 : Option Addr) (c0 : Nat) (l0 : List (S104))  (r : Int) (w : World) (hr0 : Kd.C k104 w A0 l0.length l0) (hc0 : l0.length ≤ c0) (h : impl_Message_115__impl_bundleRight_1.f k l0 = some r) :
    Calls Try.prog 115 #[.slice A0 l0.length c0, .func (.func 99) #[] #[]] w fun e w' => e = .returned (.int .i64 r) ∧ Below w.heap.size w w' := by
  have hu104 := Try.underlying104
  have HR0 := Aside0.mk hr0
  have HC0 := Aside0.mk hc0
  clear hr0 hc0
  have HB := Aside0.mk (Below.refl w.heap.size w)
  have H : (impl_Message_115__impl_bundleRight_1.l0 k l0 (l0.length : Int) 0) = some r := h
  clear h
  have H' := Aside0.mk H
  clear H
  go_enter Try.func115, Try.ntmps115
  go_wp2
  go_loopg [8] k (fun kq v8 w' => ∃ (x8_1 : Int), v8 = .int .i64 x8_1 ∧ Aside0 (impl_Message_115__impl_bundleRight_1.l0 kq l0 (l0.length : Int) x8_1 = some r) ∧ Aside0 (kq ≤ k) ∧ Aside0 (Below w.heap.size w w'))
  case atStart => exact ⟨(0), er_, H', ⟨Nat.le_refl _⟩, ⟨bl_⟩⟩
  case round =>
    clear H'
    try clear c1
    try clear p2
    obtain ⟨x8_1, rfl, HA, HK1, HB⟩ := hrel
    cases gk with
    | zero => exact absurd HA.out (by simp [impl_Message_115__impl_bundleRight_1.l0])
    | succ k1 =>
      have H := HA.out
      clear HA
      simp only [impl_Message_115__impl_bundleRight_1.l0] at H
      by_cases c3 : x8_1 < (l0.length : Int)
      · rw [if_pos c3] at H
        have c3b0 : decide (x8_1 < (l0.length : Int)) = true := decide_eq_true c3
        clear c3
        by_cases c4 : 0 ≤ x8_1
        · rw [if_pos c4] at H
          have c4b0 : decide (0 ≤ x8_1) = true := decide_eq_true c4
          clear c4
          by_cases c5 : x8_1 < (l0.length : Int)
          · rw [if_pos c5] at H
            have c5b0 : decide (x8_1 < (l0.length : Int)) = true := decide_eq_true c5
            clear c5
            replace H := Option.bind_eq_some_iff.mp H
            obtain ⟨t256, A60, H⟩ := H
            replace H : (if t256 = true then (some x8_1) else (impl_Message_115__impl_bundleRight_1.l0 k1 l0 (l0.length : Int) (wrap64 (x8_1 + 1)))) = some r := H
            have A6 := Aside0.mk A60
            clear A60
            by_cases c7 : t256 = true
            · subst c7
              have H1 : (some x8_1) = some r := by rw [if_pos rfl] at H; exact H
              clear H
              have H := H1
              clear H1
              obtain rfl := Option.some.inj H
              have p255 : 0 ≤ (x8_1 : Int) := of_decide_eq_true as_
              have q255 : x8_1 < (l0.length : Int) := of_decide_eq_true as_
              obtain ⟨ad255, A255_1, c255_1, e255, hx255_0, hx255_1, hl255_1, hi255_1⟩ := at_T104 HR0.out x8_1 p255 q255
              cases e255
              replace hx255_0 := (HB.out.cell (World.block_lt_of_cell? _ _ hx255_0)).trans hx255_0
              replace hx255_1 := (HB.out.cell (World.block_lt_of_cell? _ _ hx255_1)).trans hx255_1
              have HR255_1 := Aside0.mk hi255_1
              have HC255_1 := Aside0.mk hl255_1
              clear hi255_1 hl255_1
              replace p255 := eq_true p255
              replace q255 := eq_true q255
              go_wp2_with (first | (go_at_call 99; (with_reducible refine (impl_bundleRight_1.calls k1 ((rd_T104 l0 x8_1).f0) _ _ ((rd_T104 l0 x8_1).f1) true _ ?side1 ?side2 A6.out).mono ?_); (case side1 => exact au9_3); (case side2 => exact HC255_1.out); rintro e w8 ⟨rfl, hb⟩; have n0_ := Aside0.mk (below_step bl_ hb); clear HB; have HB := n0_; clear n0_; (try clear hb); (try clear hb2); (try clear hk); (try clear hi)))
              go_ret
              exact ⟨au9_0, bl_⟩
            · replace c7 := Bool.eq_false_iff.mpr c7
              subst c7
              have H1 : (impl_Message_115__impl_bundleRight_1.l0 k1 l0 (l0.length : Int) (wrap64 (x8_1 + 1))) = some r := by rw [if_neg (show ¬ (false = true) by decide)] at H; exact H
              clear H
              have H := H1
              clear H1
              have H' := Aside0.mk H
              clear H
              have p255 : 0 ≤ (x8_1 : Int) := of_decide_eq_true as_
              have q255 : x8_1 < (l0.length : Int) := of_decide_eq_true as_
              obtain ⟨ad255, A255_1, c255_1, e255, hx255_0, hx255_1, hl255_1, hi255_1⟩ := at_T104 HR0.out x8_1 p255 q255
              cases e255
              replace hx255_0 := (HB.out.cell (World.block_lt_of_cell? _ _ hx255_0)).trans hx255_0
              replace hx255_1 := (HB.out.cell (World.block_lt_of_cell? _ _ hx255_1)).trans hx255_1
              have HR255_1 := Aside0.mk hi255_1
              have HC255_1 := Aside0.mk hl255_1
              clear hi255_1 hl255_1
              replace p255 := eq_true p255
              replace q255 := eq_true q255
              go_wp2_with (first | (go_at_call 99; (with_reducible refine (impl_bundleRight_1.calls k1 ((rd_T104 l0 x8_1).f0) _ _ ((rd_T104 l0 x8_1).f1) false _ ?side1 ?side2 A6.out).mono ?_); (case side1 => exact au9_3); (case side2 => exact HC255_1.out); rintro e w9 ⟨rfl, hb⟩; have n0_ := Aside0.mk (below_step bl_ hb); clear HB; have HB := n0_; clear n0_; (try clear hb); (try clear hb2); (try clear hk); (try clear hi)))
              go_roundg k1
              case measure => have := HK1.out; omega
              case rel => exact ⟨(wrap64 (x8_1 + 1)), er_, H', ⟨by have := HK1.out; omega⟩, ⟨bl_⟩⟩
          · rw [if_neg c5] at H
            exact absurd H (by simp)
        · rw [if_neg c4] at H
          exact absurd H (by simp)
      · rw [if_neg c3] at H
        have c3b0 : decide (x8_1 < (l0.length : Int)) = false := decide_eq_false c3
        clear c3
        obtain rfl := Option.some.inj H
        go_wp2
        go_ret
        exact ⟨au9_0, bl_⟩

/-! ### impl_Message_98__impl_bundleRight_1: function 98 -/
def impl_Message_98__impl_bundleRight_1.f (k : Nat) (l0 : List (S104))  : Option (Bool) := (impl_Message_115__impl_bundleRight_1.f k l0).bind fun t257 => (some (decide (t257 ≥ 0)))
theorem impl_Message_98__impl_bundleRight_1.mono : ∀ a0 k, LeO (impl_Message_98__impl_bundleRight_1.f k a0) (impl_Message_98__impl_bundleRight_1.f (k + 1) a0) := by
  intro a0 k
  unfold impl_Message_98__impl_bundleRight_1.f
  repeat' first
      | (with_reducible exact impl_Message_115__impl_bundleRight_1.mono _ _)
      | (with_reducible exact LeO.refl _)
      | (with_reducible exact LeO.none _)
      | (with_reducible refine LeO.ite ?_ ?_)
      | (with_reducible refine LeO.bind ?_ (fun _ => ?_))
      | exact impl_Message_115__impl_bundleRight_1.mono _ _
      | exact LeO.none _
      | refine LeO.ite ?_ ?_
      | refine LeO.bind ?_ (fun _ => ?_)
set_option maxHeartbeats 8000000 in
set_option maxRecDepth 100000 in
theorem impl_Message_98__impl_bundleRight_1.calls (k : Nat) (A0 : Option Addr) (c0 : Nat) (l0 : List (S104))  (r : Bool) (w : World) (hr0 : Kd.C k104 w A0 l0.length l0) (hc0 : l0.length ≤ c0) (h : impl_Message_98__impl_bundleRight_1.f k l0 = some r) :
    Calls Try.prog 98 #[.slice A0 l0.length c0, .func (.func 99) #[] #[]] w fun e w' => e = .returned (.bool r) ∧ Below w.heap.size w w' := by
  have HR0 := Aside0.mk hr0
  have HC0 := Aside0.mk hc0
  clear hr0 hc0
  have HB := Aside0.mk (Below.refl w.heap.size w)
  have H : ((impl_Message_115__impl_bundleRight_1.f k l0).bind fun t257 => (some (decide (t257 ≥ 0)))) = some r := h
  clear h
  replace H := Option.bind_eq_some_iff.mp H
  obtain ⟨t257, A30, H⟩ := H
  replace H : (some (decide (t257 ≥ 0))) = some r := H
  have A3 := Aside0.mk A30
  clear A30
  obtain rfl := Option.some.inj H
  go_enter Try.func98, Try.ntmps98
  go_wp2_with (first | ((with_reducible refine gate_callee (f := 115) rfl ?_); refine gl_ 7 Try.func115 #[.slice A0 l0.length c0, .func (.func 99) #[] #[]] ?_ rfl rfl rfl rfl; (with_reducible refine (impl_Message_115__impl_bundleRight_1.calls k _ _ l0  t257 _ ?side1 ?side2 A3.out).mono ?_); (case side1 => exact au9_1); (case side2 => exact HC0.out); rintro e w4 ⟨rfl, hb⟩; refine ⟨_, rfl, ?_⟩; have n0_ := Aside0.mk (below_step bl_ hb); clear HB; have HB := n0_; clear n0_; (try clear hb); (try clear hb2); (try clear hk); (try clear hi)))
  go_ret
  exact ⟨au9_0, bl_⟩

/-! ### impl_bundleRight: function 64 -/
def impl_bundleRight.f (k : Nat) (a0_0 : Int) (a0_1 : Int) (l0_2 : List (S104)) : Option (Bool) := (impl_within.f a0_0 1 7).bind fun t259 => (if t259 = true then ((impl_isControl.f a0_1).bind fun t260 => (if t260 = true then ((impl_within.f (l0_2.length : Int) 1 10).bind fun t261 => (if t261 = true then ((impl_Message_98__impl_bundleRight_1.f k l0_2).bind fun t262 => (some (!t262))) else (some false))) else (some false))) else (some false))
theorem impl_bundleRight.mono : ∀ a0 a1 a2 k, LeO (impl_bundleRight.f k a0 a1 a2) (impl_bundleRight.f (k + 1) a0 a1 a2) := by
  intro a0 a1 a2 k
  unfold impl_bundleRight.f
  repeat' first
      | (with_reducible exact impl_Message_98__impl_bundleRight_1.mono _ _)
      | (with_reducible exact LeO.refl _)
      | (with_reducible exact LeO.none _)
      | (with_reducible refine LeO.ite ?_ ?_)
      | (with_reducible refine LeO.bind ?_ (fun _ => ?_))
      | exact impl_Message_98__impl_bundleRight_1.mono _ _
      | exact LeO.none _
      | refine LeO.ite ?_ ?_
      | refine LeO.bind ?_ (fun _ => ?_)
set_option maxHeartbeats 8000000 in
set_option maxRecDepth 100000 in
theorem impl_bundleRight.calls (k : Nat) (a0_0 : Int) (a0_1 : Int) (A0_2 : Option Addr) (c0_2 : Nat) (l0_2 : List (S104)) (r : Bool) (w : World) (hr0_2 : Kd.C k104 w A0_2 l0_2.length l0_2) (hc0_2 : l0_2.length ≤ c0_2) (h : impl_bundleRight.f k a0_0 a0_1 l0_2 = some r) :
    Calls Try.prog 64 #[.agg #[.int .i64 a0_0, .int .i64 a0_1, .slice A0_2 l0_2.length c0_2]] w fun e w' => e = .returned (.bool r) ∧ Below w.heap.size w w' := by
  have hu102 := Try.underlying102
  have HR0_2 := Aside0.mk hr0_2
  have HC0_2 := Aside0.mk hc0_2
  clear hr0_2 hc0_2
  have HB := Aside0.mk (Below.refl w.heap.size w)
  have H : ((impl_within.f a0_0 1 7).bind fun t259 => (if t259 = true then ((impl_isControl.f a0_1).bind fun t260 => (if t260 = true then ((impl_within.f (l0_2.length : Int) 1 10).bind fun t261 => (if t261 = true then ((impl_Message_98__impl_bundleRight_1.f k l0_2).bind fun t262 => (some (!t262))) else (some false))) else (some false))) else (some false))) = some r := h
  clear h
  replace H := Option.bind_eq_some_iff.mp H
  obtain ⟨t259, A20, H⟩ := H
  replace H : (if t259 = true then ((impl_isControl.f a0_1).bind fun t260 => (if t260 = true then ((impl_within.f (l0_2.length : Int) 1 10).bind fun t261 => (if t261 = true then ((impl_Message_98__impl_bundleRight_1.f k l0_2).bind fun t262 => (some (!t262))) else (some false))) else (some false))) else (some false)) = some r := H
  have A2 := Aside0.mk A20
  clear A20
  by_cases c3 : t259 = true
  · subst c3
    have H1 : ((impl_isControl.f a0_1).bind fun t260 => (if t260 = true then ((impl_within.f (l0_2.length : Int) 1 10).bind fun t261 => (if t261 = true then ((impl_Message_98__impl_bundleRight_1.f k l0_2).bind fun t262 => (some (!t262))) else (some false))) else (some false))) = some r := by rw [if_pos rfl] at H; exact H
    clear H
    have H := H1
    clear H1
    replace H := Option.bind_eq_some_iff.mp H
    obtain ⟨t260, A40, H⟩ := H
    replace H : (if t260 = true then ((impl_within.f (l0_2.length : Int) 1 10).bind fun t261 => (if t261 = true then ((impl_Message_98__impl_bundleRight_1.f k l0_2).bind fun t262 => (some (!t262))) else (some false))) else (some false)) = some r := H
    have A4 := Aside0.mk A40
    clear A40
    by_cases c5 : t260 = true
    · subst c5
      have H1 : ((impl_within.f (l0_2.length : Int) 1 10).bind fun t261 => (if t261 = true then ((impl_Message_98__impl_bundleRight_1.f k l0_2).bind fun t262 => (some (!t262))) else (some false))) = some r := by rw [if_pos rfl] at H; exact H
      clear H
      have H := H1
      clear H1
      replace H := Option.bind_eq_some_iff.mp H
      obtain ⟨t261, A60, H⟩ := H
      replace H : (if t261 = true then ((impl_Message_98__impl_bundleRight_1.f k l0_2).bind fun t262 => (some (!t262))) else (some false)) = some r := H
      have A6 := Aside0.mk A60
      clear A60
      by_cases c7 : t261 = true
      · subst c7
        have H1 : ((impl_Message_98__impl_bundleRight_1.f k l0_2).bind fun t262 => (some (!t262))) = some r := by rw [if_pos rfl] at H; exact H
        clear H
        have H := H1
        clear H1
        replace H := Option.bind_eq_some_iff.mp H
        obtain ⟨t262, A80, H⟩ := H
        replace H : (some (!t262)) = some r := H
        have A8 := Aside0.mk A80
        clear A80
        obtain rfl := Option.some.inj H
        go_enter Try.func64, Try.ntmps64
        go_wp2_with (first | ((with_reducible refine gate_dst (N := 1) rfl ?_); (try (refine gate_guard (by rfl) ?_; dsimp only)); refine box_event ?hg (N := 1) ?hd (cs := #[.int .i64 a0_0, .int .i64 a0_1, .slice A0_2 l0_2.length c0_2]) (t := 102) ?hr ?_; (case hd => rfl); (case hg => rfl); (case hr => exact hr_); intro gb258 hg w9 hbox hb; have n0_ := Aside0.mk (below_step bl_ hb); have n1_ := Aside0.mk (hbox); have n2_ := Aside0.mk (gw_ hg bl_); have n3_ := Aside0.mk (gw_ hg bl_); clear HB; have HB := n0_; have BK258 := n1_; have GW258 := n2_; have GE258 := n3_; clear n0_ n1_ n2_ n3_; clear hb hbox hg; obtain ⟨hcz10_0, hcz10_1, hcz10_2, hfz10_0, hfz10_1, hfz10_2⟩ := cellsF3 BK258.out) | ((with_reducible refine gate_callee (f := 61) rfl ?_); refine gl_ 5 Try.func61 #[.int .i64 a0_0, .int .i64 1, .int .i64 7] ?_ rfl rfl rfl rfl; (with_reducible refine (impl_within.calls a0_0 1 7 true _ A2.out).mono ?_); rintro e w' ⟨rfl, ⟨nd, rfl⟩⟩; refine ⟨_, rfl, ?_⟩) | (go_at_call 60; (with_reducible refine (impl_isControl.calls a0_1 true _ A4.out).mono ?_); rintro e w' ⟨rfl, ⟨nd, rfl⟩⟩) | (go_at_call 61; (with_reducible refine (impl_within.calls (l0_2.length : Int) 1 10 true _ A6.out).mono ?_); rintro e w' ⟨rfl, ⟨nd, rfl⟩⟩) | (go_at_call 98; (with_reducible refine (impl_Message_98__impl_bundleRight_1.calls k _ _ l0_2  t262 _ ?side1 ?side2 A8.out).mono ?_); (case side1 => repeat (first | exact (Kd.C_below HR0_2.out bl_) | (with_reducible refine Kd.C_alloc ?_ _) | (with_reducible refine Kd.C_drewN ?_ _) | (with_reducible refine Kd.C_drew ?_))); (case side2 => exact HC0_2.out); rintro e w11 ⟨rfl, hb⟩; have n0_ := Aside0.mk (blkb_ BK258 hb); have n1_ := Aside0.mk (below_step bl_ hb); clear BK258; clear HB; have BK258 := n0_; have HB := n1_; clear n0_ n1_; (try clear hb); (try clear hb2); (try clear hk); (try clear hi)))
        go_ret
        exact ⟨au9_0, bl_⟩
      · replace c7 := Bool.eq_false_iff.mpr c7
        subst c7
        have H1 : (some false) = some r := by rw [if_neg (show ¬ (false = true) by decide)] at H; exact H
        clear H
        have H := H1
        clear H1
        obtain rfl := Option.some.inj H
        go_enter Try.func64, Try.ntmps64
        go_wp2_with (first | ((with_reducible refine gate_dst (N := 1) rfl ?_); (try (refine gate_guard (by rfl) ?_; dsimp only)); refine box_event ?hg (N := 1) ?hd (cs := #[.int .i64 a0_0, .int .i64 a0_1, .slice A0_2 l0_2.length c0_2]) (t := 102) ?hr ?_; (case hd => rfl); (case hg => rfl); (case hr => exact hr_); intro gb258 hg w12 hbox hb; have n0_ := Aside0.mk (below_step bl_ hb); have n1_ := Aside0.mk (hbox); have n2_ := Aside0.mk (gw_ hg bl_); have n3_ := Aside0.mk (gw_ hg bl_); clear HB; have HB := n0_; have BK258 := n1_; have GW258 := n2_; have GE258 := n3_; clear n0_ n1_ n2_ n3_; clear hb hbox hg; obtain ⟨hcz13_0, hcz13_1, hcz13_2, hfz13_0, hfz13_1, hfz13_2⟩ := cellsF3 BK258.out) | ((with_reducible refine gate_callee (f := 61) rfl ?_); refine gl_ 5 Try.func61 #[.int .i64 a0_0, .int .i64 1, .int .i64 7] ?_ rfl rfl rfl rfl; (with_reducible refine (impl_within.calls a0_0 1 7 true _ A2.out).mono ?_); rintro e w' ⟨rfl, ⟨nd, rfl⟩⟩; refine ⟨_, rfl, ?_⟩) | (go_at_call 60; (with_reducible refine (impl_isControl.calls a0_1 true _ A4.out).mono ?_); rintro e w' ⟨rfl, ⟨nd, rfl⟩⟩) | (go_at_call 61; (with_reducible refine (impl_within.calls (l0_2.length : Int) 1 10 false _ A6.out).mono ?_); rintro e w' ⟨rfl, ⟨nd, rfl⟩⟩))
        go_ret
        exact ⟨au9_0, bl_⟩
    · replace c5 := Bool.eq_false_iff.mpr c5
      subst c5
      have H1 : (some false) = some r := by rw [if_neg (show ¬ (false = true) by decide)] at H; exact H
      clear H
      have H := H1
      clear H1
      obtain rfl := Option.some.inj H
      go_enter Try.func64, Try.ntmps64
      go_wp2_with (first | ((with_reducible refine gate_dst (N := 1) rfl ?_); (try (refine gate_guard (by rfl) ?_; dsimp only)); refine box_event ?hg (N := 1) ?hd (cs := #[.int .i64 a0_0, .int .i64 a0_1, .slice A0_2 l0_2.length c0_2]) (t := 102) ?hr ?_; (case hd => rfl); (case hg => rfl); (case hr => exact hr_); intro gb258 hg w14 hbox hb; have n0_ := Aside0.mk (below_step bl_ hb); have n1_ := Aside0.mk (hbox); have n2_ := Aside0.mk (gw_ hg bl_); have n3_ := Aside0.mk (gw_ hg bl_); clear HB; have HB := n0_; have BK258 := n1_; have GW258 := n2_; have GE258 := n3_; clear n0_ n1_ n2_ n3_; clear hb hbox hg; obtain ⟨hcz15_0, hcz15_1, hcz15_2, hfz15_0, hfz15_1, hfz15_2⟩ := cellsF3 BK258.out) | ((with_reducible refine gate_callee (f := 61) rfl ?_); refine gl_ 5 Try.func61 #[.int .i64 a0_0, .int .i64 1, .int .i64 7] ?_ rfl rfl rfl rfl; (with_reducible refine (impl_within.calls a0_0 1 7 true _ A2.out).mono ?_); rintro e w' ⟨rfl, ⟨nd, rfl⟩⟩; refine ⟨_, rfl, ?_⟩) | (go_at_call 60; (with_reducible refine (impl_isControl.calls a0_1 false _ A4.out).mono ?_); rintro e w' ⟨rfl, ⟨nd, rfl⟩⟩))
      go_ret
      exact ⟨au9_0, bl_⟩
  · replace c3 := Bool.eq_false_iff.mpr c3
    subst c3
    have H1 : (some false) = some r := by rw [if_neg (show ¬ (false = true) by decide)] at H; exact H
    clear H
    have H := H1
    clear H1
    obtain rfl := Option.some.inj H
    go_enter Try.func64, Try.ntmps64
    go_wp2_with (first | ((with_reducible refine gate_dst (N := 1) rfl ?_); (try (refine gate_guard (by rfl) ?_; dsimp only)); refine box_event ?hg (N := 1) ?hd (cs := #[.int .i64 a0_0, .int .i64 a0_1, .slice A0_2 l0_2.length c0_2]) (t := 102) ?hr ?_; (case hd => rfl); (case hg => rfl); (case hr => exact hr_); intro gb258 hg w16 hbox hb; have n0_ := Aside0.mk (below_step bl_ hb); have n1_ := Aside0.mk (hbox); have n2_ := Aside0.mk (gw_ hg bl_); have n3_ := Aside0.mk (gw_ hg bl_); clear HB; have HB := n0_; have BK258 := n1_; have GW258 := n2_; have GE258 := n3_; clear n0_ n1_ n2_ n3_; clear hb hbox hg; obtain ⟨hcz17_0, hcz17_1, hcz17_2, hfz17_0, hfz17_1, hfz17_2⟩ := cellsF3 BK258.out) | ((with_reducible refine gate_callee (f := 61) rfl ?_); refine gl_ 5 Try.func61 #[.int .i64 a0_0, .int .i64 1, .int .i64 7] ?_ rfl rfl rfl rfl; (with_reducible refine (impl_within.calls a0_0 1 7 false _ A2.out).mono ?_); rintro e w' ⟨rfl, ⟨nd, rfl⟩⟩; refine ⟨_, rfl, ?_⟩))
    go_ret
    exact ⟨au9_0, bl_⟩

/-! ### impl_IxRight_1: function 63 -/
def impl_IxRight_1.f (k : Nat) (a0_0 : Int) (a0_1 : Int) (l0_2 : List (S104)) : Option (Bool) := (impl_bundleRight.f k a0_0 a0_1 l0_2).bind fun t264 => (some (!t264))
theorem impl_IxRight_1.mono : ∀ a0 a1 a2 k, LeO (impl_IxRight_1.f k a0 a1 a2) (impl_IxRight_1.f (k + 1) a0 a1 a2) := by
  intro a0 a1 a2 k
  unfold impl_IxRight_1.f
  repeat' first
      | (with_reducible exact impl_bundleRight.mono _ _ _ _)
      | (with_reducible exact LeO.refl _)
      | (with_reducible exact LeO.none _)
      | (with_reducible refine LeO.ite ?_ ?_)
      | (with_reducible refine LeO.bind ?_ (fun _ => ?_))
      | exact impl_bundleRight.mono _ _ _ _
      | exact LeO.none _
      | refine LeO.ite ?_ ?_
      | refine LeO.bind ?_ (fun _ => ?_)
set_option maxHeartbeats 8000000 in
set_option maxRecDepth 100000 in
theorem impl_IxRight_1.calls (k : Nat) (a0_0 : Int) (a0_1 : Int) (A0_2 : Option Addr) (c0_2 : Nat) (l0_2 : List (S104)) (r : Bool) (w : World) (hr0_2 : Kd.C k104 w A0_2 l0_2.length l0_2) (hc0_2 : l0_2.length ≤ c0_2) (h : impl_IxRight_1.f k a0_0 a0_1 l0_2 = some r) :
    Calls Try.prog 63 #[.agg #[.int .i64 a0_0, .int .i64 a0_1, .slice A0_2 l0_2.length c0_2]] w fun e w' => e = .returned (.bool r) ∧ Below w.heap.size w w' := by
  have hu102 := Try.underlying102
  have HR0_2 := Aside0.mk hr0_2
  have HC0_2 := Aside0.mk hc0_2
  clear hr0_2 hc0_2
  have HB := Aside0.mk (Below.refl w.heap.size w)
  have H : ((impl_bundleRight.f k a0_0 a0_1 l0_2).bind fun t264 => (some (!t264))) = some r := h
  clear h
  replace H := Option.bind_eq_some_iff.mp H
  obtain ⟨t264, A20, H⟩ := H
  replace H : (some (!t264)) = some r := H
  have A2 := Aside0.mk A20
  clear A20
  obtain rfl := Option.some.inj H
  go_enter Try.func63, Try.ntmps63
  go_wp2_with (first | ((with_reducible refine gate_dst (N := 1) rfl ?_); refine box_event ?hg (N := 1) ?hd (cs := #[.int .i64 a0_0, .int .i64 a0_1, .slice A0_2 l0_2.length c0_2]) (t := 102) ?hr ?_; (case hd => rfl); (case hg => rfl); (case hr => exact hr_); intro gb263 hg w3 hbox hb; have n0_ := Aside0.mk (below_step bl_ hb); have n1_ := Aside0.mk (hbox); have n2_ := Aside0.mk (gw_ hg bl_); have n3_ := Aside0.mk (gw_ hg bl_); clear HB; have HB := n0_; have BK263 := n1_; have GW263 := n2_; have GE263 := n3_; clear n0_ n1_ n2_ n3_; clear hb hbox hg; obtain ⟨hcz4_0, hcz4_1, hcz4_2, hfz4_0, hfz4_1, hfz4_2⟩ := cellsF3 BK263.out) | ((with_reducible refine gate_callee (f := 64) rfl ?_); refine gl_ 4 Try.func64 #[.agg #[.int .i64 a0_0, .int .i64 a0_1, .slice A0_2 l0_2.length c0_2]] ?_ rfl rfl rfl rfl; (with_reducible refine (impl_bundleRight.calls k a0_0 a0_1 _ _ l0_2 t264 _ ?side1 ?side2 A2.out).mono ?_); (case side1 => repeat (first | exact (Kd.C_below HR0_2.out HB.out) | (with_reducible refine Kd.C_alloc ?_ _) | (with_reducible refine Kd.C_drewN ?_ _) | (with_reducible refine Kd.C_drew ?_))); (case side2 => exact HC0_2.out); rintro e w5 ⟨rfl, hb⟩; refine ⟨_, rfl, ?_⟩; have n0_ := Aside0.mk (blkb_ BK263 hb); have n1_ := Aside0.mk (below_step bl_ hb); clear BK263; clear HB; have BK263 := n0_; have HB := n1_; clear n0_ n1_; (try clear hb); (try clear hb2); (try clear hk); (try clear hi)))
  go_ret
  exact ⟨au9_0, bl_⟩

/-! ### impl_Bundle_97__impl_IxRight_1: function 97 -/
def impl_Bundle_97__impl_IxRight_1.l0 : Nat → List (S102) → Int → Int → Option (Int)
  | 0, _, _, _ => none
  | k + 1, x0, x7, x8 => if x8 < x7 then (if 0 ≤ x8 then (if x8 < (x0.length : Int) then ((impl_IxRight_1.f k ((rd_T102 x0 x8).f0) ((rd_T102 x0 x8).f1) ((rd_T102 x0 x8).f2)).bind fun t266 => (if t266 = true then (some x8) else (impl_Bundle_97__impl_IxRight_1.l0 k x0 x7 (wrap64 (x8 + 1))))) else (none)) else (none)) else (some (-1))
def impl_Bundle_97__impl_IxRight_1.f (k : Nat) (l0 : List (S102))  : Option (Int) := impl_Bundle_97__impl_IxRight_1.l0 k l0 (l0.length : Int) 0
theorem impl_Bundle_97__impl_IxRight_1.mono_l : ∀ k, (∀ y0 y1 y2, LeO (impl_Bundle_97__impl_IxRight_1.l0 k y0 y1 y2) (impl_Bundle_97__impl_IxRight_1.l0 (k + 1) y0 y1 y2))
  | 0 => fun _ _ _ r h => by simp [impl_Bundle_97__impl_IxRight_1.l0] at h
  | k + 1 => by
    have ih0 := impl_Bundle_97__impl_IxRight_1.mono_l k
    · intro y0 y1 y2
      unfold impl_Bundle_97__impl_IxRight_1.l0
      repeat' first
      | (with_reducible exact ih0 _ _ _)
      | (with_reducible exact impl_IxRight_1.mono _ _ _ _)
      | (with_reducible exact LeO.refl _)
      | (with_reducible exact LeO.none _)
      | (with_reducible refine LeO.ite ?_ ?_)
      | (with_reducible refine LeO.bind ?_ (fun _ => ?_))
      | exact ih0 _ _ _
      | exact impl_IxRight_1.mono _ _ _ _
      | exact LeO.none _
      | refine LeO.ite ?_ ?_
      | refine LeO.bind ?_ (fun _ => ?_)
theorem impl_Bundle_97__impl_IxRight_1.mono : ∀ a0 k, LeO (impl_Bundle_97__impl_IxRight_1.f k a0) (impl_Bundle_97__impl_IxRight_1.f (k + 1) a0) := by
  intro a0 k
  have ih0 := impl_Bundle_97__impl_IxRight_1.mono_l k
  unfold impl_Bundle_97__impl_IxRight_1.f
  repeat' first
      | (with_reducible exact ih0 _ _ _)
      | (with_reducible exact impl_IxRight_1.mono _ _ _ _)
      | (with_reducible exact LeO.refl _)
      | (with_reducible exact LeO.none _)
      | (with_reducible refine LeO.ite ?_ ?_)
      | (with_reducible refine LeO.bind ?_ (fun _ => ?_))
      | exact ih0 _ _ _
      | exact impl_IxRight_1.mono _ _ _ _
      | exact LeO.none _
      | refine LeO.ite ?_ ?_
      | refine LeO.bind ?_ (fun _ => ?_)
set_option maxHeartbeats 8000000 in
set_option maxRecDepth 100000 in
theorem impl_Bundle_97__impl_IxRight_1.calls (k : Nat) (A0 : Option Addr) (c0 : Nat) (l0 : List (S102))  (r : Int) (w : World) (hr0 : Kd.C k102 w A0 l0.length l0) (hc0 : l0.length ≤ c0) (h : impl_Bundle_97__impl_IxRight_1.f k l0 = some r) :
    Calls Try.prog 97 #[.slice A0 l0.length c0, .func (.func 63) #[] #[]] w fun e w' => e = .returned (.int .i64 r) ∧ Below w.heap.size w w' := by
  have hu102 := Try.underlying102
  have HR0 := Aside0.mk hr0
  have HC0 := Aside0.mk hc0
  clear hr0 hc0
  have HB := Aside0.mk (Below.refl w.heap.size w)
  have H : (impl_Bundle_97__impl_IxRight_1.l0 k l0 (l0.length : Int) 0) = some r := h
  clear h
  have H' := Aside0.mk H
  clear H
  go_enter Try.func97, Try.ntmps97
  go_wp2
  go_loopg [8] k (fun kq v8 w' => ∃ (x8_1 : Int), v8 = .int .i64 x8_1 ∧ Aside0 (impl_Bundle_97__impl_IxRight_1.l0 kq l0 (l0.length : Int) x8_1 = some r) ∧ Aside0 (kq ≤ k) ∧ Aside0 (Below w.heap.size w w'))
  case atStart => exact ⟨(0), er_, H', ⟨Nat.le_refl _⟩, ⟨bl_⟩⟩
  case round =>
    clear H'
    try clear p2
    obtain ⟨x8_1, rfl, HA, HK1, HB⟩ := hrel
    cases gk with
    | zero => exact absurd HA.out (by simp [impl_Bundle_97__impl_IxRight_1.l0])
    | succ k1 =>
      have H := HA.out
      clear HA
      simp only [impl_Bundle_97__impl_IxRight_1.l0] at H
      by_cases c3 : x8_1 < (l0.length : Int)
      · rw [if_pos c3] at H
        have c3b0 : decide (x8_1 < (l0.length : Int)) = true := decide_eq_true c3
        clear c3
        by_cases c4 : 0 ≤ x8_1
        · rw [if_pos c4] at H
          have c4b0 : decide (0 ≤ x8_1) = true := decide_eq_true c4
          clear c4
          by_cases c5 : x8_1 < (l0.length : Int)
          · rw [if_pos c5] at H
            have c5b0 : decide (x8_1 < (l0.length : Int)) = true := decide_eq_true c5
            clear c5
            replace H := Option.bind_eq_some_iff.mp H
            obtain ⟨t266, A60, H⟩ := H
            replace H : (if t266 = true then (some x8_1) else (impl_Bundle_97__impl_IxRight_1.l0 k1 l0 (l0.length : Int) (wrap64 (x8_1 + 1)))) = some r := H
            have A6 := Aside0.mk A60
            clear A60
            by_cases c7 : t266 = true
            · subst c7
              have H1 : (some x8_1) = some r := by rw [if_pos rfl] at H; exact H
              clear H
              have H := H1
              clear H1
              obtain rfl := Option.some.inj H
              have p265 : 0 ≤ (x8_1 : Int) := of_decide_eq_true as_
              have q265 : x8_1 < (l0.length : Int) := of_decide_eq_true as_
              obtain ⟨ad265, A265_2, c265_2, e265, hx265_0, hx265_1, hx265_2, hl265_2, hi265_2⟩ := at_T102 HR0.out x8_1 p265 q265
              cases e265
              replace hx265_0 := (HB.out.cell (World.block_lt_of_cell? _ _ hx265_0)).trans hx265_0
              replace hx265_1 := (HB.out.cell (World.block_lt_of_cell? _ _ hx265_1)).trans hx265_1
              replace hx265_2 := (HB.out.cell (World.block_lt_of_cell? _ _ hx265_2)).trans hx265_2
              have HR265_2 := Aside0.mk hi265_2
              have HC265_2 := Aside0.mk hl265_2
              clear hi265_2 hl265_2
              replace p265 := eq_true p265
              replace q265 := eq_true q265
              go_wp2_with (first | (go_at_call 63; (with_reducible refine (impl_IxRight_1.calls k1 ((rd_T102 l0 x8_1).f0) ((rd_T102 l0 x8_1).f1) _ _ ((rd_T102 l0 x8_1).f2) true _ ?side1 ?side2 A6.out).mono ?_); (case side1 => exact au9_4); (case side2 => exact HC265_2.out); rintro e w8 ⟨rfl, hb⟩; have n0_ := Aside0.mk (below_step bl_ hb); clear HB; have HB := n0_; clear n0_; (try clear hb); (try clear hb2); (try clear hk); (try clear hi)))
              go_ret
              exact ⟨au9_0, bl_⟩
            · replace c7 := Bool.eq_false_iff.mpr c7
              subst c7
              have H1 : (impl_Bundle_97__impl_IxRight_1.l0 k1 l0 (l0.length : Int) (wrap64 (x8_1 + 1))) = some r := by rw [if_neg (show ¬ (false = true) by decide)] at H; exact H
              clear H
              have H := H1
              clear H1
              have H' := Aside0.mk H
              clear H
              have p265 : 0 ≤ (x8_1 : Int) := of_decide_eq_true as_
              have q265 : x8_1 < (l0.length : Int) := of_decide_eq_true as_
              obtain ⟨ad265, A265_2, c265_2, e265, hx265_0, hx265_1, hx265_2, hl265_2, hi265_2⟩ := at_T102 HR0.out x8_1 p265 q265
              cases e265
              replace hx265_0 := (HB.out.cell (World.block_lt_of_cell? _ _ hx265_0)).trans hx265_0
              replace hx265_1 := (HB.out.cell (World.block_lt_of_cell? _ _ hx265_1)).trans hx265_1
              replace hx265_2 := (HB.out.cell (World.block_lt_of_cell? _ _ hx265_2)).trans hx265_2
              have HR265_2 := Aside0.mk hi265_2
              have HC265_2 := Aside0.mk hl265_2
              clear hi265_2 hl265_2
              replace p265 := eq_true p265
              replace q265 := eq_true q265
              go_wp2_with (first | (go_at_call 63; (with_reducible refine (impl_IxRight_1.calls k1 ((rd_T102 l0 x8_1).f0) ((rd_T102 l0 x8_1).f1) _ _ ((rd_T102 l0 x8_1).f2) false _ ?side1 ?side2 A6.out).mono ?_); (case side1 => exact au9_4); (case side2 => exact HC265_2.out); rintro e w9 ⟨rfl, hb⟩; have n0_ := Aside0.mk (below_step bl_ hb); clear HB; have HB := n0_; clear n0_; (try clear hb); (try clear hb2); (try clear hk); (try clear hi)))
              go_roundg k1
              case measure => have := HK1.out; omega
              case rel => exact ⟨(wrap64 (x8_1 + 1)), er_, H', ⟨by have := HK1.out; omega⟩, ⟨bl_⟩⟩
          · rw [if_neg c5] at H
            exact absurd H (by simp)
        · rw [if_neg c4] at H
          exact absurd H (by simp)
      · rw [if_neg c3] at H
        have c3b0 : decide (x8_1 < (l0.length : Int)) = false := decide_eq_false c3
        clear c3
        obtain rfl := Option.some.inj H
        go_wp2
        go_ret
        exact ⟨au9_0, bl_⟩

/-! ### impl_Bundle_62__impl_IxRight_1: function 62 -/
def impl_Bundle_62__impl_IxRight_1.f (k : Nat) (l0 : List (S102))  : Option (Bool) := (impl_Bundle_97__impl_IxRight_1.f k l0).bind fun t267 => (some (decide (t267 ≥ 0)))
theorem impl_Bundle_62__impl_IxRight_1.mono : ∀ a0 k, LeO (impl_Bundle_62__impl_IxRight_1.f k a0) (impl_Bundle_62__impl_IxRight_1.f (k + 1) a0) := by
  intro a0 k
  unfold impl_Bundle_62__impl_IxRight_1.f
  repeat' first
      | (with_reducible exact impl_Bundle_97__impl_IxRight_1.mono _ _)
      | (with_reducible exact LeO.refl _)
      | (with_reducible exact LeO.none _)
      | (with_reducible refine LeO.ite ?_ ?_)
      | (with_reducible refine LeO.bind ?_ (fun _ => ?_))
      | exact impl_Bundle_97__impl_IxRight_1.mono _ _
      | exact LeO.none _
      | refine LeO.ite ?_ ?_
      | refine LeO.bind ?_ (fun _ => ?_)
set_option maxHeartbeats 8000000 in
set_option maxRecDepth 100000 in
theorem impl_Bundle_62__impl_IxRight_1.calls (k : Nat) (A0 : Option Addr) (c0 : Nat) (l0 : List (S102))  (r : Bool) (w : World) (hr0 : Kd.C k102 w A0 l0.length l0) (hc0 : l0.length ≤ c0) (h : impl_Bundle_62__impl_IxRight_1.f k l0 = some r) :
    Calls Try.prog 62 #[.slice A0 l0.length c0, .func (.func 63) #[] #[]] w fun e w' => e = .returned (.bool r) ∧ Below w.heap.size w w' := by
  have HR0 := Aside0.mk hr0
  have HC0 := Aside0.mk hc0
  clear hr0 hc0
  have HB := Aside0.mk (Below.refl w.heap.size w)
  have H : ((impl_Bundle_97__impl_IxRight_1.f k l0).bind fun t267 => (some (decide (t267 ≥ 0)))) = some r := h
  clear h
  replace H := Option.bind_eq_some_iff.mp H
  obtain ⟨t267, A30, H⟩ := H
  replace H : (some (decide (t267 ≥ 0))) = some r := H
  have A3 := Aside0.mk A30
  clear A30
  obtain rfl := Option.some.inj H
  go_enter Try.func62, Try.ntmps62
  go_wp2_with (first | ((with_reducible refine gate_callee (f := 97) rfl ?_); refine gl_ 7 Try.func97 #[.slice A0 l0.length c0, .func (.func 63) #[] #[]] ?_ rfl rfl rfl rfl; (with_reducible refine (impl_Bundle_97__impl_IxRight_1.calls k _ _ l0  t267 _ ?side1 ?side2 A3.out).mono ?_); (case side1 => exact au9_1); (case side2 => exact HC0.out); rintro e w4 ⟨rfl, hb⟩; refine ⟨_, rfl, ?_⟩; have n0_ := Aside0.mk (below_step bl_ hb); clear HB; have HB := n0_; clear n0_; (try clear hb); (try clear hb2); (try clear hk); (try clear hi)))
  go_ret
  exact ⟨au9_0, bl_⟩

/-! ### impl_IxRight: function 27 -/
def impl_IxRight.f (k : Nat) (a0_0 : ByteArray) (a0_1 : ByteArray) (a0_2 : Int) (l0_3 : List (S102)) : Option (Bool) := (impl_isName.f k a0_0).bind fun t269 => (if t269 = true then ((impl_isName.f k a0_1).bind fun t270 => (if t270 = true then ((impl_isControl.f a0_2).bind fun t271 => (if t271 = true then ((impl_within.f (l0_3.length : Int) 1 5).bind fun t272 => (if t272 = true then ((impl_Bundle_62__impl_IxRight_1.f k l0_3).bind fun t273 => (some (!t273))) else (some false))) else (some false))) else (some false))) else (some false))
theorem impl_IxRight.mono : ∀ a0 a1 a2 a3 k, LeO (impl_IxRight.f k a0 a1 a2 a3) (impl_IxRight.f (k + 1) a0 a1 a2 a3) := by
  intro a0 a1 a2 a3 k
  unfold impl_IxRight.f
  repeat' first
      | (with_reducible exact impl_Bundle_62__impl_IxRight_1.mono _ _)
      | (with_reducible exact impl_isName.mono _ _)
      | (with_reducible exact LeO.refl _)
      | (with_reducible exact LeO.none _)
      | (with_reducible refine LeO.ite ?_ ?_)
      | (with_reducible refine LeO.bind ?_ (fun _ => ?_))
      | exact impl_Bundle_62__impl_IxRight_1.mono _ _
      | exact impl_isName.mono _ _
      | exact LeO.none _
      | refine LeO.ite ?_ ?_
      | refine LeO.bind ?_ (fun _ => ?_)
set_option maxHeartbeats 8000000 in
set_option maxRecDepth 100000 in
theorem impl_IxRight.calls (k : Nat) (a0_0 : ByteArray) (a0_1 : ByteArray) (a0_2 : Int) (A0_3 : Option Addr) (c0_3 : Nat) (l0_3 : List (S102)) (r : Bool) (w : World) (hr0_3 : Kd.C k102 w A0_3 l0_3.length l0_3) (hc0_3 : l0_3.length ≤ c0_3) (h : impl_IxRight.f k a0_0 a0_1 a0_2 l0_3 = some r) :
    Calls Try.prog 27 #[.agg #[.string a0_0, .string a0_1, .int .i64 a0_2, .slice A0_3 l0_3.length c0_3]] w fun e w' => e = .returned (.bool r) ∧ Below w.heap.size w w' := by
  have hu64 := Try.underlying64
  have HR0_3 := Aside0.mk hr0_3
  have HC0_3 := Aside0.mk hc0_3
  clear hr0_3 hc0_3
  have HB := Aside0.mk (Below.refl w.heap.size w)
  have H : ((impl_isName.f k a0_0).bind fun t269 => (if t269 = true then ((impl_isName.f k a0_1).bind fun t270 => (if t270 = true then ((impl_isControl.f a0_2).bind fun t271 => (if t271 = true then ((impl_within.f (l0_3.length : Int) 1 5).bind fun t272 => (if t272 = true then ((impl_Bundle_62__impl_IxRight_1.f k l0_3).bind fun t273 => (some (!t273))) else (some false))) else (some false))) else (some false))) else (some false))) = some r := h
  clear h
  replace H := Option.bind_eq_some_iff.mp H
  obtain ⟨t269, A20, H⟩ := H
  replace H : (if t269 = true then ((impl_isName.f k a0_1).bind fun t270 => (if t270 = true then ((impl_isControl.f a0_2).bind fun t271 => (if t271 = true then ((impl_within.f (l0_3.length : Int) 1 5).bind fun t272 => (if t272 = true then ((impl_Bundle_62__impl_IxRight_1.f k l0_3).bind fun t273 => (some (!t273))) else (some false))) else (some false))) else (some false))) else (some false)) = some r := H
  have A2 := Aside0.mk A20
  clear A20
  by_cases c3 : t269 = true
  · subst c3
    have H1 : ((impl_isName.f k a0_1).bind fun t270 => (if t270 = true then ((impl_isControl.f a0_2).bind fun t271 => (if t271 = true then ((impl_within.f (l0_3.length : Int) 1 5).bind fun t272 => (if t272 = true then ((impl_Bundle_62__impl_IxRight_1.f k l0_3).bind fun t273 => (some (!t273))) else (some false))) else (some false))) else (some false))) = some r := by rw [if_pos rfl] at H; exact H
    clear H
    have H := H1
    clear H1
    replace H := Option.bind_eq_some_iff.mp H
    obtain ⟨t270, A40, H⟩ := H
    replace H : (if t270 = true then ((impl_isControl.f a0_2).bind fun t271 => (if t271 = true then ((impl_within.f (l0_3.length : Int) 1 5).bind fun t272 => (if t272 = true then ((impl_Bundle_62__impl_IxRight_1.f k l0_3).bind fun t273 => (some (!t273))) else (some false))) else (some false))) else (some false)) = some r := H
    have A4 := Aside0.mk A40
    clear A40
    by_cases c5 : t270 = true
    · subst c5
      have H1 : ((impl_isControl.f a0_2).bind fun t271 => (if t271 = true then ((impl_within.f (l0_3.length : Int) 1 5).bind fun t272 => (if t272 = true then ((impl_Bundle_62__impl_IxRight_1.f k l0_3).bind fun t273 => (some (!t273))) else (some false))) else (some false))) = some r := by rw [if_pos rfl] at H; exact H
      clear H
      have H := H1
      clear H1
      replace H := Option.bind_eq_some_iff.mp H
      obtain ⟨t271, A60, H⟩ := H
      replace H : (if t271 = true then ((impl_within.f (l0_3.length : Int) 1 5).bind fun t272 => (if t272 = true then ((impl_Bundle_62__impl_IxRight_1.f k l0_3).bind fun t273 => (some (!t273))) else (some false))) else (some false)) = some r := H
      have A6 := Aside0.mk A60
      clear A60
      by_cases c7 : t271 = true
      · subst c7
        have H1 : ((impl_within.f (l0_3.length : Int) 1 5).bind fun t272 => (if t272 = true then ((impl_Bundle_62__impl_IxRight_1.f k l0_3).bind fun t273 => (some (!t273))) else (some false))) = some r := by rw [if_pos rfl] at H; exact H
        clear H
        have H := H1
        clear H1
        replace H := Option.bind_eq_some_iff.mp H
        obtain ⟨t272, A80, H⟩ := H
        replace H : (if t272 = true then ((impl_Bundle_62__impl_IxRight_1.f k l0_3).bind fun t273 => (some (!t273))) else (some false)) = some r := H
        have A8 := Aside0.mk A80
        clear A80
        by_cases c9 : t272 = true
        · subst c9
          have H1 : ((impl_Bundle_62__impl_IxRight_1.f k l0_3).bind fun t273 => (some (!t273))) = some r := by rw [if_pos rfl] at H; exact H
          clear H
          have H := H1
          clear H1
          replace H := Option.bind_eq_some_iff.mp H
          obtain ⟨t273, A100, H⟩ := H
          replace H : (some (!t273)) = some r := H
          have A10 := Aside0.mk A100
          clear A100
          obtain rfl := Option.some.inj H
          go_enter Try.func27, Try.ntmps27
          go_wp2_with (first | ((with_reducible refine gate_dst (N := 1) rfl ?_); (try (refine gate_guard (by rfl) ?_; dsimp only)); refine box_event ?hg (N := 1) ?hd (cs := #[.string a0_0, .string a0_1, .int .i64 a0_2, .slice A0_3 l0_3.length c0_3]) (t := 64) ?hr ?_; (case hd => rfl); (case hg => rfl); (case hr => exact hr_); intro gb268 hg w11 hbox hb; have n0_ := Aside0.mk (below_step bl_ hb); have n1_ := Aside0.mk (hbox); have n2_ := Aside0.mk (gw_ hg bl_); have n3_ := Aside0.mk (gw_ hg bl_); clear HB; have HB := n0_; have BK268 := n1_; have GW268 := n2_; have GE268 := n3_; clear n0_ n1_ n2_ n3_; clear hb hbox hg; obtain ⟨hcz12_0, hcz12_1, hcz12_2, hcz12_3, hfz12_0, hfz12_1, hfz12_2, hfz12_3⟩ := cellsF4 BK268.out) | ((with_reducible refine gate_callee (f := 59) rfl ?_); refine gl_ 5 Try.func59 #[.string a0_0] ?_ rfl rfl rfl rfl; (with_reducible refine (impl_isName.calls k a0_0 true _ A2.out).mono ?_); rintro e w' ⟨rfl, ⟨nd, rfl⟩⟩; refine ⟨_, rfl, ?_⟩) | (go_at_call 59; (with_reducible refine (impl_isName.calls k a0_1 true _ A4.out).mono ?_); rintro e w' ⟨rfl, ⟨nd, rfl⟩⟩) | (go_at_call 60; (with_reducible refine (impl_isControl.calls a0_2 true _ A6.out).mono ?_); rintro e w' ⟨rfl, ⟨nd, rfl⟩⟩) | (go_at_call 61; (with_reducible refine (impl_within.calls (l0_3.length : Int) 1 5 true _ A8.out).mono ?_); rintro e w' ⟨rfl, ⟨nd, rfl⟩⟩) | (go_at_call 62; (with_reducible refine (impl_Bundle_62__impl_IxRight_1.calls k _ _ l0_3  t273 _ ?side1 ?side2 A10.out).mono ?_); (case side1 => repeat (first | exact (Kd.C_below HR0_3.out bl_) | (with_reducible refine Kd.C_alloc ?_ _) | (with_reducible refine Kd.C_drewN ?_ _) | (with_reducible refine Kd.C_drew ?_))); (case side2 => exact HC0_3.out); rintro e w13 ⟨rfl, hb⟩; have n0_ := Aside0.mk (blkb_ BK268 hb); have n1_ := Aside0.mk (below_step bl_ hb); clear BK268; clear HB; have BK268 := n0_; have HB := n1_; clear n0_ n1_; (try clear hb); (try clear hb2); (try clear hk); (try clear hi)))
          go_ret
          exact ⟨au9_0, bl_⟩
        · replace c9 := Bool.eq_false_iff.mpr c9
          subst c9
          have H1 : (some false) = some r := by rw [if_neg (show ¬ (false = true) by decide)] at H; exact H
          clear H
          have H := H1
          clear H1
          obtain rfl := Option.some.inj H
          go_enter Try.func27, Try.ntmps27
          go_wp2_with (first | ((with_reducible refine gate_dst (N := 1) rfl ?_); (try (refine gate_guard (by rfl) ?_; dsimp only)); refine box_event ?hg (N := 1) ?hd (cs := #[.string a0_0, .string a0_1, .int .i64 a0_2, .slice A0_3 l0_3.length c0_3]) (t := 64) ?hr ?_; (case hd => rfl); (case hg => rfl); (case hr => exact hr_); intro gb268 hg w14 hbox hb; have n0_ := Aside0.mk (below_step bl_ hb); have n1_ := Aside0.mk (hbox); have n2_ := Aside0.mk (gw_ hg bl_); have n3_ := Aside0.mk (gw_ hg bl_); clear HB; have HB := n0_; have BK268 := n1_; have GW268 := n2_; have GE268 := n3_; clear n0_ n1_ n2_ n3_; clear hb hbox hg; obtain ⟨hcz15_0, hcz15_1, hcz15_2, hcz15_3, hfz15_0, hfz15_1, hfz15_2, hfz15_3⟩ := cellsF4 BK268.out) | ((with_reducible refine gate_callee (f := 59) rfl ?_); refine gl_ 5 Try.func59 #[.string a0_0] ?_ rfl rfl rfl rfl; (with_reducible refine (impl_isName.calls k a0_0 true _ A2.out).mono ?_); rintro e w' ⟨rfl, ⟨nd, rfl⟩⟩; refine ⟨_, rfl, ?_⟩) | (go_at_call 59; (with_reducible refine (impl_isName.calls k a0_1 true _ A4.out).mono ?_); rintro e w' ⟨rfl, ⟨nd, rfl⟩⟩) | (go_at_call 60; (with_reducible refine (impl_isControl.calls a0_2 true _ A6.out).mono ?_); rintro e w' ⟨rfl, ⟨nd, rfl⟩⟩) | (go_at_call 61; (with_reducible refine (impl_within.calls (l0_3.length : Int) 1 5 false _ A8.out).mono ?_); rintro e w' ⟨rfl, ⟨nd, rfl⟩⟩))
          go_ret
          exact ⟨au9_0, bl_⟩
      · replace c7 := Bool.eq_false_iff.mpr c7
        subst c7
        have H1 : (some false) = some r := by rw [if_neg (show ¬ (false = true) by decide)] at H; exact H
        clear H
        have H := H1
        clear H1
        obtain rfl := Option.some.inj H
        go_enter Try.func27, Try.ntmps27
        go_wp2_with (first | ((with_reducible refine gate_dst (N := 1) rfl ?_); (try (refine gate_guard (by rfl) ?_; dsimp only)); refine box_event ?hg (N := 1) ?hd (cs := #[.string a0_0, .string a0_1, .int .i64 a0_2, .slice A0_3 l0_3.length c0_3]) (t := 64) ?hr ?_; (case hd => rfl); (case hg => rfl); (case hr => exact hr_); intro gb268 hg w16 hbox hb; have n0_ := Aside0.mk (below_step bl_ hb); have n1_ := Aside0.mk (hbox); have n2_ := Aside0.mk (gw_ hg bl_); have n3_ := Aside0.mk (gw_ hg bl_); clear HB; have HB := n0_; have BK268 := n1_; have GW268 := n2_; have GE268 := n3_; clear n0_ n1_ n2_ n3_; clear hb hbox hg; obtain ⟨hcz17_0, hcz17_1, hcz17_2, hcz17_3, hfz17_0, hfz17_1, hfz17_2, hfz17_3⟩ := cellsF4 BK268.out) | ((with_reducible refine gate_callee (f := 59) rfl ?_); refine gl_ 5 Try.func59 #[.string a0_0] ?_ rfl rfl rfl rfl; (with_reducible refine (impl_isName.calls k a0_0 true _ A2.out).mono ?_); rintro e w' ⟨rfl, ⟨nd, rfl⟩⟩; refine ⟨_, rfl, ?_⟩) | (go_at_call 59; (with_reducible refine (impl_isName.calls k a0_1 true _ A4.out).mono ?_); rintro e w' ⟨rfl, ⟨nd, rfl⟩⟩) | (go_at_call 60; (with_reducible refine (impl_isControl.calls a0_2 false _ A6.out).mono ?_); rintro e w' ⟨rfl, ⟨nd, rfl⟩⟩))
        go_ret
        exact ⟨au9_0, bl_⟩
    · replace c5 := Bool.eq_false_iff.mpr c5
      subst c5
      have H1 : (some false) = some r := by rw [if_neg (show ¬ (false = true) by decide)] at H; exact H
      clear H
      have H := H1
      clear H1
      obtain rfl := Option.some.inj H
      go_enter Try.func27, Try.ntmps27
      go_wp2_with (first | ((with_reducible refine gate_dst (N := 1) rfl ?_); (try (refine gate_guard (by rfl) ?_; dsimp only)); refine box_event ?hg (N := 1) ?hd (cs := #[.string a0_0, .string a0_1, .int .i64 a0_2, .slice A0_3 l0_3.length c0_3]) (t := 64) ?hr ?_; (case hd => rfl); (case hg => rfl); (case hr => exact hr_); intro gb268 hg w18 hbox hb; have n0_ := Aside0.mk (below_step bl_ hb); have n1_ := Aside0.mk (hbox); have n2_ := Aside0.mk (gw_ hg bl_); have n3_ := Aside0.mk (gw_ hg bl_); clear HB; have HB := n0_; have BK268 := n1_; have GW268 := n2_; have GE268 := n3_; clear n0_ n1_ n2_ n3_; clear hb hbox hg; obtain ⟨hcz19_0, hcz19_1, hcz19_2, hcz19_3, hfz19_0, hfz19_1, hfz19_2, hfz19_3⟩ := cellsF4 BK268.out) | ((with_reducible refine gate_callee (f := 59) rfl ?_); refine gl_ 5 Try.func59 #[.string a0_0] ?_ rfl rfl rfl rfl; (with_reducible refine (impl_isName.calls k a0_0 true _ A2.out).mono ?_); rintro e w' ⟨rfl, ⟨nd, rfl⟩⟩; refine ⟨_, rfl, ?_⟩) | (go_at_call 59; (with_reducible refine (impl_isName.calls k a0_1 false _ A4.out).mono ?_); rintro e w' ⟨rfl, ⟨nd, rfl⟩⟩))
      go_ret
      exact ⟨au9_0, bl_⟩
  · replace c3 := Bool.eq_false_iff.mpr c3
    subst c3
    have H1 : (some false) = some r := by rw [if_neg (show ¬ (false = true) by decide)] at H; exact H
    clear H
    have H := H1
    clear H1
    obtain rfl := Option.some.inj H
    go_enter Try.func27, Try.ntmps27
    go_wp2_with (first | ((with_reducible refine gate_dst (N := 1) rfl ?_); (try (refine gate_guard (by rfl) ?_; dsimp only)); refine box_event ?hg (N := 1) ?hd (cs := #[.string a0_0, .string a0_1, .int .i64 a0_2, .slice A0_3 l0_3.length c0_3]) (t := 64) ?hr ?_; (case hd => rfl); (case hg => rfl); (case hr => exact hr_); intro gb268 hg w20 hbox hb; have n0_ := Aside0.mk (below_step bl_ hb); have n1_ := Aside0.mk (hbox); have n2_ := Aside0.mk (gw_ hg bl_); have n3_ := Aside0.mk (gw_ hg bl_); clear HB; have HB := n0_; have BK268 := n1_; have GW268 := n2_; have GE268 := n3_; clear n0_ n1_ n2_ n3_; clear hb hbox hg; obtain ⟨hcz21_0, hcz21_1, hcz21_2, hcz21_3, hfz21_0, hfz21_1, hfz21_2, hfz21_3⟩ := cellsF4 BK268.out) | ((with_reducible refine gate_callee (f := 59) rfl ?_); refine gl_ 5 Try.func59 #[.string a0_0] ?_ rfl rfl rfl rfl; (with_reducible refine (impl_isName.calls k a0_0 false _ A2.out).mono ?_); rintro e w' ⟨rfl, ⟨nd, rfl⟩⟩; refine ⟨_, rfl, ?_⟩))
    go_ret
    exact ⟨au9_0, bl_⟩

end Go.Proofs.Ytlghcbmkhdibdaa.PFnExactIxRight
