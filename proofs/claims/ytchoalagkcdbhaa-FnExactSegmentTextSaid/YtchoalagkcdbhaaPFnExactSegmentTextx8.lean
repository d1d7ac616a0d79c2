-- printed by a program of this session (wip/xp/xprint.py) out of the translation; Lean checks it
import Derived.Test.YtchoalagkcdbhaaPFnExactSegmentTextx0
import Derived.Test.YtchoalagkcdbhaaPFnExactSegmentTextx7
namespace Go.Proofs.Ytchoalagkcdbhaa.PFnExactSegmentText
open Go.RowKit Go.Proofs.YtchoalagkcdbhaaW.PrintWords Go.Proofs.YtchoalagkcdbhaaW.PrintLast Go.Proofs.YtchoalagkcdbhaaW.PrintMore
attribute [local go_sem] max2_int min2_int max_two min_two max_three min_three max_four min_four   -- for this text's walks alone
set_option linter.unusedVariables false
set_option linter.unusedSimpArgs false

theorem au8_0 {p : Prop} (h : p := by first | rfl | (simp [errW_none, errW_some] <;> rfl) | (simp [*, errW_none, errW_some] <;> rfl)) : p := h

/-! ### impl_Syntax_fields: function 102 -/
def impl_Syntax_fields.f (a0_0 : Int) (a0_1 : Int) (a0_2 : Int) (a0_3 : Int) : Option (List Int) := some (([a0_0, a0_1, a0_2, a0_3] : List Int))
set_option maxHeartbeats 8000000 in
set_option maxRecDepth 100000 in
theorem impl_Syntax_fields.calls (a0_0 : Int) (a0_1 : Int) (a0_2 : Int) (a0_3 : Int) (r : List Int) (w : World) (h : impl_Syntax_fields.f a0_0 a0_1 a0_2 a0_3 = some r) :
    Calls Try.prog 102 #[.agg #[.int .i64 a0_0, .int .i64 a0_1, .int .i64 a0_2, .int .i64 a0_3]] w fun e w' => ∃ v0_ : Value, e = .returned (v0_) ∧ Kd.R (Kd.int .i64) 2 w' w.heap.size (fun _ => True) v0_ r ∧ Below w.heap.size w w' := by
  have hu23 := Try.underlying23
  have HB := Aside0.mk (Below.refl w.heap.size w)
  have H : (some (([a0_0, a0_1, a0_2, a0_3] : List Int))) = some r := h
  clear h
  obtain ⟨y216, hy216⟩ : ∃ y_ : List Int, y_ = (([a0_0, a0_1, a0_2, a0_3] : List Int)) := ⟨_, rfl⟩
  replace H : (some y216) = some r := by first | (rw [hy216]; with_reducible exact H) | (have H2_ := (Option.bind_some _ _).symm.trans H; rw [hy216]; with_reducible exact H2_) | (have H2_ := (Option.bind_some _ _).symm.trans H; with_reducible exact H2_) | with_reducible exact H | (rw [hy216]; exact H) | exact H
  have Ny216 := Aside0.mk hy216
  clear hy216
  obtain rfl := Option.some.inj H
  go_enter Try.func102, Try.ntmps102
  go_wp2_with (first | ((with_reducible refine gate_dst (N := 1) rfl ?_); refine box_event ?hg (N := 1) ?hd (cs := #[.int .i64 a0_0, .int .i64 a0_1, .int .i64 a0_2, .int .i64 a0_3]) (t := 23) ?hr ?_; (case hd => rfl); (case hg => rfl); (case hr => exact hr_); intro gb215 hg w2 hbox hb; have n0_ := Aside0.mk (below_step bl_ hb); have n1_ := Aside0.mk (hbox); have n2_ := Aside0.mk (gw_ hg bl_); have n3_ := Aside0.mk (gw_ hg bl_); clear HB; have HB := n0_; have BK215 := n1_; have GW215 := n2_; have GE215 := n3_; clear n0_ n1_ n2_ n3_; clear hb hbox hg; obtain ⟨hcz3_0, hcz3_1, hcz3_2, hcz3_3, hfz3_0, hfz3_1, hfz3_2, hfz3_3⟩ := cellsF4 BK215.out) | ((with_reducible refine gate_dst (N := 11) rfl ?_); refine Kd.R_lit (Kd.int .i64) _ 2 ?hg (N := 11) ?hd (xs := ([a0_0, a0_1, a0_2, a0_3] : List Int)) (inner := [.int .i64 a0_0, .int .i64 a0_1, .int .i64 a0_2, .int .i64 a0_3]) (ok := fun _ => True) (okp := fun _ => True) ?hr ?hp (fun _ hk => hk) trivial (Below.refl _ _) (Nat.le_refl _) (by simp) ?_; (case hd => rfl); (case hg => rfl); (case hr => exact hr_); (case hp => exact (Reps.one (show Kd.M (Kd.int .i64) _ _ _ a0_0 [.int .i64 a0_0] from rfl) (Reps.one (show Kd.M (Kd.int .i64) _ _ _ a0_1 [.int .i64 a0_1] from rfl) (Reps.one (show Kd.M (Kd.int .i64) _ _ _ a0_2 [.int .i64 a0_2] from rfl) (Reps.one (show Kd.M (Kd.int .i64) _ _ _ a0_3 [.int .i64 a0_3] from rfl) (Reps.none _ _)))))); intro v217 w4 ho5 hb hg_ hnew_; clear hg_ hnew_; (first | rw [← Ny216.out] at ho5 | (simp only [Int.reduceToNat] at ho5; rw [← Ny216.out] at ho5)); have n0_ := Aside0.mk (Kd.R_lower ho5 (below_size bl_)); have n1_ := Aside0.mk (blkb_ BK215 hb); have n2_ := Aside0.mk (below_step bl_ hb); clear BK215; clear HB; have HO218 := n0_; have BK215 := n1_; have HB := n2_; clear n0_ n1_ n2_; clear hb ho5))
  go_ret
  exact ⟨_, au8_0, rk_ HO218, bl_⟩

/-! ### slices_Index_int64_int64: function 120 -/
def slices_Index_int64_int64.l0 : Nat → List Int → Int → Int → Int → Option (Int)
  | 0, _, _, _, _ => none
  | k + 1, x0, x1, x7, x8 => if x8 < x7 then (if 0 ≤ x8 then (if x8 < (x0.length : Int) then (if x1 = (rd x0 x8) then (some x8) else (slices_Index_int64_int64.l0 k x0 x1 x7 (wrap64 (x8 + 1)))) else (none)) else (none)) else (some (-1))
def slices_Index_int64_int64.f (k : Nat) (l0 : List Int) (a1 : Int) : Option (Int) := slices_Index_int64_int64.l0 k l0 a1 (l0.length : Int) 0
theorem slices_Index_int64_int64.mono_l : ∀ k, (∀ y0 y1 y2 y3, LeO (slices_Index_int64_int64.l0 k y0 y1 y2 y3) (slices_Index_int64_int64.l0 (k + 1) y0 y1 y2 y3))
  | 0 => fun _ _ _ _ r h => by simp [slices_Index_int64_int64.l0] at h
  | k + 1 => by
    have ih0 := slices_Index_int64_int64.mono_l k
    · intro y0 y1 y2 y3
      unfold slices_Index_int64_int64.l0
      repeat' first
      | (with_reducible exact ih0 _ _ _ _)
      | (with_reducible exact LeO.refl _)
      | (with_reducible exact LeO.none _)
      | (with_reducible refine LeO.ite ?_ ?_)
      | (with_reducible refine LeO.bind ?_ (fun _ => ?_))
      | exact ih0 _ _ _ _
      | exact LeO.none _
      | refine LeO.ite ?_ ?_
      | refine LeO.bind ?_ (fun _ => ?_)
theorem slices_Index_int64_int64.mono : ∀ a0 a1 k, LeO (slices_Index_int64_int64.f k a0 a1) (slices_Index_int64_int64.f (k + 1) a0 a1) := by
  intro a0 a1 k
  have ih0 := slices_Index_int64_int64.mono_l k
  unfold slices_Index_int64_int64.f
  repeat' first
      | (with_reducible exact ih0 _ _ _ _)
      | (with_reducible exact LeO.refl _)
      | (with_reducible exact LeO.none _)
      | (with_reducible refine LeO.ite ?_ ?_)
      | (with_reducible refine LeO.bind ?_ (fun _ => ?_))
      | exact ih0 _ _ _ _
      | exact LeO.none _
      | refine LeO.ite ?_ ?_
      | refine LeO.bind ?_ (fun _ => ?_)
set_option maxHeartbeats 8000000 in
set_option maxRecDepth 100000 in
theorem slices_Index_int64_int64.calls (k : Nat) (A0 : Option Addr) (c0 : Nat) (l0 : List Int) (a1 : Int) (r : Int) (w : World) (hr0 : Kd.C (Kd.int .i64) w A0 l0.length l0) (hc0 : l0.length ≤ c0) (h : slices_Index_int64_int64.f k l0 a1 = some r) :
    Calls Try.prog 120 #[.slice A0 l0.length c0, .int .i64 a1] w fun e w' => e = .returned (.int .i64 r) ∧ Drawn0 w w' := by
  have HR0 := Aside0.mk hr0
  have HC0 := Aside0.mk hc0
  clear hr0 hc0
  have H : (slices_Index_int64_int64.l0 k l0 a1 (l0.length : Int) 0) = some r := h
  clear h
  have H' := Aside0.mk H
  clear H
  go_enter Try.func120, Try.ntmps120
  go_wp2
  go_loopg [8] k (fun kq v8 w' => ∃ (x8_1 : Int), v8 = .int .i64 x8_1 ∧ Aside0 (slices_Index_int64_int64.l0 kq l0 a1 (l0.length : Int) x8_1 = some r) ∧ Aside0 (kq ≤ k) ∧ Drawn0 w w')
  case atStart => exact ⟨(0), er_, H', ⟨Nat.le_refl _⟩, dn_⟩
  case round =>
    clear H'
    try clear c1
    try clear p2
    obtain ⟨x8_1, rfl, HA, HK1, ⟨m1, rfl⟩⟩ := hrel
    cases gk with
    | zero => exact absurd HA.out (by simp [slices_Index_int64_int64.l0])
    | succ k1 =>
      have H := HA.out
      clear HA
      simp only [slices_Index_int64_int64.l0] at H
      by_cases c3 : x8_1 < (l0.length : Int)
      · rw [if_pos c3] at H
        have c3b0 : decide (x8_1 < (l0.length : Int)) = true := decide_eq_true c3
        clear c3
        by_cases c4 : 0 ≤ x8_1
        · rw [if_pos c4] at H
          have c4b0 : decide (0 ≤ x8_1) = true := decide_eq_true c4
          clear c4
          by_cases c5 : x8_1 < (l0.length : Int)
          · rw [if_pos c5] at H
            have c5b0 : decide (x8_1 < (l0.length : Int)) = true := decide_eq_true c5
            clear c5
            by_cases c6 : a1 = (rd l0 x8_1)
            · rw [if_pos c6] at H
              have c6b0 : (a1 == (rd l0 x8_1)) = true := beq_iff_eq.mpr c6
              have c6b1 : (a1 != (rd l0 x8_1)) = false := bne_eq_false_iff_eq.mpr c6
              clear c6
              obtain rfl := Option.some.inj H
              have p219 : 0 ≤ (x8_1 : Int) := of_decide_eq_true as_
              have q219 : x8_1 < (l0.length : Int) := of_decide_eq_true as_
              obtain ⟨ad219, e219, hx219_0⟩ := Kd.at_int HR0.out x8_1 p219 q219
              cases e219
              replace p219 := eq_true p219
              replace q219 := eq_true q219
              go_wp2
              go_ret
              exact ⟨er_, dn_⟩
            · rw [if_neg c6] at H
              have c6b0 : (a1 == (rd l0 x8_1)) = false := beq_eq_false_iff_ne.mpr c6
              have c6b1 : (a1 != (rd l0 x8_1)) = true := bne_iff_ne.mpr c6
              have H' := Aside0.mk H
              clear H
              have p219 : 0 ≤ (x8_1 : Int) := of_decide_eq_true as_
              have q219 : x8_1 < (l0.length : Int) := of_decide_eq_true as_
              obtain ⟨ad219, e219, hx219_0⟩ := Kd.at_int HR0.out x8_1 p219 q219
              cases e219
              replace p219 := eq_true p219
              replace q219 := eq_true q219
              go_wp2
              go_roundg k1
              case measure => have := HK1.out; omega
              case rel => exact ⟨(wrap64 (x8_1 + 1)), er_, H', ⟨by have := HK1.out; omega⟩, dn_⟩
          · rw [if_neg c5] at H
            exact absurd H (by simp)
        · rw [if_neg c4] at H
          exact absurd H (by simp)
      · rw [if_neg c3] at H
        have c3b0 : decide (x8_1 < (l0.length : Int)) = false := decide_eq_false c3
        clear c3
        obtain rfl := Option.some.inj H
        go_wp2
        go_ret
        exact ⟨er_, dn_⟩

/-! ### slices_Contains_int64_int64: function 103 -/
def slices_Contains_int64_int64.f (k : Nat) (l0 : List Int) (a1 : Int) : Option (Bool) := (slices_Index_int64_int64.f k l0 a1).bind fun t220 => (some (decide (t220 ≥ 0)))
theorem slices_Contains_int64_int64.mono : ∀ a0 a1 k, LeO (slices_Contains_int64_int64.f k a0 a1) (slices_Contains_int64_int64.f (k + 1) a0 a1) := by
  intro a0 a1 k
  unfold slices_Contains_int64_int64.f
  repeat' first
      | (with_reducible exact slices_Index_int64_int64.mono _ _ _)
      | (with_reducible exact LeO.refl _)
      | (with_reducible exact LeO.none _)
      | (with_reducible refine LeO.ite ?_ ?_)
      | (with_reducible refine LeO.bind ?_ (fun _ => ?_))
      | exact slices_Index_int64_int64.mono _ _ _
      | exact LeO.none _
      | refine LeO.ite ?_ ?_
      | refine LeO.bind ?_ (fun _ => ?_)
set_option maxHeartbeats 8000000 in
set_option maxRecDepth 100000 in
theorem slices_Contains_int64_int64.calls (k : Nat) (A0 : Option Addr) (c0 : Nat) (l0 : List Int) (a1 : Int) (r : Bool) (w : World) (hr0 : Kd.C (Kd.int .i64) w A0 l0.length l0) (hc0 : l0.length ≤ c0) (h : slices_Contains_int64_int64.f k l0 a1 = some r) :
    Calls Try.prog 103 #[.slice A0 l0.length c0, .int .i64 a1] w fun e w' => e = .returned (.bool r) ∧ Drawn0 w w' := by
  have HR0 := Aside0.mk hr0
  have HC0 := Aside0.mk hc0
  clear hr0 hc0
  have H : ((slices_Index_int64_int64.f k l0 a1).bind fun t220 => (some (decide (t220 ≥ 0)))) = some r := h
  clear h
  replace H := Option.bind_eq_some_iff.mp H
  obtain ⟨t220, A30, H⟩ := H
  replace H : (some (decide (t220 ≥ 0))) = some r := H
  have A3 := Aside0.mk A30
  clear A30
  obtain rfl := Option.some.inj H
  go_enter Try.func103, Try.ntmps103
  go_wp2_with (first | ((with_reducible refine gate_callee (f := 120) rfl ?_); refine gl_ 7 Try.func120 #[.slice A0 l0.length c0, .int .i64 a1] ?_ rfl rfl rfl rfl; (with_reducible refine (slices_Index_int64_int64.calls k _ _ l0 a1 t220 _ ?side1 ?side2 A3.out).mono ?_); (case side1 => repeat (first | exact HR0.out | (with_reducible refine Kd.C_alloc ?_ _) | (with_reducible refine Kd.C_drewN ?_ _) | (with_reducible refine Kd.C_drew ?_))); (case side2 => exact HC0.out); rintro e w' ⟨rfl, ⟨nd, rfl⟩⟩; refine ⟨_, rfl, ?_⟩))
  go_ret
  exact ⟨er_, dn_⟩

/-! ### impl_isDigit: function 105 -/
def impl_isDigit.f (a0 : Int) : Option (Bool) := if a0 ≥ 48 then (some (decide (a0 ≤ 57))) else (some false)
set_option maxHeartbeats 8000000 in
set_option maxRecDepth 100000 in
theorem impl_isDigit.calls (a0 : Int) (r : Bool) (w : World) (h : impl_isDigit.f a0 = some r) :
    Calls Try.prog 105 #[.int .u8 a0] w fun e w' => e = .returned (.bool r) ∧ Drawn0 w w' := by
  have H : (if a0 ≥ 48 then (some (decide (a0 ≤ 57))) else (some false)) = some r := h
  clear h
  by_cases c2 : a0 ≥ 48
  · rw [if_pos c2] at H
    have c2b0 : decide (48 ≤ a0) = true := decide_eq_true c2
    clear c2
    obtain rfl := Option.some.inj H
    go_enter Try.func105, Try.ntmps105
    go_wp2
    go_ret
    exact ⟨er_, dn_⟩
  · rw [if_neg c2] at H
    have c2b0 : decide (48 ≤ a0) = false := decide_eq_false c2
    clear c2
    obtain rfl := Option.some.inj H
    go_enter Try.func105, Try.ntmps105
    go_wp2
    go_ret
    exact ⟨er_, dn_⟩

/-! ### impl_SyntaxRight: function 60 -/
mutual
def impl_SyntaxRight.l0 : Nat → List Int → List Int → Int → Int → Option (Bool)
  | 0, _, _, _, _ => none
  | k + 1, x3, x9, x10, x11 => if x11 < x10 then (if 0 ≤ x11 then (if x11 < (x9.length : Int) then ((impl_within.f (rd x9 x11) 33 126).bind fun t226 => (if t226 = true then (if x11 ≤ (x3.length : Int) then ((slices_Contains_int64_int64.f k (x3.take (x11 : Int).toNat) (rd x9 x11)).bind fun t231 => (impl_SyntaxRight.j1 k x3 (rd x9 x11) x9 x10 x11 t231)) else (none)) else (impl_SyntaxRight.j1 k x3 (rd x9 x11) x9 x10 x11 true))) else (none)) else (none)) else (some true)
def impl_SyntaxRight.j1 : Nat → List Int → Int → List Int → Int → Int → Bool → Option (Bool)
  | 0, _, _, _, _, _, _ => none
  | k + 1, x3, x5, x9, x10, x11, x25 => if x25 = true then (some false) else ((impl_isGreat.f ((x5) % 256)).bind fun t232 => (if t232 = true then (some false) else (if ((x5) % 256) ≥ 97 then (if ((x5) % 256) ≤ 122 then (some false) else ((impl_isDigit.f ((x5) % 256)).bind fun t233 => (if t233 = true then (some false) else (if ((x5) % 256) = 45 then (some false) else (impl_SyntaxRight.l0 k x3 x9 x10 (wrap64 (x11 + 1))))))) else ((impl_isDigit.f ((x5) % 256)).bind fun t234 => (if t234 = true then (some false) else (if ((x5) % 256) = 45 then (some false) else (impl_SyntaxRight.l0 k x3 x9 x10 (wrap64 (x11 + 1)))))))))
end
def impl_SyntaxRight.f (k : Nat) (a0_0 : Int) (a0_1 : Int) (a0_2 : Int) (a0_3 : Int) : Option (Bool) := (impl_Syntax_fields.f a0_0 a0_1 a0_2 a0_3).bind fun t222 => (impl_SyntaxRight.l0 k t222 t222 (t222.length : Int) 0)
theorem impl_SyntaxRight.mono_l : ∀ k, (∀ y0 y1 y2 y3, LeO (impl_SyntaxRight.l0 k y0 y1 y2 y3) (impl_SyntaxRight.l0 (k + 1) y0 y1 y2 y3)) ∧ (∀ y0 y1 y2 y3 y4 y5, LeO (impl_SyntaxRight.j1 k y0 y1 y2 y3 y4 y5) (impl_SyntaxRight.j1 (k + 1) y0 y1 y2 y3 y4 y5))
  | 0 => ⟨fun _ _ _ _ r h => by simp [impl_SyntaxRight.l0] at h, fun _ _ _ _ _ _ r h => by simp [impl_SyntaxRight.j1] at h⟩
  | k + 1 => by
    obtain ⟨ih0, ih1⟩ := impl_SyntaxRight.mono_l k
    refine ⟨?_, ?_⟩
    · intro y0 y1 y2 y3
      unfold impl_SyntaxRight.l0
      repeat' first
      | (with_reducible exact ih0 _ _ _ _)
      | (with_reducible exact ih1 _ _ _ _ _ _)
      | (with_reducible exact slices_Contains_int64_int64.mono _ _ _)
      | (with_reducible exact LeO.refl _)
      | (with_reducible exact LeO.none _)
      | (with_reducible refine LeO.ite ?_ ?_)
      | (with_reducible refine LeO.bind ?_ (fun _ => ?_))
      | exact ih0 _ _ _ _
      | exact ih1 _ _ _ _ _ _
      | exact slices_Contains_int64_int64.mono _ _ _
      | exact LeO.none _
      | refine LeO.ite ?_ ?_
      | refine LeO.bind ?_ (fun _ => ?_)
    · intro y0 y1 y2 y3 y4 y5
      unfold impl_SyntaxRight.j1
      repeat' first
      | (with_reducible exact ih0 _ _ _ _)
      | (with_reducible exact ih1 _ _ _ _ _ _)
      | (with_reducible exact slices_Contains_int64_int64.mono _ _ _)
      | (with_reducible exact LeO.refl _)
      | (with_reducible exact LeO.none _)
      | (with_reducible refine LeO.ite ?_ ?_)
      | (with_reducible refine LeO.bind ?_ (fun _ => ?_))
      | exact ih0 _ _ _ _
      | exact ih1 _ _ _ _ _ _
      | exact slices_Contains_int64_int64.mono _ _ _
      | exact LeO.none _
      | refine LeO.ite ?_ ?_
      | refine LeO.bind ?_ (fun _ => ?_)
theorem impl_SyntaxRight.mono : ∀ a0 a1 a2 a3 k, LeO (impl_SyntaxRight.f k a0 a1 a2 a3) (impl_SyntaxRight.f (k + 1) a0 a1 a2 a3) := by
  intro a0 a1 a2 a3 k
  obtain ⟨ih0, ih1⟩ := impl_SyntaxRight.mono_l k
  unfold impl_SyntaxRight.f
  repeat' first
      | (with_reducible exact ih0 _ _ _ _)
      | (with_reducible exact ih1 _ _ _ _ _ _)
      | (with_reducible exact slices_Contains_int64_int64.mono _ _ _)
      | (with_reducible exact LeO.refl _)
      | (with_reducible exact LeO.none _)
      | (with_reducible refine LeO.ite ?_ ?_)
      | (with_reducible refine LeO.bind ?_ (fun _ => ?_))
      | exact ih0 _ _ _ _
      | exact ih1 _ _ _ _ _ _
      | exact slices_Contains_int64_int64.mono _ _ _
      | exact LeO.none _
      | refine LeO.ite ?_ ?_
      | refine LeO.bind ?_ (fun _ => ?_)
set_option maxHeartbeats 8000000 in
set_option maxRecDepth 100000 in
theorem impl_SyntaxRight.calls (k : Nat) (a0_0 : Int) (a0_1 : Int) (a0_2 : Int) (a0_3 : Int) (r : Bool) (w : World) (h : impl_SyntaxRight.f k a0_0 a0_1 a0_2 a0_3 = some r) :
    Calls Try.prog 60 #[.agg #[.int .i64 a0_0, .int .i64 a0_1, .int .i64 a0_2, .int .i64 a0_3]] w fun e w' => e = .returned (.bool r) ∧ Below w.heap.size w w' := by
  have hu23 := Try.underlying23
  have HB := Aside0.mk (Below.refl w.heap.size w)
  have H : ((impl_Syntax_fields.f a0_0 a0_1 a0_2 a0_3).bind fun t222 => (impl_SyntaxRight.l0 k t222 t222 (t222.length : Int) 0)) = some r := h
  clear h
  replace H := Option.bind_eq_some_iff.mp H
  obtain ⟨t222, A20, H⟩ := H
  replace H : (impl_SyntaxRight.l0 k t222 t222 (t222.length : Int) 0) = some r := H
  have A2 := Aside0.mk A20
  clear A20
  have H' := Aside0.mk H
  clear H
  go_enter Try.func60, Try.ntmps60
  go_wp2_with (first | ((with_reducible refine gate_dst (N := 1) rfl ?_); refine box_event ?hg (N := 1) ?hd (cs := #[.int .i64 a0_0, .int .i64 a0_1, .int .i64 a0_2, .int .i64 a0_3]) (t := 23) ?hr ?_; (case hd => rfl); (case hg => rfl); (case hr => exact hr_); intro gb221 hg w3 hbox hb; have n0_ := Aside0.mk (below_step bl_ hb); have n1_ := Aside0.mk (hbox); have n2_ := Aside0.mk (gw_ hg bl_); have n3_ := Aside0.mk (gw_ hg bl_); clear HB; have HB := n0_; have BK221 := n1_; have GW221 := n2_; have GE221 := n3_; clear n0_ n1_ n2_ n3_; clear hb hbox hg; obtain ⟨hcz4_0, hcz4_1, hcz4_2, hcz4_3, hfz4_0, hfz4_1, hfz4_2, hfz4_3⟩ := cellsF4 BK221.out) | ((with_reducible refine gate_callee (f := 102) rfl ?_); refine gl_ 8 Try.func102 #[.agg #[.int .i64 a0_0, .int .i64 a0_1, .int .i64 a0_2, .int .i64 a0_3]] ?_ rfl rfl rfl rfl; (with_reducible refine (impl_Syntax_fields.calls a0_0 a0_1 a0_2 a0_3 t222 _ A2.out).mono ?_); rintro e w5 ⟨v223, rfl, ho0, hb⟩; refine ⟨_, rfl, ?_⟩; have n0_ := Aside0.mk (Kd.R_lower ho0 (below_size bl_)); have n1_ := Aside0.mk (blkb_ BK221 hb); have n2_ := Aside0.mk (below_step bl_ hb); clear BK221; clear HB; have HO224 := n0_; have BK221 := n1_; have HB := n2_; clear n0_ n1_ n2_; (try clear hb); (try clear hb2); (try clear hk); (try clear hi); (try clear ho0); obtain ⟨Ao6, co6, eo6⟩ := Kd.R_slice HO224.out; subst eo6))
  go_loopg [11] k (fun kq v11 w' => ∃ (x11_1 : Int), v11 = .int .i64 x11_1 ∧ Aside0 (impl_SyntaxRight.l0 kq t222 t222 (t222.length : Int) x11_1 = some r) ∧ Aside0 (kq ≤ k) ∧ Aside0 (Kd.R (Kd.int .i64) 2 w' w.heap.size (fun _ => True) (.slice Ao6 t222.length co6) t222) ∧ Aside0 (Kd.R (Kd.int .i64) 2 w' w.heap.size (fun _ => True) (.slice Ao6 t222.length co6) t222) ∧ Aside0 (w'.heap[gb221]? = some (.cells #[.int .i64 a0_0, .int .i64 a0_1, .int .i64 a0_2, .int .i64 a0_3] 23 (0, 0))) ∧ Aside0 (Below w.heap.size w w'))
  case atStart => exact ⟨(0), er_, H', ⟨Nat.le_refl _⟩, ⟨rk_ HO224⟩, ⟨rk_ HO224⟩, ⟨bk_ BK221⟩, ⟨bl_⟩⟩
  case round =>
    clear H'
    try clear c1
    try clear p2
    try clear c6
    try clear hcz4_0
    try clear hcz4_1
    try clear hcz4_2
    try clear hcz4_3
    try clear hfz4_0
    try clear hfz4_1
    try clear hfz4_2
    try clear hfz4_3
    obtain ⟨x11_1, rfl, HA, HK1, HO_3, HO_9, BK221, HB⟩ := hrel
    cases gk with
    | zero => exact absurd HA.out (by simp [impl_SyntaxRight.l0])
    | succ k1 =>
      have H := HA.out
      clear HA
      simp only [impl_SyntaxRight.l0] at H
      by_cases c7 : x11_1 < (t222.length : Int)
      · rw [if_pos c7] at H
        have c7b0 : decide (x11_1 < (t222.length : Int)) = true := decide_eq_true c7
        clear c7
        by_cases c8 : 0 ≤ x11_1
        · rw [if_pos c8] at H
          have c8b0 : decide (0 ≤ x11_1) = true := decide_eq_true c8
          clear c8
          by_cases c9 : x11_1 < (t222.length : Int)
          · rw [if_pos c9] at H
            have c9b0 : decide (x11_1 < (t222.length : Int)) = true := decide_eq_true c9
            clear c9
            have HC10 := Aside0.mk H
            clear H
            have p225 : 0 ≤ (x11_1 : Int) := of_decide_eq_true as_
            have q225 : x11_1 < (t222.length : Int) := of_decide_eq_true as_
            obtain ⟨ad225, e225, hx225_0⟩ := Kd.at_int (Kd.R_reads' HO_9.out).2.2 x11_1 p225 q225
            cases e225
            replace p225 := eq_true p225
            replace q225 := eq_true q225
            go_upto_region 5 with (fail)
            go_cut [25] (fun v25 wc => ∃ (kq : Nat) (x25_9 : Bool), v25 = .bool x25_9 ∧ Aside0 (impl_SyntaxRight.j1 kq t222 (rd t222 x11_1) t222 (t222.length : Int) x11_1 x25_9 = some r) ∧ Aside0 (kq ≤ k1) ∧ Aside0 (Kd.R (Kd.int .i64) 2 wc w.heap.size (fun _ => True) (.slice (some ad225) t222.length co6) t222) ∧ Aside0 (Kd.R (Kd.int .i64) 2 wc w.heap.size (fun _ => True) (.slice (some ad225) t222.length co6) t222) ∧ Aside0 (wc.heap[gb221]? = some (.cells #[.int .i64 a0_0, .int .i64 a0_1, .int .i64 a0_2, .int .i64 a0_3] 23 (0, 0))) ∧ Aside0 (Below w.heap.size w wc))
            case first =>
              have H := HC10.out
              clear HC10
              replace H := Option.bind_eq_some_iff.mp H
              obtain ⟨t226, A110, H⟩ := H
              replace H : (if t226 = true then (if x11_1 ≤ (t222.length : Int) then ((slices_Contains_int64_int64.f k1 (t222.take (x11_1 : Int).toNat) (rd t222 x11_1)).bind fun t231 => (impl_SyntaxRight.j1 k1 t222 (rd t222 x11_1) t222 (t222.length : Int) x11_1 t231)) else (none)) else (impl_SyntaxRight.j1 k1 t222 (rd t222 x11_1) t222 (t222.length : Int) x11_1 true)) = some r := H
              have A11 := Aside0.mk A110
              clear A110
              by_cases c12 : t226 = true
              · subst c12
                have H1 : (if x11_1 ≤ (t222.length : Int) then ((slices_Contains_int64_int64.f k1 (t222.take (x11_1 : Int).toNat) (rd t222 x11_1)).bind fun t231 => (impl_SyntaxRight.j1 k1 t222 (rd t222 x11_1) t222 (t222.length : Int) x11_1 t231)) else (none)) = some r := by rw [if_pos rfl] at H; exact H
                clear H
                have H := H1
                clear H1
                have c13b0 := eq_true (of_decide_eq_true as_ : 0 ≤ x11_1)
                by_cases c14 : x11_1 ≤ (t222.length : Int)
                · rw [if_pos c14] at H
                  have c14b0 := eq_true c14
                  have c14b1 : decide (x11_1 ≤ (t222.length : Int)) = true := decide_eq_true c14
                  clear c14
                  obtain ⟨y227, hy227⟩ : ∃ y_ : List Int, y_ = (t222.take (x11_1 : Int).toNat) := ⟨_, rfl⟩
                  replace H : ((slices_Contains_int64_int64.f k1 y227 (rd t222 x11_1)).bind fun t231 => (impl_SyntaxRight.j1 k1 t222 (rd t222 x11_1) t222 (t222.length : Int) x11_1 t231)) = some r := by first | (rw [hy227]; with_reducible exact H) | (have H2_ := (Option.bind_some _ _).symm.trans H; rw [hy227]; with_reducible exact H2_) | (have H2_ := (Option.bind_some _ _).symm.trans H; with_reducible exact H2_) | with_reducible exact H | (rw [hy227]; exact H) | exact H
                  have Ny227 := Aside0.mk hy227
                  clear hy227
                  replace H := Option.bind_eq_some_iff.mp H
                  obtain ⟨t231, A150, H⟩ := H
                  replace H : (impl_SyntaxRight.j1 k1 t222 (rd t222 x11_1) t222 (t222.length : Int) x11_1 t231) = some r := H
                  have A15 := Aside0.mk A150
                  clear A150
                  have H' := Aside0.mk H
                  clear H
                  go_wp2_with (first | ((with_reducible refine gate_callee (f := 79) rfl ?_); refine gl_ 17 Try.func79 #[.int .i64 (rd t222 x11_1), .int .i64 33, .int .i64 126] ?_ rfl rfl rfl rfl; (with_reducible refine (impl_within.calls (rd t222 x11_1) 33 126 true _ A11.out).mono ?_); rintro e w' ⟨rfl, ⟨nd, rfl⟩⟩; refine ⟨_, rfl, ?_⟩; have q16 : (x11_1 : Int) ≤ ((t222.length : Int) : Int) := of_decide_eq_true as_; obtain ⟨i016, hi016, _, hsz16, _⟩ := info_parts info2; have hroom16 : t222.length ≤ co6 := (Kd.R_reads' HO_3.out).2.1; have hC16 : Kd.C (Kd.int .i64) _ (some ad225) t222.length t222 := (Kd.R_reads' HO_3.out).2.2; have hcut16 := cut_to (P := Try.prog) 93 2 .i64 Try.underlying93 hi016 (some ad225) t222.length co6 x11_1 (of_decide_eq_true as_) q16 hroom16; have hr16 := Kd.C_take (m := (x11_1 : Int).toNat) hC16 (by omega); have hy16 : y227.length = (x11_1 : Int).toNat := (by rw [Ny227.out, List.length_take]; omega); rw [← Ny227.out] at hr16; rw [← hy16] at hcut16; have HR230 := Aside0.mk hr16; have HC230 := Aside0.mk (show y227.length ≤ co6 from by omega); clear hr16 hC16 hroom16 hi016 hsz16; have KY16 := Aside0.mk hy16; clear hy16; have KL16 := Aside0.mk (show (x11_1 : Int).toNat ≤ t222.length from by omega); replace q16 := eq_true q16) | (go_at_call 103; (with_reducible refine (slices_Contains_int64_int64.calls k1 _ _ y227 (rd t222 x11_1) t231 _ ?side1 ?side2 A15.out).mono ?_); (case side1 => repeat (first | exact (by repeat (first | (with_reducible exact HR230.out) | (with_reducible refine Kd.C_alloc ?_ _) | (with_reducible refine Kd.C_drewN ?_ _) | (with_reducible refine Kd.C_drew ?_) | exact HR230.out)) | (with_reducible refine Kd.C_alloc ?_ _) | (with_reducible refine Kd.C_drewN ?_ _) | (with_reducible refine Kd.C_drew ?_))); (case side2 => exact HC230.out); rintro e w' ⟨rfl, ⟨nd, rfl⟩⟩))
                  go_meet
                  case rel => exact ⟨_, (t231), er_, H', ⟨by have := HK1.out; first | omega | exact Nat.le_refl _⟩, ⟨rk_ HO_3⟩, ⟨rk_ HO_9⟩, ⟨bk_ BK221⟩, ⟨bl_⟩⟩
                · rw [if_neg c14] at H
                  exact absurd H (by simp)
              · replace c12 := Bool.eq_false_iff.mpr c12
                subst c12
                have H1 : (impl_SyntaxRight.j1 k1 t222 (rd t222 x11_1) t222 (t222.length : Int) x11_1 true) = some r := by rw [if_neg (show ¬ (false = true) by decide)] at H; exact H
                clear H
                have H := H1
                clear H1
                have H' := Aside0.mk H
                clear H
                go_wp2_with (first | ((with_reducible refine gate_callee (f := 79) rfl ?_); refine gl_ 17 Try.func79 #[.int .i64 (rd t222 x11_1), .int .i64 33, .int .i64 126] ?_ rfl rfl rfl rfl; (with_reducible refine (impl_within.calls (rd t222 x11_1) 33 126 false _ A11.out).mono ?_); rintro e w' ⟨rfl, ⟨nd, rfl⟩⟩; refine ⟨_, rfl, ?_⟩))
                go_meet
                case rel => exact ⟨_, (true), er_, H', ⟨by have := HK1.out; first | omega | exact Nat.le_refl _⟩, ⟨rk_ HO_3⟩, ⟨rk_ HO_9⟩, ⟨bk_ BK221⟩, ⟨bl_⟩⟩
            case rest =>
              clear HC10
              try clear c1
              try clear q1
              try clear p2
              try clear q2
              try clear hx2
              try clear c6
              try clear c7
              try clear c7b0
              try clear c8
              try clear c8b0
              try clear c9
              try clear c9b0
              try clear c10
              try clear c12
              try clear c13
              try clear c13b0
              try clear c14
              try clear c14b0
              try clear c14b1
              try clear q16
              try clear hcz4_0
              try clear hcz4_1
              try clear hcz4_2
              try clear hcz4_3
              try clear hfz4_0
              try clear hfz4_1
              try clear hfz4_2
              try clear hfz4_3
              try clear hx225_0
              try clear p2
              try clear p225
              try clear q16
              try clear q225
              obtain ⟨kq, x25_9, rfl, HA, HJ9, HO_3, HO_9, BK221, HB⟩ := hcut
              cases kq with
              | zero => exact absurd HA.out (by simp [impl_SyntaxRight.j1])
              | succ kj9 =>
                have H := HA.out
                clear HA
                simp only [impl_SyntaxRight.j1] at H
                by_cases c17 : x25_9 = true
                · subst c17
                  have H1 : (some false) = some r := by rw [if_pos rfl] at H; exact H
                  clear H
                  have H := H1
                  clear H1
                  obtain rfl := Option.some.inj H
                  go_wp2
                  go_ret
                  exact ⟨au8_0, bl_⟩
                · replace c17 := Bool.eq_false_iff.mpr c17
                  subst c17
                  have H1 : ((impl_isGreat.f (((rd t222 x11_1)) % 256)).bind fun t232 => (if t232 = true then (some false) else (if (((rd t222 x11_1)) % 256) ≥ 97 then (if (((rd t222 x11_1)) % 256) ≤ 122 then (some false) else ((impl_isDigit.f (((rd t222 x11_1)) % 256)).bind fun t233 => (if t233 = true then (some false) else (if (((rd t222 x11_1)) % 256) = 45 then (some false) else (impl_SyntaxRight.l0 kj9 t222 t222 (t222.length : Int) (wrap64 (x11_1 + 1))))))) else ((impl_isDigit.f (((rd t222 x11_1)) % 256)).bind fun t234 => (if t234 = true then (some false) else (if (((rd t222 x11_1)) % 256) = 45 then (some false) else (impl_SyntaxRight.l0 kj9 t222 t222 (t222.length : Int) (wrap64 (x11_1 + 1))))))))) = some r := by rw [if_neg (show ¬ (false = true) by decide)] at H; exact H
                  clear H
                  have H := H1
                  clear H1
                  replace H := Option.bind_eq_some_iff.mp H
                  obtain ⟨t232, A180, H⟩ := H
                  replace H : (if t232 = true then (some false) else (if (((rd t222 x11_1)) % 256) ≥ 97 then (if (((rd t222 x11_1)) % 256) ≤ 122 then (some false) else ((impl_isDigit.f (((rd t222 x11_1)) % 256)).bind fun t233 => (if t233 = true then (some false) else (if (((rd t222 x11_1)) % 256) = 45 then (some false) else (impl_SyntaxRight.l0 kj9 t222 t222 (t222.length : Int) (wrap64 (x11_1 + 1))))))) else ((impl_isDigit.f (((rd t222 x11_1)) % 256)).bind fun t234 => (if t234 = true then (some false) else (if (((rd t222 x11_1)) % 256) = 45 then (some false) else (impl_SyntaxRight.l0 kj9 t222 t222 (t222.length : Int) (wrap64 (x11_1 + 1)))))))) = some r := H
                  have A18 := Aside0.mk A180
                  clear A180
                  by_cases c19 : t232 = true
                  · subst c19
                    have H1 : (some false) = some r := by rw [if_pos rfl] at H; exact H
                    clear H
                    have H := H1
                    clear H1
                    obtain rfl := Option.some.inj H
                    go_wp2_with (first | ((with_reducible refine gate_callee (f := 104) rfl ?_); refine gl_ 29 Try.func104 #[.int .u8 (((rd t222 x11_1)) % 256)] ?_ rfl rfl rfl rfl; (with_reducible refine (impl_isGreat.calls (((rd t222 x11_1)) % 256) true _ A18.out).mono ?_); rintro e w' ⟨rfl, ⟨nd, rfl⟩⟩; refine ⟨_, rfl, ?_⟩))
                    go_ret
                    exact ⟨au8_0, bl_⟩
                  · replace c19 := Bool.eq_false_iff.mpr c19
                    subst c19
                    have H1 : (if (((rd t222 x11_1)) % 256) ≥ 97 then (if (((rd t222 x11_1)) % 256) ≤ 122 then (some false) else ((impl_isDigit.f (((rd t222 x11_1)) % 256)).bind fun t233 => (if t233 = true then (some false) else (if (((rd t222 x11_1)) % 256) = 45 then (some false) else (impl_SyntaxRight.l0 kj9 t222 t222 (t222.length : Int) (wrap64 (x11_1 + 1))))))) else ((impl_isDigit.f (((rd t222 x11_1)) % 256)).bind fun t234 => (if t234 = true then (some false) else (if (((rd t222 x11_1)) % 256) = 45 then (some false) else (impl_SyntaxRight.l0 kj9 t222 t222 (t222.length : Int) (wrap64 (x11_1 + 1))))))) = some r := by rw [if_neg (show ¬ (false = true) by decide)] at H; exact H
                    clear H
                    have H := H1
                    clear H1
                    by_cases c20 : (((rd t222 x11_1)) % 256) ≥ 97
                    · rw [if_pos c20] at H
                      have c20b0 : decide (97 ≤ (((rd t222 x11_1)) % 256)) = true := decide_eq_true c20
                      clear c20
                      by_cases c21 : (((rd t222 x11_1)) % 256) ≤ 122
                      · rw [if_pos c21] at H
                        have c21b0 : decide ((((rd t222 x11_1)) % 256) ≤ 122) = true := decide_eq_true c21
                        clear c21
                        obtain rfl := Option.some.inj H
                        go_wp2_with (first | ((with_reducible refine gate_callee (f := 104) rfl ?_); refine gl_ 29 Try.func104 #[.int .u8 (((rd t222 x11_1)) % 256)] ?_ rfl rfl rfl rfl; (with_reducible refine (impl_isGreat.calls (((rd t222 x11_1)) % 256) false _ A18.out).mono ?_); rintro e w' ⟨rfl, ⟨nd, rfl⟩⟩; refine ⟨_, rfl, ?_⟩))
                        go_ret
                        exact ⟨au8_0, bl_⟩
                      · rw [if_neg c21] at H
                        have c21b0 : decide ((((rd t222 x11_1)) % 256) ≤ 122) = false := decide_eq_false c21
                        clear c21
                        replace H := Option.bind_eq_some_iff.mp H
                        obtain ⟨t233, A220, H⟩ := H
                        replace H : (if t233 = true then (some false) else (if (((rd t222 x11_1)) % 256) = 45 then (some false) else (impl_SyntaxRight.l0 kj9 t222 t222 (t222.length : Int) (wrap64 (x11_1 + 1))))) = some r := H
                        have A22 := Aside0.mk A220
                        clear A220
                        by_cases c23 : t233 = true
                        · subst c23
                          have H1 : (some false) = some r := by rw [if_pos rfl] at H; exact H
                          clear H
                          have H := H1
                          clear H1
                          obtain rfl := Option.some.inj H
                          go_wp2_with (first | ((with_reducible refine gate_callee (f := 104) rfl ?_); refine gl_ 29 Try.func104 #[.int .u8 (((rd t222 x11_1)) % 256)] ?_ rfl rfl rfl rfl; (with_reducible refine (impl_isGreat.calls (((rd t222 x11_1)) % 256) false _ A18.out).mono ?_); rintro e w' ⟨rfl, ⟨nd, rfl⟩⟩; refine ⟨_, rfl, ?_⟩) | (go_at_call 105; (with_reducible refine (impl_isDigit.calls (((rd t222 x11_1)) % 256) true _ A22.out).mono ?_); rintro e w' ⟨rfl, ⟨nd, rfl⟩⟩))
                          go_ret
                          exact ⟨au8_0, bl_⟩
                        · replace c23 := Bool.eq_false_iff.mpr c23
                          subst c23
                          have H1 : (if (((rd t222 x11_1)) % 256) = 45 then (some false) else (impl_SyntaxRight.l0 kj9 t222 t222 (t222.length : Int) (wrap64 (x11_1 + 1)))) = some r := by rw [if_neg (show ¬ (false = true) by decide)] at H; exact H
                          clear H
                          have H := H1
                          clear H1
                          by_cases c24 : (((rd t222 x11_1)) % 256) = 45
                          · rw [if_pos c24] at H
                            have c24b0 : ((((rd t222 x11_1)) % 256) == 45) = true := beq_iff_eq.mpr c24
                            have c24b1 : ((((rd t222 x11_1)) % 256) != 45) = false := bne_eq_false_iff_eq.mpr c24
                            clear c24
                            obtain rfl := Option.some.inj H
                            go_wp2_with (first | ((with_reducible refine gate_callee (f := 104) rfl ?_); refine gl_ 29 Try.func104 #[.int .u8 (((rd t222 x11_1)) % 256)] ?_ rfl rfl rfl rfl; (with_reducible refine (impl_isGreat.calls (((rd t222 x11_1)) % 256) false _ A18.out).mono ?_); rintro e w' ⟨rfl, ⟨nd, rfl⟩⟩; refine ⟨_, rfl, ?_⟩) | (go_at_call 105; (with_reducible refine (impl_isDigit.calls (((rd t222 x11_1)) % 256) false _ A22.out).mono ?_); rintro e w' ⟨rfl, ⟨nd, rfl⟩⟩))
                            go_ret
                            exact ⟨au8_0, bl_⟩
                          · rw [if_neg c24] at H
                            have c24b0 : ((((rd t222 x11_1)) % 256) == 45) = false := beq_eq_false_iff_ne.mpr c24
                            have c24b1 : ((((rd t222 x11_1)) % 256) != 45) = true := bne_iff_ne.mpr c24
                            have H' := Aside0.mk H
                            clear H
                            go_wp2_with (first | ((with_reducible refine gate_callee (f := 104) rfl ?_); refine gl_ 29 Try.func104 #[.int .u8 (((rd t222 x11_1)) % 256)] ?_ rfl rfl rfl rfl; (with_reducible refine (impl_isGreat.calls (((rd t222 x11_1)) % 256) false _ A18.out).mono ?_); rintro e w' ⟨rfl, ⟨nd, rfl⟩⟩; refine ⟨_, rfl, ?_⟩) | (go_at_call 105; (with_reducible refine (impl_isDigit.calls (((rd t222 x11_1)) % 256) false _ A22.out).mono ?_); rintro e w' ⟨rfl, ⟨nd, rfl⟩⟩))
                            go_roundg kj9
                            case measure => have := HK1.out; have := HJ9.out; omega
                            case rel => exact ⟨(wrap64 (x11_1 + 1)), er_, H', ⟨by have := HK1.out; have := HJ9.out; omega⟩, ⟨rk_ HO_3⟩, ⟨rk_ HO_9⟩, ⟨bk_ BK221⟩, ⟨bl_⟩⟩
                    · rw [if_neg c20] at H
                      have c20b0 : decide (97 ≤ (((rd t222 x11_1)) % 256)) = false := decide_eq_false c20
                      clear c20
                      replace H := Option.bind_eq_some_iff.mp H
                      obtain ⟨t234, A250, H⟩ := H
                      replace H : (if t234 = true then (some false) else (if (((rd t222 x11_1)) % 256) = 45 then (some false) else (impl_SyntaxRight.l0 kj9 t222 t222 (t222.length : Int) (wrap64 (x11_1 + 1))))) = some r := H
                      have A25 := Aside0.mk A250
                      clear A250
                      by_cases c26 : t234 = true
                      · subst c26
                        have H1 : (some false) = some r := by rw [if_pos rfl] at H; exact H
                        clear H
                        have H := H1
                        clear H1
                        obtain rfl := Option.some.inj H
                        go_wp2_with (first | ((with_reducible refine gate_callee (f := 104) rfl ?_); refine gl_ 29 Try.func104 #[.int .u8 (((rd t222 x11_1)) % 256)] ?_ rfl rfl rfl rfl; (with_reducible refine (impl_isGreat.calls (((rd t222 x11_1)) % 256) false _ A18.out).mono ?_); rintro e w' ⟨rfl, ⟨nd, rfl⟩⟩; refine ⟨_, rfl, ?_⟩) | (go_at_call 105; (with_reducible refine (impl_isDigit.calls (((rd t222 x11_1)) % 256) true _ A25.out).mono ?_); rintro e w' ⟨rfl, ⟨nd, rfl⟩⟩))
                        go_ret
                        exact ⟨au8_0, bl_⟩
                      · replace c26 := Bool.eq_false_iff.mpr c26
                        subst c26
                        have H1 : (if (((rd t222 x11_1)) % 256) = 45 then (some false) else (impl_SyntaxRight.l0 kj9 t222 t222 (t222.length : Int) (wrap64 (x11_1 + 1)))) = some r := by rw [if_neg (show ¬ (false = true) by decide)] at H; exact H
                        clear H
                        have H := H1
                        clear H1
                        by_cases c27 : (((rd t222 x11_1)) % 256) = 45
                        · rw [if_pos c27] at H
                          have c27b0 : ((((rd t222 x11_1)) % 256) == 45) = true := beq_iff_eq.mpr c27
                          have c27b1 : ((((rd t222 x11_1)) % 256) != 45) = false := bne_eq_false_iff_eq.mpr c27
                          clear c27
                          obtain rfl := Option.some.inj H
                          go_wp2_with (first | ((with_reducible refine gate_callee (f := 104) rfl ?_); refine gl_ 29 Try.func104 #[.int .u8 (((rd t222 x11_1)) % 256)] ?_ rfl rfl rfl rfl; (with_reducible refine (impl_isGreat.calls (((rd t222 x11_1)) % 256) false _ A18.out).mono ?_); rintro e w' ⟨rfl, ⟨nd, rfl⟩⟩; refine ⟨_, rfl, ?_⟩) | (go_at_call 105; (with_reducible refine (impl_isDigit.calls (((rd t222 x11_1)) % 256) false _ A25.out).mono ?_); rintro e w' ⟨rfl, ⟨nd, rfl⟩⟩))
                          go_ret
                          exact ⟨au8_0, bl_⟩
                        · rw [if_neg c27] at H
                          have c27b0 : ((((rd t222 x11_1)) % 256) == 45) = false := beq_eq_false_iff_ne.mpr c27
                          have c27b1 : ((((rd t222 x11_1)) % 256) != 45) = true := bne_iff_ne.mpr c27
                          have H' := Aside0.mk H
                          clear H
                          go_wp2_with (first | ((with_reducible refine gate_callee (f := 104) rfl ?_); refine gl_ 29 Try.func104 #[.int .u8 (((rd t222 x11_1)) % 256)] ?_ rfl rfl rfl rfl; (with_reducible refine (impl_isGreat.calls (((rd t222 x11_1)) % 256) false _ A18.out).mono ?_); rintro e w' ⟨rfl, ⟨nd, rfl⟩⟩; refine ⟨_, rfl, ?_⟩) | (go_at_call 105; (with_reducible refine (impl_isDigit.calls (((rd t222 x11_1)) % 256) false _ A25.out).mono ?_); rintro e w' ⟨rfl, ⟨nd, rfl⟩⟩))
                          go_roundg kj9
                          case measure => have := HK1.out; have := HJ9.out; omega
                          case rel => exact ⟨(wrap64 (x11_1 + 1)), er_, H', ⟨by have := HK1.out; have := HJ9.out; omega⟩, ⟨rk_ HO_3⟩, ⟨rk_ HO_9⟩, ⟨bk_ BK221⟩, ⟨bl_⟩⟩
          · rw [if_neg c9] at H
            exact absurd H (by simp)
        · rw [if_neg c8] at H
          exact absurd H (by simp)
      · rw [if_neg c7] at H
        have c7b0 : decide (x11_1 < (t222.length : Int)) = false := decide_eq_false c7
        clear c7
        obtain rfl := Option.some.inj H
        go_wp2
        go_ret
        exact ⟨au8_0, bl_⟩

/-! ### impl_Syntax_isOne: function 106 -/
def impl_Syntax_isOne.f (k : Nat) (a0_0 : Int) (a0_1 : Int) (a0_2 : Int) (a0_3 : Int) (a1 : Int) : Option (Bool) := (impl_Syntax_fields.f a0_0 a0_1 a0_2 a0_3).bind fun t236 => ((slices_Contains_int64_int64.f k t236 (wrap64 (a1))).bind fun t239 => (some t239))
theorem impl_Syntax_isOne.mono : ∀ a0 a1 a2 a3 a4 k, LeO (impl_Syntax_isOne.f k a0 a1 a2 a3 a4) (impl_Syntax_isOne.f (k + 1) a0 a1 a2 a3 a4) := by
  intro a0 a1 a2 a3 a4 k
  unfold impl_Syntax_isOne.f
  repeat' first
      | (with_reducible exact slices_Contains_int64_int64.mono _ _ _)
      | (with_reducible exact LeO.refl _)
      | (with_reducible exact LeO.none _)
      | (with_reducible refine LeO.ite ?_ ?_)
      | (with_reducible refine LeO.bind ?_ (fun _ => ?_))
      | exact slices_Contains_int64_int64.mono _ _ _
      | exact LeO.none _
      | refine LeO.ite ?_ ?_
      | refine LeO.bind ?_ (fun _ => ?_)
set_option maxHeartbeats 8000000 in
set_option maxRecDepth 100000 in
theorem impl_Syntax_isOne.calls (k : Nat) (a0_0 : Int) (a0_1 : Int) (a0_2 : Int) (a0_3 : Int) (a1 : Int) (r : Bool) (w : World) (h : impl_Syntax_isOne.f k a0_0 a0_1 a0_2 a0_3 a1 = some r) :
    Calls Try.prog 106 #[.agg #[.int .i64 a0_0, .int .i64 a0_1, .int .i64 a0_2, .int .i64 a0_3], .int .u8 a1] w fun e w' => e = .returned (.bool r) ∧ Below w.heap.size w w' := by
  have hu23 := Try.underlying23
  have HB := Aside0.mk (Below.refl w.heap.size w)
  have H : ((impl_Syntax_fields.f a0_0 a0_1 a0_2 a0_3).bind fun t236 => ((slices_Contains_int64_int64.f k t236 (wrap64 (a1))).bind fun t239 => (some t239))) = some r := h
  clear h
  replace H := Option.bind_eq_some_iff.mp H
  obtain ⟨t236, A30, H⟩ := H
  replace H : ((slices_Contains_int64_int64.f k t236 (wrap64 (a1))).bind fun t239 => (some t239)) = some r := H
  have A3 := Aside0.mk A30
  clear A30
  replace H := Option.bind_eq_some_iff.mp H
  obtain ⟨t239, A40, H⟩ := H
  replace H : (some t239) = some r := H
  have A4 := Aside0.mk A40
  clear A40
  obtain rfl := Option.some.inj H
  go_enter Try.func106, Try.ntmps106
  go_wp2_with (first | ((with_reducible refine gate_dst (N := 2) rfl ?_); refine box_event ?hg (N := 2) ?hd (cs := #[.int .i64 a0_0, .int .i64 a0_1, .int .i64 a0_2, .int .i64 a0_3]) (t := 23) ?hr ?_; (case hd => rfl); (case hg => rfl); (case hr => exact hr_); intro gb235 hg w5 hbox hb; have n0_ := Aside0.mk (below_step bl_ hb); have n1_ := Aside0.mk (hbox); have n2_ := Aside0.mk (gw_ hg bl_); have n3_ := Aside0.mk (gw_ hg bl_); clear HB; have HB := n0_; have BK235 := n1_; have GW235 := n2_; have GE235 := n3_; clear n0_ n1_ n2_ n3_; clear hb hbox hg; obtain ⟨hcz6_0, hcz6_1, hcz6_2, hcz6_3, hfz6_0, hfz6_1, hfz6_2, hfz6_3⟩ := cellsF4 BK235.out) | ((with_reducible refine gate_callee (f := 102) rfl ?_); refine gl_ 6 Try.func102 #[.agg #[.int .i64 a0_0, .int .i64 a0_1, .int .i64 a0_2, .int .i64 a0_3]] ?_ rfl rfl rfl rfl; (with_reducible refine (impl_Syntax_fields.calls a0_0 a0_1 a0_2 a0_3 t236 _ A3.out).mono ?_); rintro e w7 ⟨v237, rfl, ho0, hb⟩; refine ⟨_, rfl, ?_⟩; have n0_ := Aside0.mk (Kd.R_lower ho0 (below_size bl_)); have n1_ := Aside0.mk (blkb_ BK235 hb); have n2_ := Aside0.mk (below_step bl_ hb); clear BK235; clear HB; have HO238 := n0_; have BK235 := n1_; have HB := n2_; clear n0_ n1_ n2_; (try clear hb); (try clear hb2); (try clear hk); (try clear hi); (try clear ho0); obtain ⟨Ao8, co8, eo8⟩ := Kd.R_slice HO238.out; subst eo8) | ((with_reducible refine gate_callee (f := 103) rfl ?_); refine gl_ 9 Try.func103 #[.slice Ao8 t236.length co8, .int .i64 (wrap64 (a1))] ?_ rfl rfl rfl rfl; (with_reducible refine (slices_Contains_int64_int64.calls k _ _ t236 (wrap64 (a1)) t239 _ ?side1 ?side2 A4.out).mono ?_); (case side1 => repeat (first | exact (Kd.R_reads' HO238.out).2.2 | (with_reducible refine Kd.C_alloc ?_ _) | (with_reducible refine Kd.C_drewN ?_ _) | (with_reducible refine Kd.C_drew ?_))); (case side2 => exact (Kd.R_reads' HO238.out).2.1); rintro e w' ⟨rfl, ⟨nd, rfl⟩⟩; refine ⟨_, rfl, ?_⟩))
  go_ret
  exact ⟨au8_0, bl_⟩

end Go.Proofs.Ytchoalagkcdbhaa.PFnExactSegmentText
