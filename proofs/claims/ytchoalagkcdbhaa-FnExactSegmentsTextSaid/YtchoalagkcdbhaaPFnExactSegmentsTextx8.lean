-- printed by a program of this session (wip/xp/xprint.py) out of the translation; Lean checks it
import Derived.Test.YtchoalagkcdbhaaPFnExactSegmentsTextx0
import Derived.Test.YtchoalagkcdbhaaPFnExactSegmentsTextx7
namespace Go.Proofs.Ytchoalagkcdbhaa.PFnExactSegmentsText
open Go.RowKit Go.Proofs.YtchoalagkcdbhaaW.PrintWords Go.Proofs.YtchoalagkcdbhaaW.PrintLast Go.Proofs.YtchoalagkcdbhaaW.PrintMore
attribute [local go_sem] max2_int min2_int max_two min_two max_three min_three max_four min_four   -- for this text's walks alone
set_option linter.unusedVariables false
set_option linter.unusedSimpArgs false

theorem au8_0 {p : Prop} (h : p := by (with_reducible repeat (first | refine blk_drewN ?_ _ | refine blk_drew ?_ | refine blk_alloc ?_ _)); refine blk_put (cs := #[.slice none 0 0]) ?_ 0 _ rfl; (with_reducible repeat (first | refine blk_drewN ?_ _ | refine blk_drew ?_ | refine blk_alloc ?_ _)); exact BK237.out) : p := h
theorem au8_1 {p : Prop} (h : p := by first | rfl | (simp [errW_none, errW_some] <;> rfl) | (simp [*, errW_none, errW_some] <;> rfl)) : p := h
theorem au8_2 {p : Prop} (h : p := by (with_reducible repeat (first | refine blk_drewN ?_ _ | refine blk_drew ?_ | refine blk_alloc ?_ _)); refine blk_far ?_ NB234_237.out _; (with_reducible repeat (first | refine blk_drewN ?_ _ | refine blk_drew ?_ | refine blk_alloc ?_ _)); exact BK234.out) : p := h
theorem au8_3 {p : Prop} (h : p := by first | rfl | (simp [errW_none, errW_some] <;> rfl) | (simp only [← hji17]; first | rfl | (simp [errW_none, errW_some] <;> rfl)) | (simp [*, errW_none, errW_some] <;> rfl)) : p := h

/-! ### impl_isPart: function 82 -/
def impl_isPart.f (k : Nat) (a0 : ByteArray) : Option (Bool) := if (a0.size : Int) ≤ 40 then ((impl_isPrinted.f k a0).bind fun t226 => (some t226)) else (some false)
theorem impl_isPart.mono : ∀ a0 k, LeO (impl_isPart.f k a0) (impl_isPart.f (k + 1) a0) := by
  intro a0 k
  unfold impl_isPart.f
  repeat' first
      | (with_reducible exact impl_isPrinted.mono _ _)
      | (with_reducible exact LeO.refl _)
      | (with_reducible exact LeO.none _)
      | (with_reducible refine LeO.ite ?_ ?_)
      | (with_reducible refine LeO.bind ?_ (fun _ => ?_))
      | exact impl_isPrinted.mono _ _
      | exact LeO.none _
      | refine LeO.ite ?_ ?_
      | refine LeO.bind ?_ (fun _ => ?_)
set_option maxHeartbeats 8000000 in
set_option maxRecDepth 100000 in
theorem impl_isPart.calls (k : Nat) (a0 : ByteArray) (r : Bool) (w : World) (h : impl_isPart.f k a0 = some r) :
    Calls Try.prog 82 #[.string a0] w fun e w' => e = .returned (.bool r) ∧ Drawn0 w w' := by
  have H : (if (a0.size : Int) ≤ 40 then ((impl_isPrinted.f k a0).bind fun t226 => (some t226)) else (some false)) = some r := h
  clear h
  by_cases c2 : (a0.size : Int) ≤ 40
  · rw [if_pos c2] at H
    have c2b0 : decide ((a0.size : Int) ≤ 40) = true := decide_eq_true c2
    have c2b1 : decide (a0.size ≤ 40) = true := decide_eq_true (by omega)
    clear c2
    replace H := Option.bind_eq_some_iff.mp H
    obtain ⟨t226, A30, H⟩ := H
    replace H : (some t226) = some r := H
    have A3 := Aside0.mk A30
    clear A30
    obtain rfl := Option.some.inj H
    go_enter Try.func82, Try.ntmps82
    go_wp2_with (first | (go_at_call 112; (with_reducible refine (impl_isPrinted.calls k a0 t226 _ A3.out).mono ?_); rintro e w' ⟨rfl, ⟨nd, rfl⟩⟩))
    go_ret
    exact ⟨er_, dn_⟩
  · rw [if_neg c2] at H
    have c2b0 : decide ((a0.size : Int) ≤ 40) = false := decide_eq_false c2
    have c2b1 : decide (a0.size ≤ 40) = false := decide_eq_false (by omega)
    clear c2
    obtain rfl := Option.some.inj H
    go_enter Try.func82, Try.ntmps82
    go_wp2
    go_ret
    exact ⟨er_, dn_⟩

/-! ### impl_SegmentRight_1: function 81 -/
def impl_SegmentRight_1.f (k : Nat) (a0 : ByteArray) : Option (Bool) := (impl_isPart.f k a0).bind fun t227 => (some (!t227))
theorem impl_SegmentRight_1.mono : ∀ a0 k, LeO (impl_SegmentRight_1.f k a0) (impl_SegmentRight_1.f (k + 1) a0) := by
  intro a0 k
  unfold impl_SegmentRight_1.f
  repeat' first
      | (with_reducible exact impl_isPart.mono _ _)
      | (with_reducible exact LeO.refl _)
      | (with_reducible exact LeO.none _)
      | (with_reducible refine LeO.ite ?_ ?_)
      | (with_reducible refine LeO.bind ?_ (fun _ => ?_))
      | exact impl_isPart.mono _ _
      | exact LeO.none _
      | refine LeO.ite ?_ ?_
      | refine LeO.bind ?_ (fun _ => ?_)
set_option maxHeartbeats 8000000 in
set_option maxRecDepth 100000 in
theorem impl_SegmentRight_1.calls (k : Nat) (a0 : ByteArray) (r : Bool) (w : World) (h : impl_SegmentRight_1.f k a0 = some r) :
    Calls Try.prog 81 #[.string a0] w fun e w' => e = .returned (.bool r) ∧ Drawn0 w w' := by
  have H : ((impl_isPart.f k a0).bind fun t227 => (some (!t227))) = some r := h
  clear h
  replace H := Option.bind_eq_some_iff.mp H
  obtain ⟨t227, A20, H⟩ := H
  replace H : (some (!t227)) = some r := H
  have A2 := Aside0.mk A20
  clear A20
  obtain rfl := Option.some.inj H
  go_enter Try.func81, Try.ntmps81
  go_wp2_with (first | ((with_reducible refine gate_callee (f := 82) rfl ?_); refine gl_ 4 Try.func82 #[.string a0] ?_ rfl rfl rfl rfl; (with_reducible refine (impl_isPart.calls k a0 t227 _ A2.out).mono ?_); rintro e w' ⟨rfl, ⟨nd, rfl⟩⟩; refine ⟨_, rfl, ?_⟩))
  go_ret
  exact ⟨er_, dn_⟩

/-! ### impl_isTag: function 83 -/
def impl_isTag.f (a0 : ByteArray) : Option (Bool) := if (a0.size : Int) = 3 then (if 0 < (a0.size : Int) then ((impl_isGreat.f (bt a0 0)).bind fun t228 => (if t228 = true then (if 1 < (a0.size : Int) then ((impl_isGreat.f (bt a0 1)).bind fun t229 => (if t229 = true then (if 2 < (a0.size : Int) then ((impl_isGreat.f (bt a0 2)).bind fun t230 => (some t230)) else (none)) else (some false))) else (none)) else (some false))) else (none)) else (some false)
set_option maxHeartbeats 8000000 in
set_option maxRecDepth 100000 in
theorem impl_isTag.calls (a0 : ByteArray) (r : Bool) (w : World) (h : impl_isTag.f a0 = some r) :
    Calls Try.prog 83 #[.string a0] w fun e w' => e = .returned (.bool r) ∧ Drawn0 w w' := by
  have H : (if (a0.size : Int) = 3 then (if 0 < (a0.size : Int) then ((impl_isGreat.f (bt a0 0)).bind fun t228 => (if t228 = true then (if 1 < (a0.size : Int) then ((impl_isGreat.f (bt a0 1)).bind fun t229 => (if t229 = true then (if 2 < (a0.size : Int) then ((impl_isGreat.f (bt a0 2)).bind fun t230 => (some t230)) else (none)) else (some false))) else (none)) else (some false))) else (none)) else (some false)) = some r := h
  clear h
  by_cases c2 : (a0.size : Int) = 3
  · rw [if_pos c2] at H
    have c2b0 : ((a0.size : Int) == 3) = true := beq_iff_eq.mpr c2
    have c2b1 : ((a0.size : Int) != 3) = false := bne_eq_false_iff_eq.mpr c2
    clear c2
    by_cases c3 : 0 < (a0.size : Int)
    · rw [if_pos c3] at H
      have c3b0 : decide (0 < (a0.size : Int)) = true := decide_eq_true c3
      have c3b1 : decide (0 < a0.size) = true := decide_eq_true (by omega)
      clear c3
      replace H := Option.bind_eq_some_iff.mp H
      obtain ⟨t228, A50, H⟩ := H
      replace H : (if t228 = true then (if 1 < (a0.size : Int) then ((impl_isGreat.f (bt a0 1)).bind fun t229 => (if t229 = true then (if 2 < (a0.size : Int) then ((impl_isGreat.f (bt a0 2)).bind fun t230 => (some t230)) else (none)) else (some false))) else (none)) else (some false)) = some r := H
      have A5 := Aside0.mk A50
      clear A50
      by_cases c6 : t228 = true
      · subst c6
        have H1 : (if 1 < (a0.size : Int) then ((impl_isGreat.f (bt a0 1)).bind fun t229 => (if t229 = true then (if 2 < (a0.size : Int) then ((impl_isGreat.f (bt a0 2)).bind fun t230 => (some t230)) else (none)) else (some false))) else (none)) = some r := by rw [if_pos rfl] at H; exact H
        clear H
        have H := H1
        clear H1
        by_cases c7 : 1 < (a0.size : Int)
        · rw [if_pos c7] at H
          have c7b0 : decide (1 < (a0.size : Int)) = true := decide_eq_true c7
          have c7b1 : decide (1 < a0.size) = true := decide_eq_true (by omega)
          clear c7
          replace H := Option.bind_eq_some_iff.mp H
          obtain ⟨t229, A90, H⟩ := H
          replace H : (if t229 = true then (if 2 < (a0.size : Int) then ((impl_isGreat.f (bt a0 2)).bind fun t230 => (some t230)) else (none)) else (some false)) = some r := H
          have A9 := Aside0.mk A90
          clear A90
          by_cases c10 : t229 = true
          · subst c10
            have H1 : (if 2 < (a0.size : Int) then ((impl_isGreat.f (bt a0 2)).bind fun t230 => (some t230)) else (none)) = some r := by rw [if_pos rfl] at H; exact H
            clear H
            have H := H1
            clear H1
            by_cases c11 : 2 < (a0.size : Int)
            · rw [if_pos c11] at H
              have c11b0 : decide (2 < (a0.size : Int)) = true := decide_eq_true c11
              have c11b1 : decide (2 < a0.size) = true := decide_eq_true (by omega)
              clear c11
              replace H := Option.bind_eq_some_iff.mp H
              obtain ⟨t230, A130, H⟩ := H
              replace H : (some t230) = some r := H
              have A13 := Aside0.mk A130
              clear A130
              obtain rfl := Option.some.inj H
              have p4 : 0 ≤ (0 : Int) := (by omega)
              have q4 : 0 < a0.size := (by have : (0 : Int) < (a0.size : Int) := of_decide_eq_true as_; omega)
              have hx4 : ∀ h : 0 < a0.size, ((a0[0]'h).toNat : Int) = bt a0 0 := bt_at a0 0
              clear p4
              have qi4 : (0 < (a0.size : Int)) = True := eq_true (of_decide_eq_true as_)
              replace q4 := eq_true q4
              go_enter Try.func83, Try.ntmps83
              go_wp2_with (first | (go_at_call 104; (with_reducible refine (impl_isGreat.calls (bt a0 0) true _ A5.out).mono ?_); rintro e w' ⟨rfl, ⟨nd, rfl⟩⟩; have p8 : 0 ≤ (1 : Int) := (by omega); have q8 : 1 < a0.size := (by have : (1 : Int) < (a0.size : Int) := of_decide_eq_true as_; omega); have hx8 : ∀ h : 1 < a0.size, ((a0[1]'h).toNat : Int) = bt a0 1 := bt_at a0 1; clear p8; have qi8 : (1 < (a0.size : Int)) = True := eq_true (of_decide_eq_true as_); replace q8 := eq_true q8) | (go_at_call 104; (with_reducible refine (impl_isGreat.calls (bt a0 1) true _ A9.out).mono ?_); rintro e w' ⟨rfl, ⟨nd, rfl⟩⟩; have p12 : 0 ≤ (2 : Int) := (by omega); have q12 : 2 < a0.size := (by have : (2 : Int) < (a0.size : Int) := of_decide_eq_true as_; omega); have hx12 : ∀ h : 2 < a0.size, ((a0[2]'h).toNat : Int) = bt a0 2 := bt_at a0 2; clear p12; have qi12 : (2 < (a0.size : Int)) = True := eq_true (of_decide_eq_true as_); replace q12 := eq_true q12) | (go_at_call 104; (with_reducible refine (impl_isGreat.calls (bt a0 2) t230 _ A13.out).mono ?_); rintro e w' ⟨rfl, ⟨nd, rfl⟩⟩))
              go_ret
              exact ⟨er_, dn_⟩
            · rw [if_neg c11] at H
              exact absurd H (by simp)
          · replace c10 := Bool.eq_false_iff.mpr c10
            subst c10
            have H1 : (some false) = some r := by rw [if_neg (show ¬ (false = true) by decide)] at H; exact H
            clear H
            have H := H1
            clear H1
            obtain rfl := Option.some.inj H
            have p4 : 0 ≤ (0 : Int) := (by omega)
            have q4 : 0 < a0.size := (by have : (0 : Int) < (a0.size : Int) := of_decide_eq_true as_; omega)
            have hx4 : ∀ h : 0 < a0.size, ((a0[0]'h).toNat : Int) = bt a0 0 := bt_at a0 0
            clear p4
            have qi4 : (0 < (a0.size : Int)) = True := eq_true (of_decide_eq_true as_)
            replace q4 := eq_true q4
            go_enter Try.func83, Try.ntmps83
            go_wp2_with (first | (go_at_call 104; (with_reducible refine (impl_isGreat.calls (bt a0 0) true _ A5.out).mono ?_); rintro e w' ⟨rfl, ⟨nd, rfl⟩⟩; have p8 : 0 ≤ (1 : Int) := (by omega); have q8 : 1 < a0.size := (by have : (1 : Int) < (a0.size : Int) := of_decide_eq_true as_; omega); have hx8 : ∀ h : 1 < a0.size, ((a0[1]'h).toNat : Int) = bt a0 1 := bt_at a0 1; clear p8; have qi8 : (1 < (a0.size : Int)) = True := eq_true (of_decide_eq_true as_); replace q8 := eq_true q8) | (go_at_call 104; (with_reducible refine (impl_isGreat.calls (bt a0 1) false _ A9.out).mono ?_); rintro e w' ⟨rfl, ⟨nd, rfl⟩⟩))
            go_ret
            exact ⟨er_, dn_⟩
        · rw [if_neg c7] at H
          exact absurd H (by simp)
      · replace c6 := Bool.eq_false_iff.mpr c6
        subst c6
        have H1 : (some false) = some r := by rw [if_neg (show ¬ (false = true) by decide)] at H; exact H
        clear H
        have H := H1
        clear H1
        obtain rfl := Option.some.inj H
        have p4 : 0 ≤ (0 : Int) := (by omega)
        have q4 : 0 < a0.size := (by have : (0 : Int) < (a0.size : Int) := of_decide_eq_true as_; omega)
        have hx4 : ∀ h : 0 < a0.size, ((a0[0]'h).toNat : Int) = bt a0 0 := bt_at a0 0
        clear p4
        have qi4 : (0 < (a0.size : Int)) = True := eq_true (of_decide_eq_true as_)
        replace q4 := eq_true q4
        go_enter Try.func83, Try.ntmps83
        go_wp2_with (first | (go_at_call 104; (with_reducible refine (impl_isGreat.calls (bt a0 0) false _ A5.out).mono ?_); rintro e w' ⟨rfl, ⟨nd, rfl⟩⟩))
        go_ret
        exact ⟨er_, dn_⟩
    · rw [if_neg c3] at H
      exact absurd H (by simp)
  · rw [if_neg c2] at H
    have c2b0 : ((a0.size : Int) == 3) = false := beq_eq_false_iff_ne.mpr c2
    have c2b1 : ((a0.size : Int) != 3) = true := bne_iff_ne.mpr c2
    obtain rfl := Option.some.inj H
    go_enter Try.func83, Try.ntmps83
    go_wp2
    go_ret
    exact ⟨er_, dn_⟩

/-! ### slices_IndexFunc_string_string__impl_SegmentRight_1: function 111 -/
def slices_IndexFunc_string_string__impl_SegmentRight_1.l0 : Nat → List ByteArray → Int → Int → Option (Int)
  | 0, _, _, _ => none
  | k + 1, x0, x7, x8 => if x8 < x7 then (if 0 ≤ x8 then (if x8 < (x0.length : Int) then ((impl_SegmentRight_1.f k (rdOf ByteArray.empty x0 x8)).bind fun t232 => (if t232 = true then (some x8) else (slices_IndexFunc_string_string__impl_SegmentRight_1.l0 k x0 x7 (wrap64 (x8 + 1))))) else (none)) else (none)) else (some (-1))
def slices_IndexFunc_string_string__impl_SegmentRight_1.f (k : Nat) (l0 : List ByteArray)  : Option (Int) := slices_IndexFunc_string_string__impl_SegmentRight_1.l0 k l0 (l0.length : Int) 0
theorem slices_IndexFunc_string_string__impl_SegmentRight_1.mono_l : ∀ k, (∀ y0 y1 y2, LeO (slices_IndexFunc_string_string__impl_SegmentRight_1.l0 k y0 y1 y2) (slices_IndexFunc_string_string__impl_SegmentRight_1.l0 (k + 1) y0 y1 y2))
  | 0 => fun _ _ _ r h => by simp [slices_IndexFunc_string_string__impl_SegmentRight_1.l0] at h
  | k + 1 => by
    have ih0 := slices_IndexFunc_string_string__impl_SegmentRight_1.mono_l k
    · intro y0 y1 y2
      unfold slices_IndexFunc_string_string__impl_SegmentRight_1.l0
      repeat' first
      | (with_reducible exact ih0 _ _ _)
      | (with_reducible exact impl_SegmentRight_1.mono _ _)
      | (with_reducible exact LeO.refl _)
      | (with_reducible exact LeO.none _)
      | (with_reducible refine LeO.ite ?_ ?_)
      | (with_reducible refine LeO.bind ?_ (fun _ => ?_))
      | exact ih0 _ _ _
      | exact impl_SegmentRight_1.mono _ _
      | exact LeO.none _
      | refine LeO.ite ?_ ?_
      | refine LeO.bind ?_ (fun _ => ?_)
theorem slices_IndexFunc_string_string__impl_SegmentRight_1.mono : ∀ a0 k, LeO (slices_IndexFunc_string_string__impl_SegmentRight_1.f k a0) (slices_IndexFunc_string_string__impl_SegmentRight_1.f (k + 1) a0) := by
  intro a0 k
  have ih0 := slices_IndexFunc_string_string__impl_SegmentRight_1.mono_l k
  unfold slices_IndexFunc_string_string__impl_SegmentRight_1.f
  repeat' first
      | (with_reducible exact ih0 _ _ _)
      | (with_reducible exact impl_SegmentRight_1.mono _ _)
      | (with_reducible exact LeO.refl _)
      | (with_reducible exact LeO.none _)
      | (with_reducible refine LeO.ite ?_ ?_)
      | (with_reducible refine LeO.bind ?_ (fun _ => ?_))
      | exact ih0 _ _ _
      | exact impl_SegmentRight_1.mono _ _
      | exact LeO.none _
      | refine LeO.ite ?_ ?_
      | refine LeO.bind ?_ (fun _ => ?_)
set_option maxHeartbeats 8000000 in
set_option maxRecDepth 100000 in
theorem slices_IndexFunc_string_string__impl_SegmentRight_1.calls (k : Nat) (A0 : Option Addr) (c0 : Nat) (l0 : List ByteArray)  (r : Int) (w : World) (hr0 : Kd.C Kd.string w A0 l0.length l0) (hc0 : l0.length ≤ c0) (h : slices_IndexFunc_string_string__impl_SegmentRight_1.f k l0 = some r) :
    Calls Try.prog 111 #[.slice A0 l0.length c0, .func (.func 81) #[] #[]] w fun e w' => e = .returned (.int .i64 r) ∧ Drawn0 w w' := by
  have HR0 := Aside0.mk hr0
  have HC0 := Aside0.mk hc0
  clear hr0 hc0
  have H : (slices_IndexFunc_string_string__impl_SegmentRight_1.l0 k l0 (l0.length : Int) 0) = some r := h
  clear h
  have H' := Aside0.mk H
  clear H
  go_enter Try.func111, Try.ntmps111
  go_wp2
  go_loopg [8] k (fun kq v8 w' => ∃ (x8_1 : Int), v8 = .int .i64 x8_1 ∧ Aside0 (slices_IndexFunc_string_string__impl_SegmentRight_1.l0 kq l0 (l0.length : Int) x8_1 = some r) ∧ Aside0 (kq ≤ k) ∧ Drawn0 w w')
  case atStart => exact ⟨(0), er_, H', ⟨Nat.le_refl _⟩, dn_⟩
  case round =>
    clear H'
    try clear c1
    try clear p2
    obtain ⟨x8_1, rfl, HA, HK1, ⟨m1, rfl⟩⟩ := hrel
    cases gk with
    | zero => exact absurd HA.out (by simp [slices_IndexFunc_string_string__impl_SegmentRight_1.l0])
    | succ k1 =>
      have H := HA.out
      clear HA
      simp only [slices_IndexFunc_string_string__impl_SegmentRight_1.l0] at H
      by_cases c3 : x8_1 < (l0.length : Int)
      · rw [if_pos c3] at H
        have c3b0 : decide (x8_1 < (l0.length : Int)) = true := decide_eq_true c3
        clear c3
        by_cases c4 : 0 ≤ x8_1
        · rw [if_pos c4] at H
          have c4b0 : decide (0 ≤ x8_1) = true := decide_eq_true c4
          clear c4
          by_cases c5 : x8_1 < (l0.length : Int)
          · rw [if_pos c5] at H
            have c5b0 : decide (x8_1 < (l0.length : Int)) = true := decide_eq_true c5
            clear c5
            replace H := Option.bind_eq_some_iff.mp H
            obtain ⟨t232, A60, H⟩ := H
            replace H : (if t232 = true then (some x8_1) else (slices_IndexFunc_string_string__impl_SegmentRight_1.l0 k1 l0 (l0.length : Int) (wrap64 (x8_1 + 1)))) = some r := H
            have A6 := Aside0.mk A60
            clear A60
            by_cases c7 : t232 = true
            · subst c7
              have H1 : (some x8_1) = some r := by rw [if_pos rfl] at H; exact H
              clear H
              have H := H1
              clear H1
              obtain rfl := Option.some.inj H
              have p231 : 0 ≤ (x8_1 : Int) := of_decide_eq_true as_
              have q231 : x8_1 < (l0.length : Int) := of_decide_eq_true as_
              obtain ⟨ad231, e231, hx231_0⟩ := Kd.at_string HR0.out x8_1 p231 q231
              cases e231
              replace p231 := eq_true p231
              replace q231 := eq_true q231
              go_wp2_with (first | (go_at_call 81; (with_reducible refine (impl_SegmentRight_1.calls k1 (rdOf ByteArray.empty l0 x8_1) true _ A6.out).mono ?_); rintro e w' ⟨rfl, ⟨nd, rfl⟩⟩))
              go_ret
              exact ⟨er_, dn_⟩
            · replace c7 := Bool.eq_false_iff.mpr c7
              subst c7
              have H1 : (slices_IndexFunc_string_string__impl_SegmentRight_1.l0 k1 l0 (l0.length : Int) (wrap64 (x8_1 + 1))) = some r := by rw [if_neg (show ¬ (false = true) by decide)] at H; exact H
              clear H
              have H := H1
              clear H1
              have H' := Aside0.mk H
              clear H
              have p231 : 0 ≤ (x8_1 : Int) := of_decide_eq_true as_
              have q231 : x8_1 < (l0.length : Int) := of_decide_eq_true as_
              obtain ⟨ad231, e231, hx231_0⟩ := Kd.at_string HR0.out x8_1 p231 q231
              cases e231
              replace p231 := eq_true p231
              replace q231 := eq_true q231
              go_wp2_with (first | (go_at_call 81; (with_reducible refine (impl_SegmentRight_1.calls k1 (rdOf ByteArray.empty l0 x8_1) false _ A6.out).mono ?_); rintro e w' ⟨rfl, ⟨nd, rfl⟩⟩))
              go_roundg k1
              case measure => have := HK1.out; omega
              case rel => exact ⟨(wrap64 (x8_1 + 1)), er_, H', ⟨by have := HK1.out; omega⟩, dn_⟩
          · rw [if_neg c5] at H
            exact absurd H (by simp)
        · rw [if_neg c4] at H
          exact absurd H (by simp)
      · rw [if_neg c3] at H
        have c3b0 : decide (x8_1 < (l0.length : Int)) = false := decide_eq_false c3
        clear c3
        obtain rfl := Option.some.inj H
        go_wp2
        go_ret
        exact ⟨er_, dn_⟩

/-! ### slices_ContainsFunc_string_string__impl_SegmentRight_1: function 80 -/
def slices_ContainsFunc_string_string__impl_SegmentRight_1.f (k : Nat) (l0 : List ByteArray)  : Option (Bool) := (slices_IndexFunc_string_string__impl_SegmentRight_1.f k l0).bind fun t233 => (some (decide (t233 ≥ 0)))
theorem slices_ContainsFunc_string_string__impl_SegmentRight_1.mono : ∀ a0 k, LeO (slices_ContainsFunc_string_string__impl_SegmentRight_1.f k a0) (slices_ContainsFunc_string_string__impl_SegmentRight_1.f (k + 1) a0) := by
  intro a0 k
  unfold slices_ContainsFunc_string_string__impl_SegmentRight_1.f
  repeat' first
      | (with_reducible exact slices_IndexFunc_string_string__impl_SegmentRight_1.mono _ _)
      | (with_reducible exact LeO.refl _)
      | (with_reducible exact LeO.none _)
      | (with_reducible refine LeO.ite ?_ ?_)
      | (with_reducible refine LeO.bind ?_ (fun _ => ?_))
      | exact slices_IndexFunc_string_string__impl_SegmentRight_1.mono _ _
      | exact LeO.none _
      | refine LeO.ite ?_ ?_
      | refine LeO.bind ?_ (fun _ => ?_)
set_option maxHeartbeats 8000000 in
set_option maxRecDepth 100000 in
theorem slices_ContainsFunc_string_string__impl_SegmentRight_1.calls (k : Nat) (A0 : Option Addr) (c0 : Nat) (l0 : List ByteArray)  (r : Bool) (w : World) (hr0 : Kd.C Kd.string w A0 l0.length l0) (hc0 : l0.length ≤ c0) (h : slices_ContainsFunc_string_string__impl_SegmentRight_1.f k l0 = some r) :
    Calls Try.prog 80 #[.slice A0 l0.length c0, .func (.func 81) #[] #[]] w fun e w' => e = .returned (.bool r) ∧ Drawn0 w w' := by
  have HR0 := Aside0.mk hr0
  have HC0 := Aside0.mk hc0
  clear hr0 hc0
  have H : ((slices_IndexFunc_string_string__impl_SegmentRight_1.f k l0).bind fun t233 => (some (decide (t233 ≥ 0)))) = some r := h
  clear h
  replace H := Option.bind_eq_some_iff.mp H
  obtain ⟨t233, A30, H⟩ := H
  replace H : (some (decide (t233 ≥ 0))) = some r := H
  have A3 := Aside0.mk A30
  clear A30
  obtain rfl := Option.some.inj H
  go_enter Try.func80, Try.ntmps80
  go_wp2_with (first | ((with_reducible refine gate_callee (f := 111) rfl ?_); refine gl_ 7 Try.func111 #[.slice A0 l0.length c0, .func (.func 81) #[] #[]] ?_ rfl rfl rfl rfl; (with_reducible refine (slices_IndexFunc_string_string__impl_SegmentRight_1.calls k _ _ l0  t233 _ ?side1 ?side2 A3.out).mono ?_); (case side1 => repeat (first | exact HR0.out | (with_reducible refine Kd.C_alloc ?_ _) | (with_reducible refine Kd.C_drewN ?_ _) | (with_reducible refine Kd.C_drew ?_))); (case side2 => exact HC0.out); rintro e w' ⟨rfl, ⟨nd, rfl⟩⟩; refine ⟨_, rfl, ?_⟩))
  go_ret
  exact ⟨er_, dn_⟩

/-! ### impl_SegmentRight: function 36 -/
mutual
def impl_SegmentRight.l0 : Nat → List (S102) → Int → Int → ByteArray → List (S102) → Option (Bool)
  | 0, _, _, _, _, _ => none
  | k + 1, x7, x8, x9, x235000, x235001 => if x9 < x8 then (if 0 ≤ x9 then (if x9 < (x7.length : Int) then ((impl_within.f (((rd_T102 x7 x9).f0).length : Int) 1 4).bind fun t238 => (if t238 = true then ((slices_ContainsFunc_string_string__impl_SegmentRight_1.f k ((rd_T102 x7 x9).f0)).bind fun t239 => (impl_SegmentRight.j1 k x9 (((rd_T102 x7 x9).f0).length : Int) x7 x8 x9 t239 x235000 x235001 ((rd_T102 x7 x9).f0))) else (impl_SegmentRight.j1 k x9 (((rd_T102 x7 x9).f0).length : Int) x7 x8 x9 true x235000 x235001 ((rd_T102 x7 x9).f0)))) else (none)) else (none)) else ((impl_isTag.f x235000).bind fun t235 => (if t235 = true then (some (decide ((x235001.length : Int) ≤ 10))) else (some false)))
def impl_SegmentRight.j1 : Nat → Int → Int → List (S102) → Int → Int → Bool → ByteArray → List (S102) → List ByteArray → Option (Bool)
  | 0, _, _, _, _, _, _, _, _, _ => none
  | k + 1, x3, x5, x7, x8, x9, x24, x235000, x235001, x238000 => if x24 = true then (some false) else (if 0 ≤ (wrap64 (x5 - 1)) then (if (wrap64 (x5 - 1)) < (x238000.length : Int) then (if (rdOf ByteArray.empty x238000 (wrap64 (x5 - 1))).toList = ([] : List UInt8) then (if x5 > 1 then (some false) else (if x3 = (wrap64 ((x235001.length : Int) - 1)) then (some false) else (impl_SegmentRight.l0 k x7 x8 (wrap64 (x9 + 1)) x235000 x235001))) else (impl_SegmentRight.l0 k x7 x8 (wrap64 (x9 + 1)) x235000 x235001)) else (none)) else (none))
end
def impl_SegmentRight.f (k : Nat) (a0_0 : ByteArray) (l0_1 : List (S102)) : Option (Bool) := impl_SegmentRight.l0 k l0_1 (l0_1.length : Int) 0 a0_0 l0_1
theorem impl_SegmentRight.mono_l : ∀ k, (∀ y0 y1 y2 y3 y4, LeO (impl_SegmentRight.l0 k y0 y1 y2 y3 y4) (impl_SegmentRight.l0 (k + 1) y0 y1 y2 y3 y4)) ∧ (∀ y0 y1 y2 y3 y4 y5 y6 y7 y8, LeO (impl_SegmentRight.j1 k y0 y1 y2 y3 y4 y5 y6 y7 y8) (impl_SegmentRight.j1 (k + 1) y0 y1 y2 y3 y4 y5 y6 y7 y8))
  | 0 => ⟨fun _ _ _ _ _ r h => by simp [impl_SegmentRight.l0] at h, fun _ _ _ _ _ _ _ _ _ r h => by simp [impl_SegmentRight.j1] at h⟩
  | k + 1 => by
    obtain ⟨ih0, ih1⟩ := impl_SegmentRight.mono_l k
    refine ⟨?_, ?_⟩
    · intro y0 y1 y2 y3 y4
      unfold impl_SegmentRight.l0
      repeat' first
      | (with_reducible exact ih0 _ _ _ _ _)
      | (with_reducible exact ih1 _ _ _ _ _ _ _ _ _)
      | (with_reducible exact slices_ContainsFunc_string_string__impl_SegmentRight_1.mono _ _)
      | (with_reducible exact LeO.refl _)
      | (with_reducible exact LeO.none _)
      | (with_reducible refine LeO.ite ?_ ?_)
      | (with_reducible refine LeO.bind ?_ (fun _ => ?_))
      | exact ih0 _ _ _ _ _
      | exact ih1 _ _ _ _ _ _ _ _ _
      | exact slices_ContainsFunc_string_string__impl_SegmentRight_1.mono _ _
      | exact LeO.none _
      | refine LeO.ite ?_ ?_
      | refine LeO.bind ?_ (fun _ => ?_)
    · intro y0 y1 y2 y3 y4 y5 y6 y7 y8
      unfold impl_SegmentRight.j1
      repeat' first
      | (with_reducible exact ih0 _ _ _ _ _)
      | (with_reducible exact ih1 _ _ _ _ _ _ _ _ _)
      | (with_reducible exact slices_ContainsFunc_string_string__impl_SegmentRight_1.mono _ _)
      | (with_reducible exact LeO.refl _)
      | (with_reducible exact LeO.none _)
      | (with_reducible refine LeO.ite ?_ ?_)
      | (with_reducible refine LeO.bind ?_ (fun _ => ?_))
      | exact ih0 _ _ _ _ _
      | exact ih1 _ _ _ _ _ _ _ _ _
      | exact slices_ContainsFunc_string_string__impl_SegmentRight_1.mono _ _
      | exact LeO.none _
      | refine LeO.ite ?_ ?_
      | refine LeO.bind ?_ (fun _ => ?_)
theorem impl_SegmentRight.mono : ∀ a0 a1 k, LeO (impl_SegmentRight.f k a0 a1) (impl_SegmentRight.f (k + 1) a0 a1) := by
  intro a0 a1 k
  obtain ⟨ih0, ih1⟩ := impl_SegmentRight.mono_l k
  unfold impl_SegmentRight.f
  repeat' first
      | (with_reducible exact ih0 _ _ _ _ _)
      | (with_reducible exact ih1 _ _ _ _ _ _ _ _ _)
      | (with_reducible exact slices_ContainsFunc_string_string__impl_SegmentRight_1.mono _ _)
      | (with_reducible exact LeO.refl _)
      | (with_reducible exact LeO.none _)
      | (with_reducible refine LeO.ite ?_ ?_)
      | (with_reducible refine LeO.bind ?_ (fun _ => ?_))
      | exact ih0 _ _ _ _ _
      | exact ih1 _ _ _ _ _ _ _ _ _
      | exact slices_ContainsFunc_string_string__impl_SegmentRight_1.mono _ _
      | exact LeO.none _
      | refine LeO.ite ?_ ?_
      | refine LeO.bind ?_ (fun _ => ?_)
set_option maxHeartbeats 8000000 in
set_option maxRecDepth 100000 in
theorem impl_SegmentRight.calls (k : Nat) (a0_0 : ByteArray) (A0_1 : Option Addr) (c0_1 : Nat) (l0_1 : List (S102)) (r : Bool) (w : World) (hr0_1 : Kd.C k102 w A0_1 l0_1.length l0_1) (hc0_1 : l0_1.length ≤ c0_1) (h : impl_SegmentRight.f k a0_0 l0_1 = some r) :
    Calls Try.prog 36 #[.agg #[.string a0_0, .slice A0_1 l0_1.length c0_1]] w fun e w' => e = .returned (.bool r) ∧ Below w.heap.size w w' := by
  have hu59 := Try.underlying59
  have hu102 := Try.underlying102
  have HR0_1 := Aside0.mk hr0_1
  have HC0_1 := Aside0.mk hc0_1
  clear hr0_1 hc0_1
  have HB := Aside0.mk (Below.refl w.heap.size w)
  have H : (impl_SegmentRight.l0 k l0_1 (l0_1.length : Int) 0 a0_0 l0_1) = some r := h
  clear h
  have H' := Aside0.mk H
  clear H
  go_enter Try.func36, Try.ntmps36
  go_wp2_with (first | ((with_reducible refine gate_dst (N := 1) rfl ?_); (try (refine gate_guard (by rfl) ?_; dsimp only)); refine box_event ?hg (N := 1) ?hd (cs := #[.string a0_0, .slice A0_1 l0_1.length c0_1]) (t := 59) ?hr ?_; (case hd => rfl); (case hg => rfl); (case hr => exact hr_); intro gb234 hg w2 hbox hb; have n0_ := Aside0.mk (below_step bl_ hb); have n1_ := Aside0.mk (hbox); have n2_ := Aside0.mk (gw_ hg bl_); have n3_ := Aside0.mk (gw_ hg bl_); clear HB; have HB := n0_; have BK234 := n1_; have GW234 := n2_; have GE234 := n3_; clear n0_ n1_ n2_ n3_; clear hb hbox hg; obtain ⟨hcz3_0, hcz3_1, hfz3_0, hfz3_1⟩ := cellsF2 BK234.out))
  go_loopg [9] k (fun kq v9 w' => ∃ (x9_1 : Int), v9 = .int .i64 x9_1 ∧ Aside0 (impl_SegmentRight.l0 kq l0_1 (l0_1.length : Int) x9_1 a0_0 l0_1 = some r) ∧ Aside0 (kq ≤ k) ∧ Aside0 (w'.heap[gb234]? = some (.cells #[.string a0_0, (.slice A0_1 l0_1.length c0_1)] 59 (0, 0))) ∧ Aside0 (Below w.heap.size w w'))
  case atStart => exact ⟨(0), er_, H', ⟨Nat.le_refl _⟩, ⟨bk_ BK234⟩, ⟨bl_⟩⟩
  case round =>
    clear H'
    try clear p2
    try clear c3
    try clear hcz3_0
    try clear hcz3_1
    try clear hfz3_0
    try clear hfz3_1
    obtain ⟨x9_1, rfl, HA, HK1, BK234, HB⟩ := hrel
    cases gk with
    | zero => exact absurd HA.out (by simp [impl_SegmentRight.l0])
    | succ k1 =>
      have H := HA.out
      clear HA
      simp only [impl_SegmentRight.l0] at H
      by_cases c4 : x9_1 < (l0_1.length : Int)
      · rw [if_pos c4] at H
        have c4b0 : decide (x9_1 < (l0_1.length : Int)) = true := decide_eq_true c4
        clear c4
        by_cases c5 : 0 ≤ x9_1
        · rw [if_pos c5] at H
          have c5b0 : decide (0 ≤ x9_1) = true := decide_eq_true c5
          clear c5
          by_cases c6 : x9_1 < (l0_1.length : Int)
          · rw [if_pos c6] at H
            have c6b0 : decide (x9_1 < (l0_1.length : Int)) = true := decide_eq_true c6
            clear c6
            have HC7 := Aside0.mk H
            clear H
            have p236 : 0 ≤ (x9_1 : Int) := of_decide_eq_true as_
            have q236 : x9_1 < (l0_1.length : Int) := of_decide_eq_true as_
            obtain ⟨ad236, A236_0, c236_0, e236, hx236_0, hl236_0, hi236_0⟩ := at_T102 HR0_1.out x9_1 p236 q236
            cases e236
            replace hx236_0 := (HB.out.cell (World.block_lt_of_cell? _ _ hx236_0)).trans hx236_0
            have HR236_0 := Aside0.mk hi236_0
            have HC236_0 := Aside0.mk hl236_0
            clear hi236_0 hl236_0
            replace p236 := eq_true p236
            replace q236 := eq_true q236
            go_upto_region 5 with (first | ((with_reducible refine gate_dst (N := 4) rfl ?_); (try (refine gate_guard (by rfl) ?_; dsimp only)); refine box_event ?hg (N := 4) ?hd (cs := #[.slice none 0 0]) (t := 102) ?hr ?_; (case hd => rfl); (case hg => rfl); (case hr => exact hr_); intro gb237 hg w8 hbox hb; have n0_ := Aside0.mk (blkb_ BK234 hb); have n1_ := Aside0.mk (below_step bl_ hb); have n2_ := Aside0.mk (hbox); have n3_ := Aside0.mk (gw_ hg bl_); have n4_ := Aside0.mk (gw_ hg bl_); have n5_ := Aside0.mk (gn_ hg (blkl_ BK234)); have n6_ := Aside0.mk (gm_ hg (blkl_ BK234)); clear BK234; clear HB; have BK234 := n0_; have HB := n1_; have BK237 := n2_; have GW237 := n3_; have GE237 := n4_; have NB234_237 := n5_; have NB237_234 := n6_; clear n0_ n1_ n2_ n3_ n4_ n5_ n6_; clear hb hbox hg; have hnb9 := NB237_234.out; have hnc9 := NB234_237.out; have hcz10_0 : w8.cell? ⟨gb237, 0, none⟩ = some (.slice none 0 0) := (blk_cell BK237.out 0).trans rfl; have hfz10_0 := blk_frozen BK237.out 0))
            (try simp only [Act.put, List.setIfInBounds_toArray, List.set_cons_zero, List.set_cons_succ])
            go_cut [24] (fun v24 wc => ∃ (kq : Nat) (x24_6 : Bool), v24 = .bool x24_6 ∧ Aside0 (impl_SegmentRight.j1 kq x9_1 (((rd_T102 l0_1 x9_1).f0).length : Int) l0_1 (l0_1.length : Int) x9_1 x24_6 a0_0 l0_1 ((rd_T102 l0_1 x9_1).f0) = some r) ∧ Aside0 (kq ≤ k1) ∧ Aside0 (wc.heap[gb234]? = some (.cells #[.string a0_0, (.slice (some ad236) l0_1.length c0_1)] 59 (0, 0))) ∧ Aside0 (wc.heap[gb237]? = some (.cells #[(.slice A236_0 ((rd_T102 l0_1 x9_1).f0).length c236_0)] 102 (0, 0))) ∧ Aside0 (Below w.heap.size w wc))
            case first =>
              have H := HC7.out
              clear HC7
              replace H := Option.bind_eq_some_iff.mp H
              obtain ⟨t238, A110, H⟩ := H
              replace H : (if t238 = true then ((slices_ContainsFunc_string_string__impl_SegmentRight_1.f k1 ((rd_T102 l0_1 x9_1).f0)).bind fun t239 => (impl_SegmentRight.j1 k1 x9_1 (((rd_T102 l0_1 x9_1).f0).length : Int) l0_1 (l0_1.length : Int) x9_1 t239 a0_0 l0_1 ((rd_T102 l0_1 x9_1).f0))) else (impl_SegmentRight.j1 k1 x9_1 (((rd_T102 l0_1 x9_1).f0).length : Int) l0_1 (l0_1.length : Int) x9_1 true a0_0 l0_1 ((rd_T102 l0_1 x9_1).f0))) = some r := H
              have A11 := Aside0.mk A110
              clear A110
              by_cases c12 : t238 = true
              · subst c12
                have H1 : ((slices_ContainsFunc_string_string__impl_SegmentRight_1.f k1 ((rd_T102 l0_1 x9_1).f0)).bind fun t239 => (impl_SegmentRight.j1 k1 x9_1 (((rd_T102 l0_1 x9_1).f0).length : Int) l0_1 (l0_1.length : Int) x9_1 t239 a0_0 l0_1 ((rd_T102 l0_1 x9_1).f0))) = some r := by rw [if_pos rfl] at H; exact H
                clear H
                have H := H1
                clear H1
                replace H := Option.bind_eq_some_iff.mp H
                obtain ⟨t239, A130, H⟩ := H
                replace H : (impl_SegmentRight.j1 k1 x9_1 (((rd_T102 l0_1 x9_1).f0).length : Int) l0_1 (l0_1.length : Int) x9_1 t239 a0_0 l0_1 ((rd_T102 l0_1 x9_1).f0)) = some r := H
                have A13 := Aside0.mk A130
                clear A130
                have H' := Aside0.mk H
                clear H
                go_wp2_with (first | ((with_reducible refine gate_callee (f := 79) rfl ?_); refine gl_ 18 Try.func79 #[.int .i64 (((rd_T102 l0_1 x9_1).f0).length : Int), .int .i64 1, .int .i64 4] ?_ rfl rfl rfl rfl; (with_reducible refine (impl_within.calls (((rd_T102 l0_1 x9_1).f0).length : Int) 1 4 true _ A11.out).mono ?_); rintro e w' ⟨rfl, ⟨nd, rfl⟩⟩; refine ⟨_, rfl, ?_⟩; have hnb14 := NB237_234.out; have hnc14 := NB234_237.out; have hcz15_0 : w8.cell? ⟨gb237, 0, none⟩ = some (.slice none 0 0) := (blk_cell BK237.out 0).trans rfl; have hfz15_0 := blk_frozen BK237.out 0) | (go_at_call 80; (with_reducible refine (slices_ContainsFunc_string_string__impl_SegmentRight_1.calls k1 _ _ ((rd_T102 l0_1 x9_1).f0)  t239 _ ?side1 ?side2 A13.out).mono ?_); (case side1 => exact Kd.C_below HR236_0.out bl_); (case side2 => exact HC236_0.out); rintro e w' ⟨rfl, ⟨nd, rfl⟩⟩))
                go_meet
                case rel => exact ⟨_, (t239), er_, H', ⟨by have := HK1.out; first | omega | exact Nat.le_refl _⟩, ⟨au8_2⟩, ⟨au8_0⟩, ⟨bl_⟩⟩
              · replace c12 := Bool.eq_false_iff.mpr c12
                subst c12
                have H1 : (impl_SegmentRight.j1 k1 x9_1 (((rd_T102 l0_1 x9_1).f0).length : Int) l0_1 (l0_1.length : Int) x9_1 true a0_0 l0_1 ((rd_T102 l0_1 x9_1).f0)) = some r := by rw [if_neg (show ¬ (false = true) by decide)] at H; exact H
                clear H
                have H := H1
                clear H1
                have H' := Aside0.mk H
                clear H
                go_wp2_with (first | ((with_reducible refine gate_callee (f := 79) rfl ?_); refine gl_ 18 Try.func79 #[.int .i64 (((rd_T102 l0_1 x9_1).f0).length : Int), .int .i64 1, .int .i64 4] ?_ rfl rfl rfl rfl; (with_reducible refine (impl_within.calls (((rd_T102 l0_1 x9_1).f0).length : Int) 1 4 false _ A11.out).mono ?_); rintro e w' ⟨rfl, ⟨nd, rfl⟩⟩; refine ⟨_, rfl, ?_⟩))
                go_meet
                case rel => exact ⟨_, (true), er_, H', ⟨by have := HK1.out; first | omega | exact Nat.le_refl _⟩, ⟨au8_2⟩, ⟨au8_0⟩, ⟨bl_⟩⟩
            case rest =>
              clear HC7
              try clear c1
              try clear c2
              try clear p2
              try clear q2
              try clear hx2
              try clear c3
              try clear c4
              try clear c4b0
              try clear c5
              try clear c5b0
              try clear c6
              try clear c6b0
              try clear c7
              try clear c9
              try clear c12
              try clear c14
              try clear hcz10_0
              try clear hcz15_0
              try clear hcz3_0
              try clear hcz3_1
              try clear hfz10_0
              try clear hfz15_0
              try clear hfz3_0
              try clear hfz3_1
              try clear hx236_0
              try clear p2
              try clear p236
              try clear q236
              obtain ⟨kq, x24_6, rfl, HA, HJ6, BK234, BK237, HB⟩ := hcut
              cases kq with
              | zero => exact absurd HA.out (by simp [impl_SegmentRight.j1])
              | succ kj6 =>
                have H := HA.out
                clear HA
                simp only [impl_SegmentRight.j1] at H
                by_cases c16 : x24_6 = true
                · subst c16
                  have H1 : (some false) = some r := by rw [if_pos rfl] at H; exact H
                  clear H
                  have H := H1
                  clear H1
                  obtain rfl := Option.some.inj H
                  go_wp2
                  go_ret
                  exact ⟨au8_1, bl_⟩
                · replace c16 := Bool.eq_false_iff.mpr c16
                  subst c16
                  have H1 : (if 0 ≤ (wrap64 ((((rd_T102 l0_1 x9_1).f0).length : Int) - 1)) then (if (wrap64 ((((rd_T102 l0_1 x9_1).f0).length : Int) - 1)) < (((rd_T102 l0_1 x9_1).f0).length : Int) then (if (rdOf ByteArray.empty ((rd_T102 l0_1 x9_1).f0) (wrap64 ((((rd_T102 l0_1 x9_1).f0).length : Int) - 1))).toList = ([] : List UInt8) then (if (((rd_T102 l0_1 x9_1).f0).length : Int) > 1 then (some false) else (if x9_1 = (wrap64 ((l0_1.length : Int) - 1)) then (some false) else (impl_SegmentRight.l0 kj6 l0_1 (l0_1.length : Int) (wrap64 (x9_1 + 1)) a0_0 l0_1))) else (impl_SegmentRight.l0 kj6 l0_1 (l0_1.length : Int) (wrap64 (x9_1 + 1)) a0_0 l0_1)) else (none)) else (none)) = some r := by rw [if_neg (show ¬ (false = true) by decide)] at H; exact H
                  clear H
                  have H := H1
                  clear H1
                  obtain ⟨ji17, hji17⟩ : ∃ j_ : Int, (wrap64 ((((rd_T102 l0_1 x9_1).f0).length : Int) - 1)) = j_ := ⟨_, rfl⟩
                  replace H : (if 0 ≤ (ji17) then (if (ji17) < (((rd_T102 l0_1 x9_1).f0).length : Int) then (if (rdOf ByteArray.empty ((rd_T102 l0_1 x9_1).f0) (ji17)).toList = ([] : List UInt8) then (if (((rd_T102 l0_1 x9_1).f0).length : Int) > 1 then (some false) else (if x9_1 = (wrap64 ((l0_1.length : Int) - 1)) then (some false) else (impl_SegmentRight.l0 kj6 l0_1 (l0_1.length : Int) (wrap64 (x9_1 + 1)) a0_0 l0_1))) else (impl_SegmentRight.l0 kj6 l0_1 (l0_1.length : Int) (wrap64 (x9_1 + 1)) a0_0 l0_1)) else (none)) else (none)) = some r := by first | (rw [hji17] at H; exact H) | (simp only [hji17] at H ⊢; exact H)
                  have hji17w : (IntKind.i64.wrap ((((rd_T102 l0_1 x9_1).f0).length : Int) - 1)) = ji17 := (i64_w _).trans hji17
                  by_cases c18 : 0 ≤ (ji17)
                  · rw [if_pos c18] at H
                    have c18b0 : decide (0 ≤ (ji17)) = true := decide_eq_true c18
                    clear c18
                    by_cases c19 : (ji17) < (((rd_T102 l0_1 x9_1).f0).length : Int)
                    · rw [if_pos c19] at H
                      have c19b0 : decide ((ji17) < (((rd_T102 l0_1 x9_1).f0).length : Int)) = true := decide_eq_true c19
                      clear c19
                      by_cases c20 : (rdOf ByteArray.empty ((rd_T102 l0_1 x9_1).f0) (ji17)).toList = ([] : List UInt8)
                      · rw [if_pos c20] at H
                        have c20b0 : ((rdOf ByteArray.empty ((rd_T102 l0_1 x9_1).f0) (ji17)).toList == ([] : List UInt8)) = true := beq_iff_eq.mpr c20
                        have c20b1 : ((rdOf ByteArray.empty ((rd_T102 l0_1 x9_1).f0) (ji17)).toList != ([] : List UInt8)) = false := bne_eq_false_iff_eq.mpr c20
                        clear c20
                        by_cases c21 : (((rd_T102 l0_1 x9_1).f0).length : Int) > 1
                        · rw [if_pos c21] at H
                          have c21b0 : decide (1 < (((rd_T102 l0_1 x9_1).f0).length : Int)) = true := decide_eq_true c21
                          have c21b1 : decide (1 < ((rd_T102 l0_1 x9_1).f0).length) = true := decide_eq_true (by omega)
                          clear c21
                          obtain rfl := Option.some.inj H
                          have hnb22 := NB237_234.out
                          have hnc22 := NB234_237.out
                          have hcz23_0 : wc.cell? ⟨gb237, 0, none⟩ = some (.slice A236_0 ((rd_T102 l0_1 x9_1).f0).length c236_0) := (blk_cell BK237.out 0).trans rfl
                          have hfz23_0 := blk_frozen BK237.out 0
                          have p240 : 0 ≤ ((ji17) : Int) := of_decide_eq_true as_
                          have q240 : (ji17) < (((rd_T102 l0_1 x9_1).f0).length : Int) := of_decide_eq_true as_
                          obtain ⟨ad240, e240, hx240_0⟩ := Kd.at_string HR236_0.out (ji17) p240 q240
                          cases e240
                          replace hx240_0 := (HB.out.cell (World.block_lt_of_cell? _ _ hx240_0)).trans hx240_0
                          replace p240 := eq_true p240
                          replace q240 := eq_true q240
                          go_wp2
                          go_ret
                          exact ⟨au8_3, bl_⟩
                        · rw [if_neg c21] at H
                          have c21b0 : decide (1 < (((rd_T102 l0_1 x9_1).f0).length : Int)) = false := decide_eq_false c21
                          have c21b1 : decide (1 < ((rd_T102 l0_1 x9_1).f0).length) = false := decide_eq_false (by omega)
                          clear c21
                          by_cases c24 : x9_1 = (wrap64 ((l0_1.length : Int) - 1))
                          · rw [if_pos c24] at H
                            have c24b0 : (x9_1 == (wrap64 ((l0_1.length : Int) - 1))) = true := beq_iff_eq.mpr c24
                            have c24b1 : (x9_1 != (wrap64 ((l0_1.length : Int) - 1))) = false := bne_eq_false_iff_eq.mpr c24
                            clear c24
                            obtain rfl := Option.some.inj H
                            have hnb25 := NB237_234.out
                            have hnc25 := NB234_237.out
                            have hcz26_0 : wc.cell? ⟨gb237, 0, none⟩ = some (.slice A236_0 ((rd_T102 l0_1 x9_1).f0).length c236_0) := (blk_cell BK237.out 0).trans rfl
                            have hfz26_0 := blk_frozen BK237.out 0
                            have p240 : 0 ≤ ((ji17) : Int) := of_decide_eq_true as_
                            have q240 : (ji17) < (((rd_T102 l0_1 x9_1).f0).length : Int) := of_decide_eq_true as_
                            obtain ⟨ad240, e240, hx240_0⟩ := Kd.at_string HR236_0.out (ji17) p240 q240
                            cases e240
                            replace hx240_0 := (HB.out.cell (World.block_lt_of_cell? _ _ hx240_0)).trans hx240_0
                            replace p240 := eq_true p240
                            replace q240 := eq_true q240
                            obtain ⟨hcz27_0, hcz27_1, hfz27_0, hfz27_1⟩ := cellsF2 BK234.out
                            go_wp2
                            go_ret
                            exact ⟨au8_3, bl_⟩
                          · rw [if_neg c24] at H
                            have c24b0 : (x9_1 == (wrap64 ((l0_1.length : Int) - 1))) = false := beq_eq_false_iff_ne.mpr c24
                            have c24b1 : (x9_1 != (wrap64 ((l0_1.length : Int) - 1))) = true := bne_iff_ne.mpr c24
                            have H' := Aside0.mk H
                            clear H
                            have hnb28 := NB237_234.out
                            have hnc28 := NB234_237.out
                            have hcz29_0 : wc.cell? ⟨gb237, 0, none⟩ = some (.slice A236_0 ((rd_T102 l0_1 x9_1).f0).length c236_0) := (blk_cell BK237.out 0).trans rfl
                            have hfz29_0 := blk_frozen BK237.out 0
                            have p240 : 0 ≤ ((ji17) : Int) := of_decide_eq_true as_
                            have q240 : (ji17) < (((rd_T102 l0_1 x9_1).f0).length : Int) := of_decide_eq_true as_
                            obtain ⟨ad240, e240, hx240_0⟩ := Kd.at_string HR236_0.out (ji17) p240 q240
                            cases e240
                            replace hx240_0 := (HB.out.cell (World.block_lt_of_cell? _ _ hx240_0)).trans hx240_0
                            replace p240 := eq_true p240
                            replace q240 := eq_true q240
                            obtain ⟨hcz30_0, hcz30_1, hfz30_0, hfz30_1⟩ := cellsF2 BK234.out
                            go_wp2
                            go_roundg kj6
                            case measure => have := HK1.out; have := HJ6.out; omega
                            case rel => exact ⟨(wrap64 (x9_1 + 1)), er_, H', ⟨by have := HK1.out; have := HJ6.out; omega⟩, ⟨bk_ BK234⟩, ⟨bl_⟩⟩
                      · rw [if_neg c20] at H
                        have c20b0 : ((rdOf ByteArray.empty ((rd_T102 l0_1 x9_1).f0) (ji17)).toList == ([] : List UInt8)) = false := beq_eq_false_iff_ne.mpr c20
                        have c20b1 : ((rdOf ByteArray.empty ((rd_T102 l0_1 x9_1).f0) (ji17)).toList != ([] : List UInt8)) = true := bne_iff_ne.mpr c20
                        have H' := Aside0.mk H
                        clear H
                        have hnb31 := NB237_234.out
                        have hnc31 := NB234_237.out
                        have hcz32_0 : wc.cell? ⟨gb237, 0, none⟩ = some (.slice A236_0 ((rd_T102 l0_1 x9_1).f0).length c236_0) := (blk_cell BK237.out 0).trans rfl
                        have hfz32_0 := blk_frozen BK237.out 0
                        have p240 : 0 ≤ ((ji17) : Int) := of_decide_eq_true as_
                        have q240 : (ji17) < (((rd_T102 l0_1 x9_1).f0).length : Int) := of_decide_eq_true as_
                        obtain ⟨ad240, e240, hx240_0⟩ := Kd.at_string HR236_0.out (ji17) p240 q240
                        cases e240
                        replace hx240_0 := (HB.out.cell (World.block_lt_of_cell? _ _ hx240_0)).trans hx240_0
                        replace p240 := eq_true p240
                        replace q240 := eq_true q240
                        go_wp2
                        go_roundg kj6
                        case measure => have := HK1.out; have := HJ6.out; omega
                        case rel => exact ⟨(wrap64 (x9_1 + 1)), er_, H', ⟨by have := HK1.out; have := HJ6.out; omega⟩, ⟨bk_ BK234⟩, ⟨bl_⟩⟩
                    · rw [if_neg c19] at H
                      exact absurd H (by simp)
                  · rw [if_neg c18] at H
                    exact absurd H (by simp)
          · rw [if_neg c6] at H
            exact absurd H (by simp)
        · rw [if_neg c5] at H
          exact absurd H (by simp)
      · rw [if_neg c4] at H
        have c4b0 : decide (x9_1 < (l0_1.length : Int)) = false := decide_eq_false c4
        clear c4
        replace H := Option.bind_eq_some_iff.mp H
        obtain ⟨t235, A330, H⟩ := H
        replace H : (if t235 = true then (some (decide ((l0_1.length : Int) ≤ 10))) else (some false)) = some r := H
        have A33 := Aside0.mk A330
        clear A330
        by_cases c34 : t235 = true
        · subst c34
          have H1 : (some (decide ((l0_1.length : Int) ≤ 10))) = some r := by rw [if_pos rfl] at H; exact H
          clear H
          have H := H1
          clear H1
          obtain rfl := Option.some.inj H
          obtain ⟨hcz35_0, hcz35_1, hfz35_0, hfz35_1⟩ := cellsF2 BK234.out
          go_wp2_with (first | ((with_reducible refine gate_callee (f := 83) rfl ?_); refine gl_ 47 Try.func83 #[.string a0_0] ?_ rfl rfl rfl rfl; (with_reducible refine (impl_isTag.calls a0_0 true _ A33.out).mono ?_); rintro e w' ⟨rfl, ⟨nd, rfl⟩⟩; refine ⟨_, rfl, ?_⟩))
          go_ret
          exact ⟨au8_1, bl_⟩
        · replace c34 := Bool.eq_false_iff.mpr c34
          subst c34
          have H1 : (some false) = some r := by rw [if_neg (show ¬ (false = true) by decide)] at H; exact H
          clear H
          have H := H1
          clear H1
          obtain rfl := Option.some.inj H
          obtain ⟨hcz36_0, hcz36_1, hfz36_0, hfz36_1⟩ := cellsF2 BK234.out
          go_wp2_with (first | ((with_reducible refine gate_callee (f := 83) rfl ?_); refine gl_ 47 Try.func83 #[.string a0_0] ?_ rfl rfl rfl rfl; (with_reducible refine (impl_isTag.calls a0_0 false _ A33.out).mono ?_); rintro e w' ⟨rfl, ⟨nd, rfl⟩⟩; refine ⟨_, rfl, ?_⟩))
          go_ret
          exact ⟨au8_1, bl_⟩

/-! ### impl_SegmentsText_1: function 92 -/
def impl_SegmentsText_1.f (k : Nat) (a0_0 : ByteArray) (l0_1 : List (S102)) : Option (Bool) := (impl_SegmentRight.f k a0_0 l0_1).bind fun t242 => (some (!t242))
theorem impl_SegmentsText_1.mono : ∀ a0 a1 k, LeO (impl_SegmentsText_1.f k a0 a1) (impl_SegmentsText_1.f (k + 1) a0 a1) := by
  intro a0 a1 k
  unfold impl_SegmentsText_1.f
  repeat' first
      | (with_reducible exact impl_SegmentRight.mono _ _ _)
      | (with_reducible exact LeO.refl _)
      | (with_reducible exact LeO.none _)
      | (with_reducible refine LeO.ite ?_ ?_)
      | (with_reducible refine LeO.bind ?_ (fun _ => ?_))
      | exact impl_SegmentRight.mono _ _ _
      | exact LeO.none _
      | refine LeO.ite ?_ ?_
      | refine LeO.bind ?_ (fun _ => ?_)
set_option maxHeartbeats 8000000 in
set_option maxRecDepth 100000 in
theorem impl_SegmentsText_1.calls (k : Nat) (a0_0 : ByteArray) (A0_1 : Option Addr) (c0_1 : Nat) (l0_1 : List (S102)) (r : Bool) (w : World) (hr0_1 : Kd.C k102 w A0_1 l0_1.length l0_1) (hc0_1 : l0_1.length ≤ c0_1) (h : impl_SegmentsText_1.f k a0_0 l0_1 = some r) :
    Calls Try.prog 92 #[.agg #[.string a0_0, .slice A0_1 l0_1.length c0_1]] w fun e w' => e = .returned (.bool r) ∧ Below w.heap.size w w' := by
  have hu59 := Try.underlying59
  have HR0_1 := Aside0.mk hr0_1
  have HC0_1 := Aside0.mk hc0_1
  clear hr0_1 hc0_1
  have HB := Aside0.mk (Below.refl w.heap.size w)
  have H : ((impl_SegmentRight.f k a0_0 l0_1).bind fun t242 => (some (!t242))) = some r := h
  clear h
  replace H := Option.bind_eq_some_iff.mp H
  obtain ⟨t242, A20, H⟩ := H
  replace H : (some (!t242)) = some r := H
  have A2 := Aside0.mk A20
  clear A20
  obtain rfl := Option.some.inj H
  go_enter Try.func92, Try.ntmps92
  go_wp2_with (first | ((with_reducible refine gate_dst (N := 1) rfl ?_); refine box_event ?hg (N := 1) ?hd (cs := #[.string a0_0, .slice A0_1 l0_1.length c0_1]) (t := 59) ?hr ?_; (case hd => rfl); (case hg => rfl); (case hr => exact hr_); intro gb241 hg w3 hbox hb; have n0_ := Aside0.mk (below_step bl_ hb); have n1_ := Aside0.mk (hbox); have n2_ := Aside0.mk (gw_ hg bl_); have n3_ := Aside0.mk (gw_ hg bl_); clear HB; have HB := n0_; have BK241 := n1_; have GW241 := n2_; have GE241 := n3_; clear n0_ n1_ n2_ n3_; clear hb hbox hg; obtain ⟨hcz4_0, hcz4_1, hfz4_0, hfz4_1⟩ := cellsF2 BK241.out) | ((with_reducible refine gate_callee (f := 36) rfl ?_); refine gl_ 4 Try.func36 #[.agg #[.string a0_0, .slice A0_1 l0_1.length c0_1]] ?_ rfl rfl rfl rfl; (with_reducible refine (impl_SegmentRight.calls k a0_0 _ _ l0_1 t242 _ ?side1 ?side2 A2.out).mono ?_); (case side1 => repeat (first | exact (Kd.C_below HR0_1.out HB.out) | (with_reducible refine Kd.C_alloc ?_ _) | (with_reducible refine Kd.C_drewN ?_ _) | (with_reducible refine Kd.C_drew ?_))); (case side2 => exact HC0_1.out); rintro e w5 ⟨rfl, hb⟩; refine ⟨_, rfl, ?_⟩; have n0_ := Aside0.mk (blkb_ BK241 hb); have n1_ := Aside0.mk (below_step bl_ hb); clear BK241; clear HB; have BK241 := n0_; have HB := n1_; clear n0_ n1_; (try clear hb); (try clear hb2); (try clear hk); (try clear hi)))
  go_ret
  exact ⟨au8_1, bl_⟩

/-! ### impl_longText_1: function 100 -/
def impl_longText_1.f (a0 : ByteArray) : Option (Bool) := some (decide ((a0.size : Int) > 20000))
set_option maxHeartbeats 8000000 in
set_option maxRecDepth 100000 in
theorem impl_longText_1.calls (a0 : ByteArray) (r : Bool) (w : World) (h : impl_longText_1.f a0 = some r) :
    Calls Try.prog 100 #[.string a0] w fun e w' => e = .returned (.bool r) ∧ Drawn0 w w' := by
  have H : (some (decide ((a0.size : Int) > 20000))) = some r := h
  clear h
  obtain rfl := Option.some.inj H
  go_enter Try.func100, Try.ntmps100
  go_wp2
  go_ret
  exact ⟨er_, dn_⟩

/-! ### slices_IndexFunc_string_string__impl_longText_1: function 111 -/
def slices_IndexFunc_string_string__impl_longText_1.l0 : Nat → List ByteArray → Int → Int → Option (Int)
  | 0, _, _, _ => none
  | k + 1, x0, x7, x8 => if x8 < x7 then (if 0 ≤ x8 then (if x8 < (x0.length : Int) then ((impl_longText_1.f (rdOf ByteArray.empty x0 x8)).bind fun t244 => (if t244 = true then (some x8) else (slices_IndexFunc_string_string__impl_longText_1.l0 k x0 x7 (wrap64 (x8 + 1))))) else (none)) else (none)) else (some (-1))
def slices_IndexFunc_string_string__impl_longText_1.f (k : Nat) (l0 : List ByteArray)  : Option (Int) := slices_IndexFunc_string_string__impl_longText_1.l0 k l0 (l0.length : Int) 0
theorem slices_IndexFunc_string_string__impl_longText_1.mono_l : ∀ k, (∀ y0 y1 y2, LeO (slices_IndexFunc_string_string__impl_longText_1.l0 k y0 y1 y2) (slices_IndexFunc_string_string__impl_longText_1.l0 (k + 1) y0 y1 y2))
  | 0 => fun _ _ _ r h => by simp [slices_IndexFunc_string_string__impl_longText_1.l0] at h
  | k + 1 => by
    have ih0 := slices_IndexFunc_string_string__impl_longText_1.mono_l k
    · intro y0 y1 y2
      unfold slices_IndexFunc_string_string__impl_longText_1.l0
      repeat' first
      | (with_reducible exact ih0 _ _ _)
      | (with_reducible exact LeO.refl _)
      | (with_reducible exact LeO.none _)
      | (with_reducible refine LeO.ite ?_ ?_)
      | (with_reducible refine LeO.bind ?_ (fun _ => ?_))
      | exact ih0 _ _ _
      | exact LeO.none _
      | refine LeO.ite ?_ ?_
      | refine LeO.bind ?_ (fun _ => ?_)
theorem slices_IndexFunc_string_string__impl_longText_1.mono : ∀ a0 k, LeO (slices_IndexFunc_string_string__impl_longText_1.f k a0) (slices_IndexFunc_string_string__impl_longText_1.f (k + 1) a0) := by
  intro a0 k
  have ih0 := slices_IndexFunc_string_string__impl_longText_1.mono_l k
  unfold slices_IndexFunc_string_string__impl_longText_1.f
  repeat' first
      | (with_reducible exact ih0 _ _ _)
      | (with_reducible exact LeO.refl _)
      | (with_reducible exact LeO.none _)
      | (with_reducible refine LeO.ite ?_ ?_)
      | (with_reducible refine LeO.bind ?_ (fun _ => ?_))
      | exact ih0 _ _ _
      | exact LeO.none _
      | refine LeO.ite ?_ ?_
      | refine LeO.bind ?_ (fun _ => ?_)
set_option maxHeartbeats 8000000 in
set_option maxRecDepth 100000 in
theorem slices_IndexFunc_string_string__impl_longText_1.calls (k : Nat) (A0 : Option Addr) (c0 : Nat) (l0 : List ByteArray)  (r : Int) (w : World) (hr0 : Kd.C Kd.string w A0 l0.length l0) (hc0 : l0.length ≤ c0) (h : slices_IndexFunc_string_string__impl_longText_1.f k l0 = some r) :
    Calls Try.prog 111 #[.slice A0 l0.length c0, .func (.func 100) #[] #[]] w fun e w' => e = .returned (.int .i64 r) ∧ Drawn0 w w' := by
  have HR0 := Aside0.mk hr0
  have HC0 := Aside0.mk hc0
  clear hr0 hc0
  have H : (slices_IndexFunc_string_string__impl_longText_1.l0 k l0 (l0.length : Int) 0) = some r := h
  clear h
  have H' := Aside0.mk H
  clear H
  go_enter Try.func111, Try.ntmps111
  go_wp2
  go_loopg [8] k (fun kq v8 w' => ∃ (x8_1 : Int), v8 = .int .i64 x8_1 ∧ Aside0 (slices_IndexFunc_string_string__impl_longText_1.l0 kq l0 (l0.length : Int) x8_1 = some r) ∧ Aside0 (kq ≤ k) ∧ Drawn0 w w')
  case atStart => exact ⟨(0), er_, H', ⟨Nat.le_refl _⟩, dn_⟩
  case round =>
    clear H'
    try clear c1
    try clear p2
    obtain ⟨x8_1, rfl, HA, HK1, ⟨m1, rfl⟩⟩ := hrel
    cases gk with
    | zero => exact absurd HA.out (by simp [slices_IndexFunc_string_string__impl_longText_1.l0])
    | succ k1 =>
      have H := HA.out
      clear HA
      simp only [slices_IndexFunc_string_string__impl_longText_1.l0] at H
      by_cases c3 : x8_1 < (l0.length : Int)
      · rw [if_pos c3] at H
        have c3b0 : decide (x8_1 < (l0.length : Int)) = true := decide_eq_true c3
        clear c3
        by_cases c4 : 0 ≤ x8_1
        · rw [if_pos c4] at H
          have c4b0 : decide (0 ≤ x8_1) = true := decide_eq_true c4
          clear c4
          by_cases c5 : x8_1 < (l0.length : Int)
          · rw [if_pos c5] at H
            have c5b0 : decide (x8_1 < (l0.length : Int)) = true := decide_eq_true c5
            clear c5
            replace H := Option.bind_eq_some_iff.mp H
            obtain ⟨t244, A60, H⟩ := H
            replace H : (if t244 = true then (some x8_1) else (slices_IndexFunc_string_string__impl_longText_1.l0 k1 l0 (l0.length : Int) (wrap64 (x8_1 + 1)))) = some r := H
            have A6 := Aside0.mk A60
            clear A60
            by_cases c7 : t244 = true
            · subst c7
              have H1 : (some x8_1) = some r := by rw [if_pos rfl] at H; exact H
              clear H
              have H := H1
              clear H1
              obtain rfl := Option.some.inj H
              have p243 : 0 ≤ (x8_1 : Int) := of_decide_eq_true as_
              have q243 : x8_1 < (l0.length : Int) := of_decide_eq_true as_
              obtain ⟨ad243, e243, hx243_0⟩ := Kd.at_string HR0.out x8_1 p243 q243
              cases e243
              replace p243 := eq_true p243
              replace q243 := eq_true q243
              go_wp2_with (first | (go_at_call 100; (with_reducible refine (impl_longText_1.calls (rdOf ByteArray.empty l0 x8_1) true _ A6.out).mono ?_); rintro e w' ⟨rfl, ⟨nd, rfl⟩⟩))
              go_ret
              exact ⟨er_, dn_⟩
            · replace c7 := Bool.eq_false_iff.mpr c7
              subst c7
              have H1 : (slices_IndexFunc_string_string__impl_longText_1.l0 k1 l0 (l0.length : Int) (wrap64 (x8_1 + 1))) = some r := by rw [if_neg (show ¬ (false = true) by decide)] at H; exact H
              clear H
              have H := H1
              clear H1
              have H' := Aside0.mk H
              clear H
              have p243 : 0 ≤ (x8_1 : Int) := of_decide_eq_true as_
              have q243 : x8_1 < (l0.length : Int) := of_decide_eq_true as_
              obtain ⟨ad243, e243, hx243_0⟩ := Kd.at_string HR0.out x8_1 p243 q243
              cases e243
              replace p243 := eq_true p243
              replace q243 := eq_true q243
              go_wp2_with (first | (go_at_call 100; (with_reducible refine (impl_longText_1.calls (rdOf ByteArray.empty l0 x8_1) false _ A6.out).mono ?_); rintro e w' ⟨rfl, ⟨nd, rfl⟩⟩))
              go_roundg k1
              case measure => have := HK1.out; omega
              case rel => exact ⟨(wrap64 (x8_1 + 1)), er_, H', ⟨by have := HK1.out; omega⟩, dn_⟩
          · rw [if_neg c5] at H
            exact absurd H (by simp)
        · rw [if_neg c4] at H
          exact absurd H (by simp)
      · rw [if_neg c3] at H
        have c3b0 : decide (x8_1 < (l0.length : Int)) = false := decide_eq_false c3
        clear c3
        obtain rfl := Option.some.inj H
        go_wp2
        go_ret
        exact ⟨er_, dn_⟩

end Go.Proofs.Ytchoalagkcdbhaa.PFnExactSegmentsText
