-- printed by a program of this session (wip/xp/xprint.py) out of the translation; Lean checks it
import Derived.Test.YtlghcbmkhdibdaaGreatDoorPFnEnvelopesx0
namespace Go.Proofs.YtlghcbmkhdibdaaGreatDoor.PFnEnvelopes
open Go.RowKit Go.Proofs.YtlghcbmkhdibdaaGreatDoorW.PrintWords Go.Proofs.YtlghcbmkhdibdaaGreatDoorW.PrintLast Go.Proofs.YtlghcbmkhdibdaaGreatDoorW.PrintMore
attribute [local go_sem] max2_int min2_int max_two min_two max_three min_three max_four min_four   -- for this text's walks alone
set_option linter.unusedVariables false
set_option linter.unusedSimpArgs false
set_option maxHeartbeats 8000000
set_option maxRecDepth 100000
theorem au1_3 {p : Prop} (h : p := by repeat (first | exact fN.out | (with_reducible refine Kd.C_alloc ?_ _) | (with_reducible refine Kd.C_drewN ?_ _) | (with_reducible refine Kd.C_drew ?_))) : p := h
theorem au1_6 {p : Prop} (h : p := by (with_reducible repeat (first | apply Kd.S_alloc | apply Kd.S_drewN | apply Kd.S_drew)); exact eg.out) : p := h
theorem au1_10 {p : Prop} (h : p := by (with_reducible repeat (first | apply Kd.S_alloc | apply Kd.S_drewN | apply Kd.S_drew)); exact gW.out) : p := h
theorem au1_12 {p : Prop} (h : p := by repeat (first | exact (Kd.C_below qx.out HB.out) | (with_reducible refine Kd.C_alloc ?_ _) | (with_reducible refine Kd.C_drewN ?_ _) | (with_reducible refine Kd.C_drew ?_))) : p := h
theorem au1_13 {p : Prop} (h : p := by repeat (first | exact (Kd.C_below qy.out HB.out) | (with_reducible refine Kd.C_alloc ?_ _) | (with_reducible refine Kd.C_drewN ?_ _) | (with_reducible refine Kd.C_drew ?_))) : p := h
theorem au1_14 {p : Prop} (h : p := by repeat (first | exact (Kd.C_below qz.out HB.out) | (with_reducible refine Kd.C_alloc ?_ _) | (with_reducible refine Kd.C_drewN ?_ _) | (with_reducible refine Kd.C_drew ?_))) : p := h
theorem au1_15 {p : Prop} (h : p := by first | rfl | (simp [errW_none, errW_some] <;> rfl) | (simp only [← qA]; first | rfl | (simp [errW_none, errW_some] <;> rfl)) | (simp [*, errW_none, errW_some] <;> rfl)) : p := h
theorem au1_18 {p : Prop} (h : p := by repeat (first | (with_reducible first | exact Qj.out | apply below_alloc | apply pw_below_drewN | apply below_drew1) | exact Qj.out)) : p := h
theorem au1_19 {p : Prop} (h : p := by (with_reducible repeat (first | apply Kd.S_alloc | apply Kd.S_drewN | apply Kd.S_drew)); exact aW.out) : p := h
theorem au1_2 {p : Prop} (h : p := by exact (by (with_reducible repeat (first | apply Kd.S_alloc | apply Kd.S_drewN | apply Kd.S_drew)); exact Kd.S_mono bk.out (fun k_ hk => ⟨hk.1.2.2, fun vO => Nat.not_le.2 ax9_ vO.1⟩))) : p := h
theorem tg1_1 {p : Prop} (h : p := by exact ⟨(wrap64 (aE + 1)), er_, H', ⟨by have := cK.out; omega⟩, dn_⟩) : p := h
theorem tg1_2 {p : Prop} (h : p := by repeat' with_reducible first | exact ef _ _ _ | exact F119.mono _ _ | exact LeO.refl _ | exact LeO.none _ | refine LeO.ite ?_ ?_ | refine LeO.bind ?_ (fun _ => ?_)) : p := h
theorem tg1_3 {p : Prop} (h : p := by exact ⟨(wrap64 (aX + 1)), er_, H', ⟨by have := cK.out; omega⟩, dn_⟩) : p := h
theorem tg1_4 {p : Prop} (h : p := by repeat' with_reducible first | exact ef _ _ _ _ _ | exact kW _ _ _ _ _ _ _ _ _ | exact F118.mono _ _ | exact LeO.refl _ | exact LeO.none _ | refine LeO.ite ?_ ?_ | refine LeO.bind ?_ (fun _ => ?_)) : p := h
theorem tg1_5 {p : Prop} (h : p := by exact ⟨(wrap64 (bc + 1)), er_, H', ⟨by have := cK.out; have := Qk.out; omega⟩, ⟨bk_ eD⟩, ⟨bl_⟩⟩) : p := h
theorem tg1_8 {p : Prop} (h : p := by exact ⟨(wrap64 (aX + 1)), er_, H', ⟨by have := cK.out; omega⟩, ⟨bl_⟩⟩) : p := h
def F56.f (a0 : Int) (a1 : Int) (a2 : Int) : Option (Bool) := if a1 ≤ a0 then (some (decide (a0 ≤ a2))) else (some false)
theorem F56.calls {a0 a1 a2 : Int} {r : Bool} {w : World} (h : F56.f a0 a1 a2 = some r) :
  Calls Tryz.prog 56 #[.int .i64 a0, .int .i64 a1, .int .i64 a2] w fun e w' => e = .returned (.bool r) ∧ Drawn0 w w' := by
 have H := h; unfold F56.f at H
 clear h
 replace H := it_ H; rcases H with ⟨c4b0, H⟩ | ⟨c4b0, H⟩
 ·obtain rfl := Option.some.inj H
  go_enter Tryz.func56, Tryz.ntmps56
  go_wp2
  go_ret
  exact ⟨er_, dn_⟩
 obtain rfl := Option.some.inj H
 go_enter Tryz.func56, Tryz.ntmps56
 go_wp2
 go_ret
 exact ⟨er_, dn_⟩
def F90.f (a0 : Int) : Option (Bool) := if a0 ≥ 65 then (some (decide (a0 ≤ 90))) else (some false)
theorem F90.calls {a0 : Int} {r : Bool} {w : World} (h : F90.f a0 = some r) :
  Calls Tryz.prog 90 #[.int .u8 a0] w fun e w' => e = .returned (.bool r) ∧ Drawn0 w w' := by
 have H := h; unfold F90.f at H
 clear h
 replace H := it_ H; rcases H with ⟨(c2b0 : decide (65 ≤ a0) = true), H⟩ | ⟨(c2b0 : decide (65 ≤ a0) = false), H⟩
 ·obtain rfl := Option.some.inj H
  go_enter Tryz.func90, Tryz.ntmps90
  go_wp2
  go_ret
  exact ⟨er_, dn_⟩
 obtain rfl := Option.some.inj H
 go_enter Tryz.func90, Tryz.ntmps90
 go_wp2
 go_ret
 exact ⟨er_, dn_⟩
def F91.f (a0 : Int) : Option (Bool) := if a0 ≥ 48 then (some (decide (a0 ≤ 57))) else (some false)
theorem F91.calls {a0 : Int} {r : Bool} {w : World} (h : F91.f a0 = some r) :
  Calls Tryz.prog 91 #[.int .u8 a0] w fun e w' => e = .returned (.bool r) ∧ Drawn0 w w' := by
 have H := h; unfold F91.f at H
 clear h
 replace H := it_ H; rcases H with ⟨(c2b0 : decide (48 ≤ a0) = true), H⟩ | ⟨(c2b0 : decide (48 ≤ a0) = false), H⟩
 ·obtain rfl := Option.some.inj H
  go_enter Tryz.func91, Tryz.ntmps91
  go_wp2
  go_ret
  exact ⟨er_, dn_⟩
 obtain rfl := Option.some.inj H
 go_enter Tryz.func91, Tryz.ntmps91
 go_wp2
 go_ret
 exact ⟨er_, dn_⟩
def F54.l0 : Nat → ByteArray → Int → Int → Option (Bool)
  | 0, _, _, _ => none
  | k + 1, x0, x5, x6 => if x6 < x5 then (if 0 ≤ x6 then (if x6 < (x0.size : Int) then ((F90.f (bt x0 x6)).bind fun ID => (if ID = true then (F54.l0 k x0 x5 (wrap64 (x6 + 1))) else (if x6 = 0 then (some false) else ((F91.f (bt x0 x6)).bind fun IE => (if IE = true then (F54.l0 k x0 x5 (wrap64 (x6 + 1))) else (if (bt x0 x6) = 45 then (F54.l0 k x0 x5 (wrap64 (x6 + 1))) else (some false))))))) else (none)) else (none)) else ((F56.f (x0.size : Int) 1 12).bind fun IF => (some IF))
def F54.f (k : Nat) (a0 : ByteArray) : Option (Bool) := F54.l0 k a0 (a0.size : Int) 0
theorem F54.calls {k : Nat} {a0 : ByteArray} {r : Bool} {w : World} (h : F54.f k a0 = some r) :
  Calls Tryz.prog 54 #[.string a0] w fun e w' => e = .returned (.bool r) ∧ Drawn0 w w' := by
 have H := h; unfold F54.f at H
 clear h
 have H' := am_ H
 clear H
 go_enter Tryz.func54, Tryz.ntmps54
 go_wp2
 go_loopg [6] k (fun kq v6 w' => ∃ (aE : Int), v6 = .int .i64 aE ∧ Aside0 (F54.l0 kq a0 (a0.size : Int) aE = some r) ∧ Aside0 (kq ≤ k) ∧ Drawn0 w w')
 case atStart => exact ⟨(0), er_, H', ⟨Nat.le_refl _⟩, dn_⟩
 case round =>
  clear H'
  obtain ⟨aE, rfl, HA, cK, ⟨m1, rfl⟩⟩ := hrel
  cases gk with
  | zero => exact absurd HA.out (by simp [F54.l0])
  | succ k1 =>
   have H := HA.out
   clear HA
   simp only [F54.l0] at H
   replace H := it_ H; rcases H with ⟨c2b0, H⟩ | ⟨c2b0, H⟩
   rotate_left
   ·replace H := bi_ H; rcases H with ⟨IF, IG, H⟩
    obtain rfl := Option.some.inj H
    go_wp2_with (first | ((with_reducible refine gate_callee (f := 56) rfl ?_); refine gl_ 34 Tryz.func56 #[.int .i64 (a0.size : Int), .int .i64 1, .int .i64 12] ?_ rfl rfl rfl rfl; (with_reducible refine (F56.calls IG.out).mono ?_); rintro e w' ⟨rfl, ⟨nd, rfl⟩⟩; refine ⟨_, rfl, ?_⟩))
    go_ret
    exact ⟨er_, dn_⟩
   replace H := itn_ H; rcases H with ⟨c3b0, H⟩
   replace H := itn_ H; rcases H with ⟨c4b0, H⟩
   replace H := bi_ H; rcases H with ⟨ID, A6, H⟩
   replace H := ib_ H; rcases H with ⟨rfl, H⟩ | ⟨rfl, H⟩
   ·have H' := am_ H
    clear H
    have p5 : 0 ≤ (aE : Int) := od_
    have q5 : aE < (a0.size : Int) := od_
    have fk := bt_at a0 aE
    replace p5 := eq_true p5
    replace q5 := eq_true q5
    go_wp2_with (first | ((with_reducible refine gate_callee (f := 90) rfl ?_); refine gl_ 12 Tryz.func90 #[.int .u8 (bt a0 aE)] ?_ rfl rfl rfl rfl; (with_reducible refine (F90.calls A6.out).mono ?_); rintro e w' ⟨rfl, ⟨nd, rfl⟩⟩; refine ⟨_, rfl, ?_⟩))
    go_roundg k1
    case measure => have := cK.out; omega
    case rel => exact tg1_1
   by_cases c8 : aE = 0
   ·rw [if_pos c8] at H
    have c8b0 : (aE == 0) = true := beq_iff_eq.mpr c8
    have c8b1 : (aE != 0) = false := bne_eq_false_iff_eq.mpr c8
    clear c8
    obtain rfl := Option.some.inj H
    have p5 : 0 ≤ (aE : Int) := od_
    have q5 : aE < (a0.size : Int) := od_
    have fk := bt_at a0 aE
    replace p5 := eq_true p5
    replace q5 := eq_true q5
    go_wp2_with (first | ((with_reducible refine gate_callee (f := 90) rfl ?_); refine gl_ 12 Tryz.func90 #[.int .u8 (bt a0 aE)] ?_ rfl rfl rfl rfl; (with_reducible refine (F90.calls A6.out).mono ?_); rintro e w' ⟨rfl, ⟨nd, rfl⟩⟩; refine ⟨_, rfl, ?_⟩))
    go_ret
    exact ⟨er_, dn_⟩
   rw [if_neg c8] at H
   have c8b0 : (aE == 0) = false := beq_eq_false_iff_ne.mpr c8
   have c8b1 : (aE != 0) = true := bne_iff_ne.mpr c8
   replace H := bi_ H; rcases H with ⟨IE, qB, H⟩
   replace H := ib_ H; rcases H with ⟨rfl, H⟩ | ⟨rfl, H⟩
   ·have H' := am_ H
    clear H
    have p5 : 0 ≤ (aE : Int) := od_
    have q5 : aE < (a0.size : Int) := od_
    have fk := bt_at a0 aE
    replace p5 := eq_true p5
    replace q5 := eq_true q5
    go_wp2_with (first | ((with_reducible refine gate_callee (f := 90) rfl ?_); refine gl_ 12 Tryz.func90 #[.int .u8 (bt a0 aE)] ?_ rfl rfl rfl rfl; (with_reducible refine (F90.calls A6.out).mono ?_); rintro e w' ⟨rfl, ⟨nd, rfl⟩⟩; refine ⟨_, rfl, ?_⟩; have p9 : 0 ≤ (aE : Int) := od_; have q9 : aE < (a0.size : Int) := od_; have Uz := bt_at a0 aE; replace p9 := eq_true p9; replace q9 := eq_true q9) | (go_at_call 91; (with_reducible refine (F91.calls qB.out).mono ?_); rintro e w' ⟨rfl, ⟨nd, rfl⟩⟩))
    go_roundg k1
    case measure => have := cK.out; omega
    case rel => exact tg1_1
   by_cases Ex : (bt a0 aE) = 45
   rotate_left
   ·rw [if_neg Ex] at H
    have c13b0 : ((bt a0 aE) == 45) = false := beq_eq_false_iff_ne.mpr Ex
    have c13b1 : ((bt a0 aE) != 45) = true := bne_iff_ne.mpr Ex
    obtain rfl := Option.some.inj H
    have p5 : 0 ≤ (aE : Int) := od_
    have q5 : aE < (a0.size : Int) := od_
    have fk := bt_at a0 aE
    replace p5 := eq_true p5
    replace q5 := eq_true q5
    go_wp2_with (first | ((with_reducible refine gate_callee (f := 90) rfl ?_); refine gl_ 12 Tryz.func90 #[.int .u8 (bt a0 aE)] ?_ rfl rfl rfl rfl; (with_reducible refine (F90.calls A6.out).mono ?_); rintro e w' ⟨rfl, ⟨nd, rfl⟩⟩; refine ⟨_, rfl, ?_⟩; have p9 : 0 ≤ (aE : Int) := od_; have q9 : aE < (a0.size : Int) := od_; have Uz := bt_at a0 aE; replace p9 := eq_true p9; replace q9 := eq_true q9) | (go_at_call 91; (with_reducible refine (F91.calls qB.out).mono ?_); rintro e w' ⟨rfl, ⟨nd, rfl⟩⟩; have eV : 0 ≤ (aE : Int) := od_; have eE : aE < (a0.size : Int) := od_; have hx12 := bt_at a0 aE; replace eV := eq_true eV; replace eE := eq_true eE))
    go_ret
    exact ⟨er_, dn_⟩
   rw [if_pos Ex] at H
   have c13b0 : ((bt a0 aE) == 45) = true := beq_iff_eq.mpr Ex
   have c13b1 : ((bt a0 aE) != 45) = false := bne_eq_false_iff_eq.mpr Ex
   clear Ex
   have H' := am_ H
   clear H
   have p5 : 0 ≤ (aE : Int) := od_
   have q5 : aE < (a0.size : Int) := od_
   have fk := bt_at a0 aE
   replace p5 := eq_true p5
   replace q5 := eq_true q5
   go_wp2_with (first | ((with_reducible refine gate_callee (f := 90) rfl ?_); refine gl_ 12 Tryz.func90 #[.int .u8 (bt a0 aE)] ?_ rfl rfl rfl rfl; (with_reducible refine (F90.calls A6.out).mono ?_); rintro e w' ⟨rfl, ⟨nd, rfl⟩⟩; refine ⟨_, rfl, ?_⟩; have p9 : 0 ≤ (aE : Int) := od_; have q9 : aE < (a0.size : Int) := od_; have Uz := bt_at a0 aE; replace p9 := eq_true p9; replace q9 := eq_true q9) | (go_at_call 91; (with_reducible refine (F91.calls qB.out).mono ?_); rintro e w' ⟨rfl, ⟨nd, rfl⟩⟩; have eV : 0 ≤ (aE : Int) := od_; have eE : aE < (a0.size : Int) := od_; have hx12 := bt_at a0 aE; replace eV := eq_true eV; replace eE := eq_true eE))
   go_roundg k1
   case measure => have := cK.out; omega
   case rel => exact tg1_1
def F55.f (a0 : Int) : Option (Bool) := (F56.f a0 1 999999).bind fun IH => (some IH)
theorem F55.calls {a0 : Int} {r : Bool} {w : World} (h : F55.f a0 = some r) :
  Calls Tryz.prog 55 #[.int .i64 a0] w fun e w' => e = .returned (.bool r) ∧ Drawn0 w w' := by
 have H := h; unfold F55.f at H
 clear h
 replace H := bi_ H; rcases H with ⟨IH, A2, H⟩
 obtain rfl := Option.some.inj H
 go_enter Tryz.func55, Tryz.ntmps55
 go_wp2_with (first | ((with_reducible refine gate_callee (f := 56) rfl ?_); refine gl_ 4 Tryz.func56 #[.int .i64 a0, .int .i64 1, .int .i64 999999] ?_ rfl rfl rfl rfl; (with_reducible refine (F56.calls A2.out).mono ?_); rintro e w' ⟨rfl, ⟨nd, rfl⟩⟩; refine ⟨_, rfl, ?_⟩))
 go_ret
 exact ⟨er_, dn_⟩
def F133.l0 : Nat → ByteArray → Int → Int → Option (Bool)
  | 0, _, _, _ => none
  | k + 1, x0, x5, x6 => if x6 < x5 then (if 0 ≤ x6 then (if x6 < (x0.size : Int) then (if (bt x0 x6) < 32 then (some false) else (if (bt x0 x6) > 126 then (some false) else (F133.l0 k x0 x5 (wrap64 (x6 + 1))))) else (none)) else (none)) else (some true)
def F133.f (k : Nat) (a0 : ByteArray) : Option (Bool) := F133.l0 k a0 (a0.size : Int) 0
theorem F133.mono_l : ∀ k, (∀ y0 y1 y2, LeO (F133.l0 k y0 y1 y2) (F133.l0 (k + 1) y0 y1 y2))
 | 0 => fun _ _ _ r h => by simp [F133.l0] at h
 | k + 1 => by
  have ef := F133.mono_l k
  intro y0 y1 y2
  unfold F133.l0
  exact ax48_
theorem F133.mono : ∀ a0 k, LeO (F133.f k a0) (F133.f (k + 1) a0) := by
 intro a0 k
 have ef := F133.mono_l k
 unfold F133.f
 exact ax48_
theorem F133.calls {k : Nat} {a0 : ByteArray} {r : Bool} {w : World} (h : F133.f k a0 = some r) :
  Calls Tryz.prog 133 #[.string a0] w fun e w' => e = .returned (.bool r) ∧ Drawn0 w w' := by
 have H := h; unfold F133.f at H
 clear h
 have H' := am_ H
 clear H
 go_enter Tryz.func133, Tryz.ntmps133
 go_wp2
 go_loopg [6] k (fun kq v6 w' => ∃ (aE : Int), v6 = .int .i64 aE ∧ Aside0 (F133.l0 kq a0 (a0.size : Int) aE = some r) ∧ Aside0 (kq ≤ k) ∧ Drawn0 w w')
 case atStart => exact ⟨(0), er_, H', ⟨Nat.le_refl _⟩, dn_⟩
 case round =>
  clear H'
  obtain ⟨aE, rfl, HA, cK, ⟨m1, rfl⟩⟩ := hrel
  cases gk with
  | zero => exact absurd HA.out (by simp [F133.l0])
  | succ k1 =>
   have H := HA.out
   clear HA
   simp only [F133.l0] at H
   replace H := it_ H; rcases H with ⟨c2b0, H⟩ | ⟨c2b0, H⟩
   rotate_left
   ·obtain rfl := Option.some.inj H
    go_wp2
    go_ret
    exact ⟨er_, dn_⟩
   replace H := itn_ H; rcases H with ⟨c3b0, H⟩
   replace H := itn_ H; rcases H with ⟨c4b0, H⟩
   replace H := it_ H; rcases H with ⟨c6b0, H⟩ | ⟨c6b0, H⟩
   ·obtain rfl := Option.some.inj H
    have p5 : 0 ≤ (aE : Int) := od_
    have q5 : aE < (a0.size : Int) := od_
    have fk := bt_at a0 aE
    replace p5 := eq_true p5
    replace q5 := eq_true q5
    go_wp2
    go_ret
    exact ⟨er_, dn_⟩
   replace H := it_ H; rcases H with ⟨(c8b0 : decide (126 < (bt a0 aE)) = true), H⟩ | ⟨(c8b0 : decide (126 < (bt a0 aE)) = false), H⟩
   ·obtain rfl := Option.some.inj H
    have p5 : 0 ≤ (aE : Int) := od_
    have q5 : aE < (a0.size : Int) := od_
    have fk := bt_at a0 aE
    replace p5 := eq_true p5
    replace q5 := eq_true q5
    have p7 : 0 ≤ (aE : Int) := od_
    have q7 : aE < (a0.size : Int) := od_
    have nF := bt_at a0 aE
    replace p7 := eq_true p7
    replace q7 := eq_true q7
    go_wp2
    go_ret
    exact ⟨er_, dn_⟩
   have H' := am_ H
   clear H
   have p5 : 0 ≤ (aE : Int) := od_
   have q5 : aE < (a0.size : Int) := od_
   have fk := bt_at a0 aE
   replace p5 := eq_true p5
   replace q5 := eq_true q5
   have p7 : 0 ≤ (aE : Int) := od_
   have q7 : aE < (a0.size : Int) := od_
   have nF := bt_at a0 aE
   replace p7 := eq_true p7
   replace q7 := eq_true q7
   go_wp2
   go_roundg k1
   case measure => have := cK.out; omega
   case rel => exact tg1_1
def F120.f (k : Nat) (a0 : ByteArray) : Option (Bool) := if (a0.size : Int) ≤ 40 then ((F133.f k a0).bind fun II => (some II)) else (some false)
theorem F120.mono : ∀ a0 k, LeO (F120.f k a0) (F120.f (k + 1) a0) := by
 intro a0 k
 unfold F120.f
 repeat' with_reducible first | exact F133.mono _ _ | exact LeO.refl _ | exact LeO.none _ | refine LeO.ite ?_ ?_ | refine LeO.bind ?_ (fun _ => ?_)
theorem F120.calls {k : Nat} {a0 : ByteArray} {r : Bool} {w : World} (h : F120.f k a0 = some r) :
  Calls Tryz.prog 120 #[.string a0] w fun e w' => e = .returned (.bool r) ∧ Drawn0 w w' := by
 have H := h; unfold F120.f at H
 clear h
 replace H := it_ H; rcases H with ⟨c2b0, H⟩ | ⟨c2b0, H⟩
 rotate_left
 ·have c2b1 : decide (a0.size ≤ 40) = false := n2_ c2b0
  obtain rfl := Option.some.inj H
  go_enter Tryz.func120, Tryz.ntmps120
  go_wp2
  go_ret
  exact ⟨er_, dn_⟩
 have c2b1 : decide (a0.size ≤ 40) = true := n2_ c2b0
 replace H := bi_ H; rcases H with ⟨II, A3, H⟩
 obtain rfl := Option.some.inj H
 go_enter Tryz.func120, Tryz.ntmps120
 go_wp2_with (first | (go_at_call 133; (with_reducible refine (F133.calls A3.out).mono ?_); rintro e w' ⟨rfl, ⟨nd, rfl⟩⟩))
 go_ret
 exact ⟨er_, dn_⟩
def F119.f (k : Nat) (a0 : ByteArray) : Option (Bool) := (F120.f k a0).bind fun IJ => (some (!IJ))
theorem F119.mono : ∀ a0 k, LeO (F119.f k a0) (F119.f (k + 1) a0) := by
 intro a0 k
 unfold F119.f
 repeat' with_reducible first | exact F120.mono _ _ | exact LeO.refl _ | exact LeO.none _ | refine LeO.ite ?_ ?_ | refine LeO.bind ?_ (fun _ => ?_)
theorem F119.calls {k : Nat} {a0 : ByteArray} {r : Bool} {w : World} (h : F119.f k a0 = some r) :
  Calls Tryz.prog 119 #[.string a0] w fun e w' => e = .returned (.bool r) ∧ Drawn0 w w' := by
 have H := h; unfold F119.f at H
 clear h
 replace H := bi_ H; rcases H with ⟨IJ, A2, H⟩
 obtain rfl := Option.some.inj H
 go_enter Tryz.func119, Tryz.ntmps119
 go_wp2_with (first | ((with_reducible refine gate_callee (f := 120) rfl ?_); refine gl_ 4 Tryz.func120 #[.string a0] ?_ rfl rfl rfl rfl; (with_reducible refine (F120.calls A2.out).mono ?_); rintro e w' ⟨rfl, ⟨nd, rfl⟩⟩; refine ⟨_, rfl, ?_⟩))
 go_ret
 exact ⟨er_, dn_⟩
def F121.f (a0 : ByteArray) : Option (Bool) := if (a0.size : Int) = 3 then (if 0 < (a0.size : Int) then ((F90.f (bt a0 0)).bind fun IK => (if IK = true then (if 1 < (a0.size : Int) then ((F90.f (bt a0 1)).bind fun IL => (if IL = true then (if 2 < (a0.size : Int) then ((F90.f (bt a0 2)).bind fun IM => (some IM)) else (none)) else (some false))) else (none)) else (some false))) else (none)) else (some false)
theorem F121.calls {a0 : ByteArray} {r : Bool} {w : World} (h : F121.f a0 = some r) :
  Calls Tryz.prog 121 #[.string a0] w fun e w' => e = .returned (.bool r) ∧ Drawn0 w w' := by
 have H := h; unfold F121.f at H
 clear h
 by_cases c2 : (a0.size : Int) = 3
 rotate_left
 ·rw [if_neg c2] at H
  have c2b0 : ((a0.size : Int) == 3) = false := beq_eq_false_iff_ne.mpr c2
  have c2b1 : ((a0.size : Int) != 3) = true := bne_iff_ne.mpr c2
  obtain rfl := Option.some.inj H
  go_enter Tryz.func121, Tryz.ntmps121
  go_wp2
  go_ret
  exact ⟨er_, dn_⟩
 rw [if_pos c2] at H
 have c2b0 : ((a0.size : Int) == 3) = true := beq_iff_eq.mpr c2
 have c2b1 : ((a0.size : Int) != 3) = false := bne_eq_false_iff_eq.mpr c2
 clear c2
 replace H := itn_ H; rcases H with ⟨c3b0, H⟩
 have c3b1 : decide (0 < a0.size) = true := n2_ c3b0
 replace H := bi_ H; rcases H with ⟨IK, A5, H⟩
 replace H := ib_ H; rcases H with ⟨rfl, H⟩ | ⟨rfl, H⟩
 rotate_left
 ·obtain rfl := Option.some.inj H
  have p4 : 0 ≤ (0 : Int) := (by omega)
  have q4 : 0 < a0.size := (by have : (0 : Int) < (a0.size : Int) := od_; omega)
  have gZ : ∀ h : 0 < a0.size, ((a0[0]'h).toNat : Int) = bt a0 0 := bt_at a0 0
  clear p4
  have UA : (0 < (a0.size : Int)) = True := eq_true (of_decide_eq_true as_)
  replace q4 := eq_true q4
  go_enter Tryz.func121, Tryz.ntmps121
  go_wp2_with (first | (go_at_call 90; (with_reducible refine (F90.calls A5.out).mono ?_); rintro e w' ⟨rfl, ⟨nd, rfl⟩⟩))
  go_ret
  exact ⟨er_, dn_⟩
 replace H := itn_ H; rcases H with ⟨c7b0, H⟩
 have c7b1 : decide (1 < a0.size) = true := n2_ c7b0
 replace H := bi_ H; rcases H with ⟨IL, A9, H⟩
 replace H := ib_ H; rcases H with ⟨rfl, H⟩ | ⟨rfl, H⟩
 rotate_left
 ·obtain rfl := Option.some.inj H
  have p4 : 0 ≤ (0 : Int) := (by omega)
  have q4 : 0 < a0.size := (by have : (0 : Int) < (a0.size : Int) := od_; omega)
  have gZ : ∀ h : 0 < a0.size, ((a0[0]'h).toNat : Int) = bt a0 0 := bt_at a0 0
  clear p4
  have UA : (0 < (a0.size : Int)) = True := eq_true (of_decide_eq_true as_)
  replace q4 := eq_true q4
  go_enter Tryz.func121, Tryz.ntmps121
  go_wp2_with (first | (go_at_call 90; (with_reducible refine (F90.calls A5.out).mono ?_); rintro e w' ⟨rfl, ⟨nd, rfl⟩⟩; have p8 : 0 ≤ (1 : Int) := (by omega); have q8 : 1 < a0.size := (by have : (1 : Int) < (a0.size : Int) := od_; omega); have Ob : ∀ h : 1 < a0.size, ((a0[1]'h).toNat : Int) = bt a0 1 := bt_at a0 1; clear p8; have UB : (1 < (a0.size : Int)) = True := eq_true (of_decide_eq_true as_); replace q8 := eq_true q8) | (go_at_call 90; (with_reducible refine (F90.calls A9.out).mono ?_); rintro e w' ⟨rfl, ⟨nd, rfl⟩⟩))
  go_ret
  exact ⟨er_, dn_⟩
 replace H := itn_ H; rcases H with ⟨c11b0, H⟩
 have c11b1 : decide (2 < a0.size) = true := n2_ c11b0
 replace H := bi_ H; rcases H with ⟨IM, H6, H⟩
 obtain rfl := Option.some.inj H
 have p4 : 0 ≤ (0 : Int) := (by omega)
 have q4 : 0 < a0.size := (by have : (0 : Int) < (a0.size : Int) := od_; omega)
 have gZ : ∀ h : 0 < a0.size, ((a0[0]'h).toNat : Int) = bt a0 0 := bt_at a0 0
 clear p4
 have UA : (0 < (a0.size : Int)) = True := eq_true (of_decide_eq_true as_)
 replace q4 := eq_true q4
 go_enter Tryz.func121, Tryz.ntmps121
 go_wp2_with (first | (go_at_call 90; (with_reducible refine (F90.calls A5.out).mono ?_); rintro e w' ⟨rfl, ⟨nd, rfl⟩⟩; have p8 : 0 ≤ (1 : Int) := (by omega); have q8 : 1 < a0.size := (by have : (1 : Int) < (a0.size : Int) := od_; omega); have Ob : ∀ h : 1 < a0.size, ((a0[1]'h).toNat : Int) = bt a0 1 := bt_at a0 1; clear p8; have UB : (1 < (a0.size : Int)) = True := eq_true (of_decide_eq_true as_); replace q8 := eq_true q8) | (go_at_call 90; (with_reducible refine (F90.calls A9.out).mono ?_); rintro e w' ⟨rfl, ⟨nd, rfl⟩⟩; have eV : 0 ≤ (2 : Int) := (by omega); have eE : 2 < a0.size := (by have : (2 : Int) < (a0.size : Int) := od_; omega); have hx12 : ∀ h : 2 < a0.size, ((a0[2]'h).toNat : Int) = bt a0 2 := bt_at a0 2; clear eV; have XP : (2 < (a0.size : Int)) = True := eq_true (of_decide_eq_true as_); replace eE := eq_true eE) | (go_at_call 90; (with_reducible refine (F90.calls H6.out).mono ?_); rintro e w' ⟨rfl, ⟨nd, rfl⟩⟩))
 go_ret
 exact ⟨er_, dn_⟩
def F132.l0 : Nat → List ByteArray → Int → Int → Option (Int)
  | 0, _, _, _ => none
  | k + 1, x0, x7, x8 => if x8 < x7 then (if 0 ≤ x8 then (if x8 < (x0.length : Int) then ((F119.f k (rdOf ByteArray.empty x0 x8)).bind fun IN => (if IN = true then (some x8) else (F132.l0 k x0 x7 (wrap64 (x8 + 1))))) else (none)) else (none)) else (some (-1))
def F132.f (k : Nat) (l0 : List ByteArray)  : Option (Int) := F132.l0 k l0 (l0.length : Int) 0
theorem F132.mono_l : ∀ k, (∀ y0 y1 y2, LeO (F132.l0 k y0 y1 y2) (F132.l0 (k + 1) y0 y1 y2))
 | 0 => fun _ _ _ r h => by simp [F132.l0] at h
 | k + 1 => by
  have ef := F132.mono_l k
  intro y0 y1 y2
  unfold F132.l0
  exact tg1_2
theorem F132.mono : ∀ a0 k, LeO (F132.f k a0) (F132.f (k + 1) a0) := by
 intro a0 k
 have ef := F132.mono_l k
 unfold F132.f
 exact tg1_2
theorem F132.calls {k : Nat} {A0 : Option Addr} {c0 : Nat} {l0 : List ByteArray} {r : Int} {w : World} (bH : Kd.C Kd.string w A0 l0.length l0) (hc0 : l0.length ≤ c0) (h : F132.f k l0 = some r) :
  Calls Tryz.prog 132 #[.slice A0 l0.length c0, .func (.func 119) #[] #[]] w fun e w' => e = .returned (.int .i64 r) ∧ Drawn0 w w' := by
 have fN := am_ bH
 have kt := am_ hc0
 clear bH hc0
 have H := h; unfold F132.f at H
 clear h
 have H' := am_ H
 clear H
 go_enter Tryz.func132, Tryz.ntmps132
 go_wp2
 go_loopg [8] k (fun kq v8 w' => ∃ (aX : Int), v8 = .int .i64 aX ∧ Aside0 (F132.l0 kq l0 (l0.length : Int) aX = some r) ∧ Aside0 (kq ≤ k) ∧ Drawn0 w w')
 case atStart => exact ⟨(0), er_, H', ⟨Nat.le_refl _⟩, dn_⟩
 case round =>
  clear H'
  obtain ⟨aX, rfl, HA, cK, ⟨m1, rfl⟩⟩ := hrel
  cases gk with
  | zero => exact absurd HA.out (by simp [F132.l0])
  | succ k1 =>
   have H := HA.out
   clear HA
   simp only [F132.l0] at H
   replace H := it_ H; rcases H with ⟨c3b0, H⟩ | ⟨c3b0, H⟩
   rotate_left
   ·obtain rfl := Option.some.inj H
    go_wp2
    go_ret
    exact ⟨er_, dn_⟩
   replace H := itn_ H; rcases H with ⟨c4b0, H⟩
   replace H := itn_ H; rcases H with ⟨c5b0, H⟩
   replace H := bi_ H; rcases H with ⟨IN, A6, H⟩
   replace H := ib_ H; rcases H with ⟨rfl, H⟩ | ⟨rfl, H⟩
   ·obtain rfl := Option.some.inj H
    have oH : 0 ≤ (aX : Int) := od_
    have oI : aX < (l0.length : Int) := od_
    obtain ⟨IP, Ey, zB⟩ := Kd.at_string fN.out aX oH oI
    cases Ey
    replace oH := eq_true oH
    replace oI := eq_true oI
    go_wp2_with (first | (go_at_call 119; (with_reducible refine (F119.calls A6.out).mono ?_); rintro e w' ⟨rfl, ⟨nd, rfl⟩⟩))
    go_ret
    exact ⟨er_, dn_⟩
   have H' := am_ H
   clear H
   have oH : 0 ≤ (aX : Int) := od_
   have oI : aX < (l0.length : Int) := od_
   obtain ⟨IP, Ey, zB⟩ := Kd.at_string fN.out aX oH oI
   cases Ey
   replace oH := eq_true oH
   replace oI := eq_true oI
   go_wp2_with (first | (go_at_call 119; (with_reducible refine (F119.calls A6.out).mono ?_); rintro e w' ⟨rfl, ⟨nd, rfl⟩⟩))
   go_roundg k1
   case measure => have := cK.out; omega
   case rel => exact tg1_3
def F118.f (k : Nat) (l0 : List ByteArray)  : Option (Bool) := (F132.f k l0).bind fun IQ => (some (decide (IQ ≥ 0)))
theorem F118.mono : ∀ a0 k, LeO (F118.f k a0) (F118.f (k + 1) a0) := by
 intro a0 k
 unfold F118.f
 repeat' with_reducible first | exact F132.mono _ _ | exact LeO.refl _ | exact LeO.none _ | refine LeO.ite ?_ ?_ | refine LeO.bind ?_ (fun _ => ?_)
theorem F118.calls {k : Nat} {A0 : Option Addr} {c0 : Nat} {l0 : List ByteArray} {r : Bool} {w : World} (bH : Kd.C Kd.string w A0 l0.length l0) (hc0 : l0.length ≤ c0) (h : F118.f k l0 = some r) :
  Calls Tryz.prog 118 #[.slice A0 l0.length c0, .func (.func 119) #[] #[]] w fun e w' => e = .returned (.bool r) ∧ Drawn0 w w' := by
 have fN := am_ bH
 have kt := am_ hc0
 clear bH hc0
 have H := h; unfold F118.f at H
 clear h
 replace H := bi_ H; rcases H with ⟨IQ, A3, H⟩
 obtain rfl := Option.some.inj H
 go_enter Tryz.func118, Tryz.ntmps118
 go_wp2_with (first | ((with_reducible refine gate_callee (f := 132) rfl ?_); refine gl_ 7 Tryz.func132 #[.slice A0 l0.length c0, .func (.func 119) #[] #[]] ?_ rfl rfl rfl rfl; (with_reducible refine (F132.calls ?s1 ?s2 A3.out).mono ?_); (case s1 => exact au1_3); (case s2 => exact kt.out); rintro e w' ⟨rfl, ⟨nd, rfl⟩⟩; refine ⟨_, rfl, ?_⟩))
 go_ret
 exact ⟨er_, dn_⟩
mutual
def F105.l0 : Nat → List (S91) → Int → Int → ByteArray → List (S91) → Option (Bool)
  | 0, _, _, _, _, _ => none
  | k + 1, x7, x8, x9, gf, ft => if x9 < x8 then (if 0 ≤ x9 then (if x9 < (x7.length : Int) then ((F56.f (((rd_T91 x7 x9).f0).length : Int) 1 4).bind fun IR => (if IR = true then ((F118.f k ((rd_T91 x7 x9).f0)).bind fun Ez => (F105.j1 k x9 (((rd_T91 x7 x9).f0).length : Int) x7 x8 x9 Ez gf ft ((rd_T91 x7 x9).f0))) else (F105.j1 k x9 (((rd_T91 x7 x9).f0).length : Int) x7 x8 x9 true gf ft ((rd_T91 x7 x9).f0)))) else (none)) else (none)) else ((F121.f gf).bind fun IS => (if IS = true then (some (decide ((ft.length : Int) ≤ 10))) else (some false)))
def F105.j1 : Nat → Int → Int → List (S91) → Int → Int → Bool → ByteArray → List (S91) → List ByteArray → Option (Bool)
  | 0, _, _, _, _, _, _, _, _, _ => none
  | k + 1, x3, x5, x7, x8, x9, XQ, gf, ft, qC => if XQ = true then (some false) else (if 0 ≤ (wrap64 (x5 - 1)) then (if (wrap64 (x5 - 1)) < (qC.length : Int) then (if (rdOf ByteArray.empty qC (wrap64 (x5 - 1))).toList = ([] : List UInt8) then (if x5 > 1 then (some false) else (if x3 = (wrap64 ((ft.length : Int) - 1)) then (some false) else (F105.l0 k x7 x8 (wrap64 (x9 + 1)) gf ft))) else (F105.l0 k x7 x8 (wrap64 (x9 + 1)) gf ft)) else (none)) else (none))
end
def F105.f (k : Nat) (ae : ByteArray) (ac : List (S91)) : Option (Bool) := F105.l0 k ac (ac.length : Int) 0 ae ac
theorem F105.mono_l : ∀ k, (∀ y0 y1 y2 y3 y4, LeO (F105.l0 k y0 y1 y2 y3 y4) (F105.l0 (k + 1) y0 y1 y2 y3 y4)) ∧ (∀ y0 y1 y2 y3 y4 y5 y6 y7 y8, LeO (F105.j1 k y0 y1 y2 y3 y4 y5 y6 y7 y8) (F105.j1 (k + 1) y0 y1 y2 y3 y4 y5 y6 y7 y8))
 | 0 => ⟨fun _ _ _ _ _ r h => by simp [F105.l0] at h, fun _ _ _ _ _ _ _ _ _ r h => by simp [F105.j1] at h⟩
 | k + 1 => by
  obtain ⟨ef, kW⟩ := F105.mono_l k
  refine ⟨?_, ?_⟩
  rotate_left
  ·intro y0 y1 y2 y3 y4 y5 y6 y7 y8
   unfold F105.j1
   exact tg1_4
  intro y0 y1 y2 y3 y4
  unfold F105.l0
  exact tg1_4
theorem F105.mono : ∀ a0 a1 k, LeO (F105.f k a0 a1) (F105.f (k + 1) a0 a1) := by
 intro a0 a1 k
 obtain ⟨ef, kW⟩ := F105.mono_l k
 unfold F105.f
 exact tg1_4
theorem F105.calls {k : Nat} {ae : ByteArray} {aJ : Option Addr} {aH : Nat} {ac : List (S91)} {r : Bool} {w : World} (aY : Kd.C k91 w aJ ac.length ac) (aZ : ac.length ≤ aH) (h : F105.f k ae ac = some r) :
  Calls Tryz.prog 105 #[.agg #[.string ae, .slice aJ ac.length aH]] w fun e w' => e = .returned (.bool r) ∧ Below w.heap.size w w' := by
 have dk := Tryz.underlying49
 have kX := Tryz.underlying91
 have br := am_ aY
 have da := am_ aZ
 clear aY aZ
 have HB := am_ (Below.refl w.heap.size w)
 have H := h; unfold F105.f at H
 clear h
 have H' := am_ H
 clear H
 go_enter Tryz.func105, Tryz.ntmps105
 go_wp2_with (first | ((with_reducible refine gate_dst (N := 1) rfl ?_); (try (refine gate_guard (by rfl) ?_; dsimp only)); refine be_ 1 #[.string ae, .slice aJ ac.length aH] 49 ?_; intro C7 hg w2 hbox hb; have eD := am_ (hbox); have IT := am_ (gw_ hg bl_); have UC := IT; replace HB := hs_ w hb; clear hb hbox hg; have we := cellsF2 eD.out))
 go_loopg [9] k (fun kq v9 w' => ∃ (bc : Int), v9 = .int .i64 bc ∧ Aside0 (F105.l0 kq ac (ac.length : Int) bc ae ac = some r) ∧ Aside0 (kq ≤ k) ∧ Aside0 (w'.heap[C7]? = some (.cells #[.string ae, (.slice aJ ac.length aH)] 49 (0, 0))) ∧ Aside0 (Below w.heap.size w w'))
 case atStart => exact ⟨(0), er_, H', ⟨Nat.le_refl _⟩, ⟨bk_ eD⟩, ⟨bl_⟩⟩
 case round =>
  clear H'
  try clear we
  obtain ⟨bc, rfl, HA, cK, eD, HB⟩ := hrel
  cases gk with
  | zero => exact absurd HA.out (by simp [F105.l0])
  | succ k1 =>
   have H := HA.out
   clear HA
   simp only [F105.l0] at H
   replace H := it_ H; rcases H with ⟨c4b0, H⟩ | ⟨c4b0, H⟩
   rotate_left
   ·replace H := bi_ H; rcases H with ⟨IS, C8, H⟩
    replace H := ib_ H; rcases H with ⟨rfl, H⟩ | ⟨rfl, H⟩
    ·obtain rfl := Option.some.inj H
     have mu := cellsF2 eD.out
     go_wp2_with (first | ((with_reducible refine gate_callee (f := 121) rfl ?_); refine gl_ 47 Tryz.func121 #[.string ae] ?_ rfl rfl rfl rfl; (with_reducible refine (F121.calls C8.out).mono ?_); rintro e w' ⟨rfl, ⟨nd, rfl⟩⟩; refine ⟨_, rfl, ?_⟩))
     go_ret
     exact ⟨ax11_, bl_⟩
    obtain rfl := Option.some.inj H
    have mv := cellsF2 eD.out
    go_wp2_with (first | ((with_reducible refine gate_callee (f := 121) rfl ?_); refine gl_ 47 Tryz.func121 #[.string ae] ?_ rfl rfl rfl rfl; (with_reducible refine (F121.calls C8.out).mono ?_); rintro e w' ⟨rfl, ⟨nd, rfl⟩⟩; refine ⟨_, rfl, ?_⟩))
    go_ret
    exact ⟨ax11_, bl_⟩
   replace H := itn_ H; rcases H with ⟨c5b0, H⟩
   replace H := itn_ H; rcases H with ⟨c6b0, H⟩
   have Ql := am_ H
   clear H
   have zC : 0 ≤ (bc : Int) := od_
   have zD : bc < (ac.length : Int) := od_
   obtain ⟨IU, kY, kZ, Qm, mw, qD, qE⟩ := at_T91 br.out bc zC zD
   cases Qm
   replace mw := pw_cell_below HB.out mw
   have g7 := am_ qE
   have zE := am_ qD
   clear qE qD
   replace zC := eq_true zC
   replace zD := eq_true zD
   go_upto_region 5 with (first | ((with_reducible refine gate_dst (N := 4) rfl ?_); (try (refine gate_guard (by rfl) ?_; dsimp only)); refine be_ 4 #[.slice none 0 0] 91 ?_; intro k7 hg w8 hbox hb; have eF := am_ (hbox); have IV := am_ (gw_ hg bl_); have UD := IV; replace HB := hs_ w hb; have H7 := am_ (gn_ hg (blkl_ eD)); have ex := am_ (gm_ hg (blkl_ eD)); replace eD := bb_ eD hb; clear hb hbox hg; obtain ⟨XR, XS⟩ := nn_ ex; have eZ : w8.cell? ⟨k7, 0, none⟩ = some (.slice none 0 0) := (blk_cell eF.out 0).trans rfl; have zF := blk_frozen eF.out 0))
   (try simp only [Act.put, List.setIfInBounds_toArray, List.set_cons_zero, List.set_cons_succ])
   go_cut [24] (fun XT wc => ∃ (kq : Nat) (wg : Bool), XT = .bool wg ∧ Aside0 (F105.j1 kq bc (((rd_T91 ac bc).f0).length : Int) ac (ac.length : Int) bc wg ae ac ((rd_T91 ac bc).f0) = some r) ∧ Aside0 (kq ≤ k1) ∧ Aside0 (wc.heap[C7]? = some (.cells #[.string ae, (.slice (some IU) ac.length aH)] 49 (0, 0))) ∧ Aside0 (wc.heap[k7]? = some (.cells #[(.slice kY ((rd_T91 ac bc).f0).length kZ)] 91 (0, 0))) ∧ Aside0 (Below w.heap.size w wc))
   case first =>
    have H := Ql.out
    clear Ql
    replace H := bi_ H; rcases H with ⟨IR, C9, H⟩
    replace H := ib_ H; rcases H with ⟨rfl, H⟩ | ⟨rfl, H⟩
    rotate_left
    ·have H' := am_ H
     clear H
     go_wp2_with (first | ((with_reducible refine gate_callee (f := 56) rfl ?_); refine gl_ 18 Tryz.func56 #[.int .i64 (((rd_T91 ac bc).f0).length : Int), .int .i64 1, .int .i64 4] ?_ rfl rfl rfl rfl; (with_reducible refine (F56.calls C9.out).mono ?_); rintro e w' ⟨rfl, ⟨nd, rfl⟩⟩; refine ⟨_, rfl, ?_⟩))
     go_meet
     case rel => exact ⟨_, (true), er_, H', ⟨by have := cK.out; first | omega | exact Nat.le_refl _⟩, ⟨bf_ eD⟩, ⟨bq_ eF⟩, ⟨bl_⟩⟩
    replace H := bi_ H; rcases H with ⟨Ez, H6, H⟩
    have H' := am_ H
    clear H
    go_wp2_with (first | ((with_reducible refine gate_callee (f := 56) rfl ?_); refine gl_ 18 Tryz.func56 #[.int .i64 (((rd_T91 ac bc).f0).length : Int), .int .i64 1, .int .i64 4] ?_ rfl rfl rfl rfl; (with_reducible refine (F56.calls C9.out).mono ?_); rintro e w' ⟨rfl, ⟨nd, rfl⟩⟩; refine ⟨_, rfl, ?_⟩; obtain ⟨IW, IX⟩ := nn_ ex; have eh : w8.cell? ⟨k7, 0, none⟩ = some (.slice none 0 0) := (blk_cell eF.out 0).trans rfl; have Oc := blk_frozen eF.out 0) | (go_at_call 118; (with_reducible refine (F118.calls ?s1 ?s2 H6.out).mono ?_); (case s1 => exact Kd.C_below g7.out bl_); (case s2 => exact zE.out); rintro e w' ⟨rfl, ⟨nd, rfl⟩⟩))
    go_meet
    case rel => exact ⟨_, (Ez), er_, H', ⟨by have := cK.out; first | omega | exact Nat.le_refl _⟩, ⟨bf_ eD⟩, ⟨bq_ eF⟩, ⟨bl_⟩⟩
   case rest =>
    clear Ql
    try clear c4b0
    try clear c5b0
    try clear c6b0
    try clear eZ
    try clear zF
    try clear mw
    try clear zC
    try clear zD
    obtain ⟨kq, wg, rfl, HA, Qk, eD, eF, HB⟩ := hcut
    cases kq with
    | zero => exact absurd HA.out (by simp [F105.j1])
    | succ Od =>
     have H := HA.out
     clear HA
     simp only [F105.j1] at H
     replace H := ib_ H; rcases H with ⟨rfl, H⟩ | ⟨rfl, H⟩
     ·obtain rfl := Option.some.inj H
      go_wp2
      go_ret
      exact ⟨ax11_, bl_⟩
     obtain ⟨fi, qA⟩ : ∃ j_ : Int, (wrap64 ((((rd_T91 ac bc).f0).length : Int) - 1)) = j_ := ⟨_, rfl⟩
     replace H : (if 0 ≤ (fi) then (if (fi) < (((rd_T91 ac bc).f0).length : Int) then (if (rdOf ByteArray.empty ((rd_T91 ac bc).f0) (fi)).toList = ([] : List UInt8) then (if (((rd_T91 ac bc).f0).length : Int) > 1 then (some false) else (if bc = (wrap64 ((ac.length : Int) - 1)) then (some false) else (F105.l0 Od ac (ac.length : Int) (wrap64 (bc + 1)) ae ac))) else (F105.l0 Od ac (ac.length : Int) (wrap64 (bc + 1)) ae ac)) else (none)) else (none)) = some r := by first | (rw [qA] at H; exact H) | (simp only [qA] at H ⊢; exact H)
     have hji17w : (IntKind.i64.wrap ((((rd_T91 ac bc).f0).length : Int) - 1)) = fi := (i64_w _).trans qA
     replace H := itn_ H; rcases H with ⟨c18b0, H⟩
     replace H := itn_ H; rcases H with ⟨c19b0, H⟩
     by_cases c20 : (rdOf ByteArray.empty ((rd_T91 ac bc).f0) (fi)).toList = ([] : List UInt8)
     rotate_left
     ·rw [if_neg c20] at H
      have c20b0 : ((rdOf ByteArray.empty ((rd_T91 ac bc).f0) (fi)).toList == ([] : List UInt8)) = false := beq_eq_false_iff_ne.mpr c20
      have c20b1 : ((rdOf ByteArray.empty ((rd_T91 ac bc).f0) (fi)).toList != ([] : List UInt8)) = true := bne_iff_ne.mpr c20
      have H' := am_ H
      clear H
      obtain ⟨Da, Db⟩ := nn_ ex
      have qF : wc.cell? ⟨k7, 0, none⟩ = some (.slice kY ((rd_T91 ac bc).f0).length kZ) := (blk_cell eF.out 0).trans rfl
      have Oe := blk_frozen eF.out 0
      have gG : 0 ≤ ((fi) : Int) := od_
      have gH : (fi) < (((rd_T91 ac bc).f0).length : Int) := od_
      obtain ⟨wh, oJ, dt⟩ := Kd.at_string g7.out (fi) gG gH
      cases oJ
      replace dt := pw_cell_below HB.out dt
      replace gG := eq_true gG
      replace gH := eq_true gH
      go_wp2
      go_roundg Od
      case measure => have := cK.out; have := Qk.out; omega
      case rel => exact tg1_5
     rw [if_pos c20] at H
     have c20b0 : ((rdOf ByteArray.empty ((rd_T91 ac bc).f0) (fi)).toList == ([] : List UInt8)) = true := beq_iff_eq.mpr c20
     have c20b1 : ((rdOf ByteArray.empty ((rd_T91 ac bc).f0) (fi)).toList != ([] : List UInt8)) = false := bne_eq_false_iff_eq.mpr c20
     clear c20
     replace H := it_ H; rcases H with ⟨(c21b0 : decide (1 < (((rd_T91 ac bc).f0).length : Int)) = true), H⟩ | ⟨(c21b0 : decide (1 < (((rd_T91 ac bc).f0).length : Int)) = false), H⟩
     ·have c21b1 : decide (1 < ((rd_T91 ac bc).f0).length) = true := n2_ c21b0
      obtain rfl := Option.some.inj H
      obtain ⟨IY, IZ⟩ := nn_ ex
      have my : wc.cell? ⟨k7, 0, none⟩ = some (.slice kY ((rd_T91 ac bc).f0).length kZ) := (blk_cell eF.out 0).trans rfl
      have Of := blk_frozen eF.out 0
      have gG : 0 ≤ ((fi) : Int) := od_
      have gH : (fi) < (((rd_T91 ac bc).f0).length : Int) := od_
      obtain ⟨wh, oJ, dt⟩ := Kd.at_string g7.out (fi) gG gH
      cases oJ
      replace dt := pw_cell_below HB.out dt
      replace gG := eq_true gG
      replace gH := eq_true gH
      go_wp2
      go_ret
      exact ⟨au1_15, bl_⟩
     have c21b1 : decide (1 < ((rd_T91 ac bc).f0).length) = false := n2_ c21b0
     by_cases oE : bc = (wrap64 ((ac.length : Int) - 1))
     ·rw [if_pos oE] at H
      have c24b0 : (bc == (wrap64 ((ac.length : Int) - 1))) = true := beq_iff_eq.mpr oE
      have c24b1 : (bc != (wrap64 ((ac.length : Int) - 1))) = false := bne_eq_false_iff_eq.mpr oE
      clear oE
      obtain rfl := Option.some.inj H
      obtain ⟨Dc, Dd⟩ := nn_ ex
      have qG : wc.cell? ⟨k7, 0, none⟩ = some (.slice kY ((rd_T91 ac bc).f0).length kZ) := (blk_cell eF.out 0).trans rfl
      have Og := blk_frozen eF.out 0
      have gG : 0 ≤ ((fi) : Int) := od_
      have gH : (fi) < (((rd_T91 ac bc).f0).length : Int) := od_
      obtain ⟨wh, oJ, dt⟩ := Kd.at_string g7.out (fi) gG gH
      cases oJ
      replace dt := pw_cell_below HB.out dt
      replace gG := eq_true gG
      replace gH := eq_true gH
      have zG := cellsF2 eD.out
      go_wp2
      go_ret
      exact ⟨au1_15, bl_⟩
     rw [if_neg oE] at H
     have c24b0 : (bc == (wrap64 ((ac.length : Int) - 1))) = false := beq_eq_false_iff_ne.mpr oE
     have c24b1 : (bc != (wrap64 ((ac.length : Int) - 1))) = true := bne_iff_ne.mpr oE
     have H' := am_ H
     clear H
     obtain ⟨nG, nH⟩ := nn_ ex
     have kz : wc.cell? ⟨k7, 0, none⟩ = some (.slice kY ((rd_T91 ac bc).f0).length kZ) := (blk_cell eF.out 0).trans rfl
     have Oh := blk_frozen eF.out 0
     have gG : 0 ≤ ((fi) : Int) := od_
     have gH : (fi) < (((rd_T91 ac bc).f0).length : Int) := od_
     obtain ⟨wh, oJ, dt⟩ := Kd.at_string g7.out (fi) gG gH
     cases oJ
     replace dt := pw_cell_below HB.out dt
     replace gG := eq_true gG
     replace gH := eq_true gH
     have kA := cellsF2 eD.out
     go_wp2
     go_roundg Od
     case measure => have := cK.out; have := Qk.out; omega
     case rel => exact tg1_5
def F122.l0 : Nat → List ByteArray → ByteArray → Int → Int → Option (Int)
  | 0, _, _, _, _ => none
  | k + 1, x0, x1, x7, x8 => if x8 < x7 then (if 0 ≤ x8 then (if x8 < (x0.length : Int) then (if x1.toList = (rdOf ByteArray.empty x0 x8).toList then (some x8) else (F122.l0 k x0 x1 x7 (wrap64 (x8 + 1)))) else (none)) else (none)) else (some (-1))
def F122.f (k : Nat) (l0 : List ByteArray) (a1 : ByteArray) : Option (Int) := F122.l0 k l0 a1 (l0.length : Int) 0
theorem F122.mono_l : ∀ k, (∀ y0 y1 y2 y3, LeO (F122.l0 k y0 y1 y2 y3) (F122.l0 (k + 1) y0 y1 y2 y3))
 | 0 => fun _ _ _ _ r h => by simp [F122.l0] at h
 | k + 1 => by
  have ef := F122.mono_l k
  intro y0 y1 y2 y3
  unfold F122.l0
  exact ax47_
theorem F122.mono : ∀ a0 a1 k, LeO (F122.f k a0 a1) (F122.f (k + 1) a0 a1) := by
 intro a0 a1 k
 have ef := F122.mono_l k
 unfold F122.f
 exact ax47_
theorem F122.calls {k : Nat} {A0 : Option Addr} {c0 : Nat} {l0 : List ByteArray} {a1 : ByteArray} {r : Int} {w : World} (bH : Kd.C Kd.string w A0 l0.length l0) (hc0 : l0.length ≤ c0) (h : F122.f k l0 a1 = some r) :
  Calls Tryz.prog 122 #[.slice A0 l0.length c0, .string a1] w fun e w' => e = .returned (.int .i64 r) ∧ Drawn0 w w' := by
 have fN := am_ bH
 have kt := am_ hc0
 clear bH hc0
 have H := h; unfold F122.f at H
 clear h
 have H' := am_ H
 clear H
 go_enter Tryz.func122, Tryz.ntmps122
 go_wp2
 go_loopg [8] k (fun kq v8 w' => ∃ (aX : Int), v8 = .int .i64 aX ∧ Aside0 (F122.l0 kq l0 a1 (l0.length : Int) aX = some r) ∧ Aside0 (kq ≤ k) ∧ Drawn0 w w')
 case atStart => exact ⟨(0), er_, H', ⟨Nat.le_refl _⟩, dn_⟩
 case round =>
  clear H'
  obtain ⟨aX, rfl, HA, cK, ⟨m1, rfl⟩⟩ := hrel
  cases gk with
  | zero => exact absurd HA.out (by simp [F122.l0])
  | succ k1 =>
   have H := HA.out
   clear HA
   simp only [F122.l0] at H
   replace H := it_ H; rcases H with ⟨c3b0, H⟩ | ⟨c3b0, H⟩
   rotate_left
   ·obtain rfl := Option.some.inj H
    go_wp2
    go_ret
    exact ⟨er_, dn_⟩
   replace H := itn_ H; rcases H with ⟨c4b0, H⟩
   replace H := itn_ H; rcases H with ⟨c5b0, H⟩
   by_cases c6 : a1.toList = (rdOf ByteArray.empty l0 aX).toList
   ·rw [if_pos c6] at H
    have c6b0 : (a1.toList == (rdOf ByteArray.empty l0 aX).toList) = true := beq_iff_eq.mpr c6
    have c6b1 : (a1.toList != (rdOf ByteArray.empty l0 aX).toList) = false := bne_eq_false_iff_eq.mpr c6
    clear c6
    obtain rfl := Option.some.inj H
    have oK : 0 ≤ (aX : Int) := od_
    have oL : aX < (l0.length : Int) := od_
    obtain ⟨I0, EA, zH⟩ := Kd.at_string fN.out aX oK oL
    cases EA
    replace oK := eq_true oK
    replace oL := eq_true oL
    go_wp2
    go_ret
    exact ⟨er_, dn_⟩
   rw [if_neg c6] at H
   have c6b0 : (a1.toList == (rdOf ByteArray.empty l0 aX).toList) = false := beq_eq_false_iff_ne.mpr c6
   have c6b1 : (a1.toList != (rdOf ByteArray.empty l0 aX).toList) = true := bne_iff_ne.mpr c6
   have H' := am_ H
   clear H
   have oK : 0 ≤ (aX : Int) := od_
   have oL : aX < (l0.length : Int) := od_
   obtain ⟨I0, EA, zH⟩ := Kd.at_string fN.out aX oK oL
   cases EA
   replace oK := eq_true oK
   replace oL := eq_true oL
   go_wp2
   go_roundg k1
   case measure => have := cK.out; omega
   case rel => exact tg1_3
def F106.f (k : Nat) (l0 : List ByteArray) (a1 : ByteArray) : Option (Bool) := (F122.f k l0 a1).bind fun I1 => (some (decide (I1 ≥ 0)))
theorem F106.mono : ∀ a0 a1 k, LeO (F106.f k a0 a1) (F106.f (k + 1) a0 a1) := by
 intro a0 a1 k
 unfold F106.f
 repeat' with_reducible first | exact F122.mono _ _ _ | exact LeO.refl _ | exact LeO.none _ | refine LeO.ite ?_ ?_ | refine LeO.bind ?_ (fun _ => ?_)
theorem F106.calls {k : Nat} {A0 : Option Addr} {c0 : Nat} {l0 : List ByteArray} {a1 : ByteArray} {r : Bool} {w : World} (bH : Kd.C Kd.string w A0 l0.length l0) (hc0 : l0.length ≤ c0) (h : F106.f k l0 a1 = some r) :
  Calls Tryz.prog 106 #[.slice A0 l0.length c0, .string a1] w fun e w' => e = .returned (.bool r) ∧ Drawn0 w w' := by
 have fN := am_ bH
 have kt := am_ hc0
 clear bH hc0
 have H := h; unfold F106.f at H
 clear h
 replace H := bi_ H; rcases H with ⟨I1, A3, H⟩
 obtain rfl := Option.some.inj H
 go_enter Tryz.func106, Tryz.ntmps106
 go_wp2_with (first | ((with_reducible refine gate_callee (f := 122) rfl ?_); refine gl_ 7 Tryz.func122 #[.slice A0 l0.length c0, .string a1] ?_ rfl rfl rfl rfl; (with_reducible refine (F122.calls ?s1 ?s2 A3.out).mono ?_); (case s1 => exact au1_3); (case s2 => exact kt.out); rintro e w' ⟨rfl, ⟨nd, rfl⟩⟩; refine ⟨_, rfl, ?_⟩))
 go_ret
 exact ⟨er_, dn_⟩
def F107.f  : Option (List ByteArray) := some (([(⟨#[73, 88, 72]⟩ : ByteArray), (⟨#[71, 82, 72]⟩ : ByteArray), (⟨#[77, 83, 72]⟩ : ByteArray), (⟨#[77, 83, 84]⟩ : ByteArray), (⟨#[71, 82, 84]⟩ : ByteArray), (⟨#[73, 88, 84]⟩ : ByteArray)] : List ByteArray))
theorem F107.calls  {r : List ByteArray} {w : World} (h : F107.f  = some r) :
  Calls Tryz.prog 107 #[] w fun e w' => ∃ l7 : Value, e = .returned (l7) ∧ Kd.R Kd.string 9 w' w.heap.size (fun _ => True) l7 r ∧ Below w.heap.size w w' := by
 have HB := am_ (Below.refl w.heap.size w)
 have H : (some (([(⟨#[73, 88, 72]⟩ : ByteArray), (⟨#[71, 82, 72]⟩ : ByteArray), (⟨#[77, 83, 72]⟩ : ByteArray), (⟨#[77, 83, 84]⟩ : ByteArray), (⟨#[71, 82, 84]⟩ : ByteArray), (⟨#[73, 88, 84]⟩ : ByteArray)] : List ByteArray))) = some r := h
 clear h
 obtain ⟨Qn, wi⟩ : ∃ y_ : List ByteArray, y_ = (([(⟨#[73, 88, 72]⟩ : ByteArray), (⟨#[71, 82, 72]⟩ : ByteArray), (⟨#[77, 83, 72]⟩ : ByteArray), (⟨#[77, 83, 84]⟩ : ByteArray), (⟨#[71, 82, 84]⟩ : ByteArray), (⟨#[73, 88, 84]⟩ : ByteArray)] : List ByteArray)) := ⟨_, rfl⟩
 replace H : (some Qn) = some r := by first | (rw [wi]; exact H) | exact H
 have De := am_ wi
 clear wi
 obtain rfl := Option.some.inj H
 go_enter Tryz.func107, Tryz.ntmps107
 go_wp2_with (first | ((with_reducible refine gate_dst (N := 1) rfl ?_); refine Kd.R_lit Kd.string _ 9 ?hg (N := 1) ?hd (xs := ([(⟨#[73, 88, 72]⟩ : ByteArray), (⟨#[71, 82, 72]⟩ : ByteArray), (⟨#[77, 83, 72]⟩ : ByteArray), (⟨#[77, 83, 84]⟩ : ByteArray), (⟨#[71, 82, 84]⟩ : ByteArray), (⟨#[73, 88, 84]⟩ : ByteArray)] : List ByteArray)) (inner := [.string (⟨#[73, 88, 72]⟩ : ByteArray), .string (⟨#[71, 82, 72]⟩ : ByteArray), .string (⟨#[77, 83, 72]⟩ : ByteArray), .string (⟨#[77, 83, 84]⟩ : ByteArray), .string (⟨#[71, 82, 84]⟩ : ByteArray), .string (⟨#[73, 88, 84]⟩ : ByteArray)]) (ok := fun _ => True) (okp := fun _ => True) ?hr ?hp (fun _ hk => hk) trivial (Below.refl _ _) (Nat.le_refl _) (by simp) ?_; (case hd => rfl); (case hg => rfl); (case hr => exact hr_); (case hp => exact (Reps.one (show Kd.M Kd.string _ _ _ (⟨#[73, 88, 72]⟩ : ByteArray) [.string (⟨#[73, 88, 72]⟩ : ByteArray)] from rfl) (Reps.one (show Kd.M Kd.string _ _ _ (⟨#[71, 82, 72]⟩ : ByteArray) [.string (⟨#[71, 82, 72]⟩ : ByteArray)] from rfl) (Reps.one (show Kd.M Kd.string _ _ _ (⟨#[77, 83, 72]⟩ : ByteArray) [.string (⟨#[77, 83, 72]⟩ : ByteArray)] from rfl) (Reps.one (show Kd.M Kd.string _ _ _ (⟨#[77, 83, 84]⟩ : ByteArray) [.string (⟨#[77, 83, 84]⟩ : ByteArray)] from rfl) (Reps.one (show Kd.M Kd.string _ _ _ (⟨#[71, 82, 84]⟩ : ByteArray) [.string (⟨#[71, 82, 84]⟩ : ByteArray)] from rfl) (Reps.one (show Kd.M Kd.string _ _ _ (⟨#[73, 88, 84]⟩ : ByteArray) [.string (⟨#[73, 88, 84]⟩ : ByteArray)] from rfl) (Reps.none _ _)))))))); intro XU w1 ho2 hb hg_ hnew_; clear hg_ hnew_; (first | rw [← De.out] at ho2 | (simp only [Int.reduceToNat] at ho2; rw [← De.out] at ho2)); have I2 := am_ (Kd.R_lower ho2 (below_size bl_)); replace HB := hs_ w hb; clear hb ho2))
 go_ret
 exact ⟨_, ax11_, rk_ I2, bl_⟩
def F81.f (k : Nat) (ae : ByteArray) (ac : List (S91)) : Option (Bool) := (F105.f k ae ac).bind fun I3 => (if I3 = true then ((F107.f).bind fun t127 => ((F106.f k t127 ae).bind fun I4 => (some (!I4)))) else (some false))
theorem F81.mono : ∀ a0 a1 k, LeO (F81.f k a0 a1) (F81.f (k + 1) a0 a1) := by
 intro a0 a1 k
 unfold F81.f
 repeat' with_reducible first | exact F105.mono _ _ _ | exact F106.mono _ _ _ | exact LeO.refl _ | exact LeO.none _ | refine LeO.ite ?_ ?_ | refine LeO.bind ?_ (fun _ => ?_)
def F81.T1 : Bool × List (List Nat × List Nat) := (true, [([], []), ([0], [0]), ([1, 1], [1]), ([2, 2], [2]), ([2], [2]), ([4, 2], [2, 4]), ([3, 5, 3, 2], [2, 3, 5]), ([6, 2], [2, 6]), ([2, 7], [2, 7]), ([8, 6, 0, 1, 2, 3, 4, 5, 6, 7, 8], [8])])
def F81.B1 : List Nat := [0, 1, 3, 7, 7, 23, 63, 127, 255, 511]
theorem F81.tab1 : rtab .any (opsOf Tryz.f81 1) = F81.T1 := by kernel_rfl
theorem F81.bits1 : waitsOk F81.T1.2 F81.B1 = true := by kernel_rfl
theorem F81.calls {k : Nat} {ae : ByteArray} {aJ : Option Addr} {aH : Nat} {ac : List (S91)} {r : Bool} {w : World} (aY : Kd.C k91 w aJ ac.length ac) (aZ : ac.length ≤ aH) (h : F81.f k ae ac = some r) :
  Calls Tryz.prog 81 #[.agg #[.string ae, .slice aJ ac.length aH]] w fun e w' => e = .returned (.bool r) ∧ Below w.heap.size w w' := by
 have dk := Tryz.underlying49
 have br := am_ aY
 have da := am_ aZ
 clear aY aZ
 have HB := am_ (Below.refl w.heap.size w)
 have H := h; unfold F81.f at H
 clear h
 replace H := bi_ H; rcases H with ⟨I3, A2, H⟩
 replace H := ib_ H; rcases H with ⟨rfl, H⟩ | ⟨rfl, H⟩
 rotate_left
 ·obtain rfl := Option.some.inj H
  go_enter Tryz.func81, Tryz.ntmps81
  try go_wp2_with (first | ((with_reducible refine gate_dst (N := 1) rfl ?_); refine be_ 1 #[.string ae, .slice aJ ac.length aH] 49 ?_; intro nI hg wj hbox hb; have ck := am_ (hbox); have wk := am_ (gw_ hg bl_); have I5 := wk; replace HB := hs_ w hb; clear hb hbox hg))
  replace ck := bd_ ck
  replace HB := am_ (below_drew1 HB.out)
  refine start_ (n := 10) (S := fun w' => w'.cell? ⟨nI, 0, none⟩ = some (.string ae) ∧ w'.cell? ⟨nI, 1, none⟩ = some (.slice aJ ac.length aH)) (ds := []) (bs 10 0) (by kernel_rfl) rfl rfl ⟨(blk_cell ck.out 0).trans rfl, (blk_cell ck.out 1).trans rfl⟩ (fun hHeld => ?_); refine with_tabW F81.tab1 F81.bits1 (fun HT_ HW_ => ?_)
  generalize wj.drew = lU at ck HB hHeld ⊢
  refine tq_ 0 HT_ HW_ hHeld rfl ax55_ ?_
  refine oq_ 1 HT_ (fun K hK => ?_)
  refine gr_ Tryz.func105 #[.agg #[.string ae, .slice aJ ac.length aH]] (by rfl) ?_ rfl rfl rfl
  with_reducible refine (F105.calls ?s1 ?s2 A2.out).mono ?_
  (case s1 => exact ax43_)
  (case s2 => exact da.out)
  rintro e Oi ⟨rfl, hb⟩
  refine ⟨_, rfl, ?_⟩
  replace ck := bb_ ck hb
  replace HB := hs_ w hb
  (try clear hb)
  refine hK.out _ _ ⟨(blk_cell ck.out 0).trans rfl, (blk_cell ck.out 1).trans rfl⟩ (fun hHeld => ?_)
  clear hK K
  refine no_ 4 ?_
  refine pq_ 2 HT_ ?_
  refine vq_ 3 HT_ ?_
  refine vq_ 4 HT_ ?_
  refine vq_ 5 HT_ ?_
  refine vq_ 6 HT_ ?_
  refine vq_ 7 HT_ ?_
  refine pq_ 8 HT_ ?_
  refine pq_ 9 HT_ ?_
  refine done_ (done_of HT_.out (by kernel_rfl)) ?_
  try go_wp2
  go_ret
  exact ⟨ax11_, bl_⟩
 replace H := bi_ H; rcases H with ⟨t127, A4, H⟩
 replace H := bi_ H; rcases H with ⟨I4, A5, H⟩
 obtain rfl := Option.some.inj H
 go_enter Tryz.func81, Tryz.ntmps81
 try go_wp2_with (first | ((with_reducible refine gate_dst (N := 1) rfl ?_); refine be_ 1 #[.string ae, .slice aJ ac.length aH] 49 ?_; intro nI hg w6 hbox hb; have ck := am_ (hbox); have wk := am_ (gw_ hg bl_); have I5 := wk; replace HB := hs_ w hb; clear hb hbox hg))
 replace ck := bd_ ck
 replace HB := am_ (below_drew1 HB.out)
 refine start_ (n := 10) (S := fun w' => w'.cell? ⟨nI, 0, none⟩ = some (.string ae) ∧ w'.cell? ⟨nI, 1, none⟩ = some (.slice aJ ac.length aH)) (ds := []) (bs 10 0) (by kernel_rfl) rfl rfl ⟨(blk_cell ck.out 0).trans rfl, (blk_cell ck.out 1).trans rfl⟩ (fun hHeld => ?_); refine with_tabW F81.tab1 F81.bits1 (fun HT_ HW_ => ?_)
 generalize w6.drew = w7 at ck HB hHeld ⊢
 refine tq_ 0 HT_ HW_ hHeld rfl ax55_ ?_
 refine oq_ 1 HT_ (fun K hK => ?_)
 refine gr_ Tryz.func105 #[.agg #[.string ae, .slice aJ ac.length aH]] (by rfl) ?_ rfl rfl rfl
 with_reducible refine (F105.calls ?s1 ?s2 A2.out).mono ?_
 (case s1 => exact ax43_)
 (case s2 => exact da.out)
 rintro e w8 ⟨rfl, hb⟩
 refine ⟨_, rfl, ?_⟩
 replace ck := bb_ ck hb
 replace HB := hs_ w hb
 (try clear hb)
 refine hK.out _ _ ⟨(blk_cell ck.out 0).trans rfl, (blk_cell ck.out 1).trans rfl⟩ (fun hHeld => ?_)
 clear hK K
 refine no_ 4 ?_
 refine pq_ 2 HT_ ?_
 refine pq_ 4 HT_ ?_
 refine tq_ 5 HT_ HW_ hHeld rfl ax55_ ?_
 refine oq_ 3 HT_ (fun K hK => ?_)
 refine gr_ Tryz.func107 #[] (by rfl) ?_ rfl rfl rfl
 with_reducible refine (F107.calls A4.out).mono ?_
 rintro e w9 ⟨XV, rfl, bf, hb⟩
 refine ⟨_, rfl, ?_⟩
 have wl := am_ (Kd.R_lower bf (below_size bl_))
 replace ck := bb_ ck hb
 replace HB := hs_ w hb
 (try clear hb)
 (try clear bf)
 obtain ⟨EB, EC, wm⟩ := Kd.R_slice wl.out
 (first | subst wm | (injection wm with b9 dT cd; have dU := b9.symm; have dV := cd.symm; clear b9 dT cd; subst dU; subst dV))
 refine hK.out _ _ ⟨(blk_cell ck.out 0).trans rfl, (blk_cell ck.out 1).trans rfl⟩ (fun hHeld => ?_)
 clear hK K
 refine no_ 6 ?_
 refine oq_ 6 HT_ (fun K hK => ?_)
 refine gr_ Tryz.func106 #[.slice EB t127.length EC, .string ae] (by rfl) ?_ rfl rfl rfl
 with_reducible refine (F106.calls ?s1 ?s2 A5.out).mono ?_
 (case s1 => repeat (first | exact (Kd.R_reads' wl.out).2.2 | (with_reducible refine Kd.C_alloc ?_ _) | (with_reducible refine Kd.C_drewN ?_ _) | (with_reducible refine Kd.C_drew ?_)))
 (case s2 => exact (Kd.R_reads' wl.out).2.1)
 rintro e w' ⟨rfl, ⟨nd, rfl⟩⟩
 refine ⟨_, rfl, ?_⟩
 refine hK.out _ _ ⟨(blk_cell ck.out 0).trans rfl, (blk_cell ck.out 1).trans rfl⟩ (fun hHeld => ?_)
 clear hK K
 refine no_ 9 ?_
 refine pq_ 7 HT_ ?_
 refine pq_ 8 HT_ ?_
 refine pq_ 9 HT_ ?_
 refine done_ (done_of HT_.out (by kernel_rfl)) ?_
 try go_wp2
 go_ret
 exact ⟨ax11_, bl_⟩
def F113.f (k : Nat) (ae : ByteArray) (ac : List (S91)) : Option (Bool) := (F81.f k ae ac).bind fun I6 => (some (!I6))
theorem F113.calls {k : Nat} {ae : ByteArray} {aJ : Option Addr} {aH : Nat} {ac : List (S91)} {r : Bool} {w : World} (aY : Kd.C k91 w aJ ac.length ac) (aZ : ac.length ≤ aH) (h : F113.f k ae ac = some r) :
  Calls Tryz.prog 113 #[.agg #[.string ae, .slice aJ ac.length aH]] w fun e w' => e = .returned (.bool r) ∧ Below w.heap.size w w' := by
 have dk := Tryz.underlying49
 have br := am_ aY
 have da := am_ aZ
 clear aY aZ
 have HB := am_ (Below.refl w.heap.size w)
 have H := h; unfold F113.f at H
 clear h
 replace H := bi_ H; rcases H with ⟨I6, A2, H⟩
 obtain rfl := Option.some.inj H
 go_enter Tryz.func113, Tryz.ntmps113
 go_wp2_with (first | ((with_reducible refine gate_dst (N := 1) rfl ?_); refine be_ 1 #[.string ae, .slice aJ ac.length aH] 49 ?_; intro UE hg w3 hbox hb; have wn := am_ (hbox); have I7 := am_ (gw_ hg bl_); have UF := I7; replace HB := hs_ w hb; clear hb hbox hg; have mz := cellsF2 wn.out) | ((with_reducible refine gate_callee (f := 81) rfl ?_); refine gl_ 4 Tryz.func81 #[.agg #[.string ae, .slice aJ ac.length aH]] ?_ rfl rfl rfl rfl; (with_reducible refine (F81.calls ?s1 ?s2 A2.out).mono ?_); (case s1 => exact ax43_); (case s2 => exact da.out); rintro e w5 ⟨rfl, hb⟩; refine ⟨_, rfl, ?_⟩; replace wn := bb_ wn hb; replace HB := hs_ w hb; (try clear hb)))
 go_ret
 exact ⟨ax11_, bl_⟩
def F125.l0 : Nat → List (S49) → Int → Int → Option (Int)
  | 0, _, _, _ => none
  | k + 1, x0, x7, x8 => if x8 < x7 then (if 0 ≤ x8 then (if x8 < (x0.length : Int) then ((F113.f k ((rd_T49 x0 x8).f0) ((rd_T49 x0 x8).f1)).bind fun I8 => (if I8 = true then (some x8) else (F125.l0 k x0 x7 (wrap64 (x8 + 1))))) else (none)) else (none)) else (some (-1))
def F125.f (k : Nat) (l0 : List (S49))  : Option (Int) := F125.l0 k l0 (l0.length : Int) 0
theorem F125.calls {k : Nat} {A0 : Option Addr} {c0 : Nat} {l0 : List (S49)} {r : Int} {w : World} (bH : Kd.C k49 w A0 l0.length l0) (hc0 : l0.length ≤ c0) (h : F125.f k l0 = some r) :
  Calls Tryz.prog 125 #[.slice A0 l0.length c0, .func (.func 113) #[] #[]] w fun e w' => e = .returned (.int .i64 r) ∧ Below w.heap.size w w' := by
 have dk := Tryz.underlying49
 have fN := am_ bH
 have kt := am_ hc0
 clear bH hc0
 have HB := am_ (Below.refl w.heap.size w)
 have H := h; unfold F125.f at H
 clear h
 have H' := am_ H
 clear H
 go_enter Tryz.func125, Tryz.ntmps125
 go_wp2
 go_loopg [8] k (fun kq v8 w' => ∃ (aX : Int), v8 = .int .i64 aX ∧ Aside0 (F125.l0 kq l0 (l0.length : Int) aX = some r) ∧ Aside0 (kq ≤ k) ∧ Aside0 (Below w.heap.size w w'))
 case atStart => exact ⟨(0), er_, H', ⟨Nat.le_refl _⟩, ⟨bl_⟩⟩
 case round =>
  clear H'
  obtain ⟨aX, rfl, HA, cK, HB⟩ := hrel
  cases gk with
  | zero => exact absurd HA.out (by simp [F125.l0])
  | succ k1 =>
   have H := HA.out
   clear HA
   simp only [F125.l0] at H
   replace H := it_ H; rcases H with ⟨c3b0, H⟩ | ⟨c3b0, H⟩
   rotate_left
   ·obtain rfl := Option.some.inj H
    go_wp2
    go_ret
    exact ⟨ax11_, bl_⟩
   replace H := itn_ H; rcases H with ⟨c4b0, H⟩
   replace H := itn_ H; rcases H with ⟨c5b0, H⟩
   replace H := bi_ H; rcases H with ⟨I8, A6, H⟩
   replace H := ib_ H; rcases H with ⟨rfl, H⟩ | ⟨rfl, H⟩
   ·obtain rfl := Option.some.inj H
    have oM : 0 ≤ (aX : Int) := od_
    have oN : aX < (l0.length : Int) := od_
    obtain ⟨I9, ED, EE, EF, g8, g9, hJ, hU⟩ := at_T49 fN.out aX oM oN
    cases EF
    replace g8 := pw_cell_below HB.out g8
    replace g9 := pw_cell_below HB.out g9
    have qx := am_ hU
    have mA := am_ hJ
    clear hU hJ
    replace oM := eq_true oM
    replace oN := eq_true oN
    go_wp2_with (first | (go_at_call 113; (with_reducible refine (F113.calls ?s1 ?s2 A6.out).mono ?_); (case s1 => exact au1_12); (case s2 => exact mA.out); rintro e w8 ⟨rfl, hb⟩; replace HB := hs_ w hb; (try clear hb)))
    go_ret
    exact ⟨ax11_, bl_⟩
   have H' := am_ H
   clear H
   have oM : 0 ≤ (aX : Int) := od_
   have oN : aX < (l0.length : Int) := od_
   obtain ⟨I9, ED, EE, EF, g8, g9, hJ, hU⟩ := at_T49 fN.out aX oM oN
   cases EF
   replace g8 := pw_cell_below HB.out g8
   replace g9 := pw_cell_below HB.out g9
   have qx := am_ hU
   have mA := am_ hJ
   clear hU hJ
   replace oM := eq_true oM
   replace oN := eq_true oN
   go_wp2_with (first | (go_at_call 113; (with_reducible refine (F113.calls ?s1 ?s2 A6.out).mono ?_); (case s1 => exact au1_12); (case s2 => exact mA.out); rintro e w9 ⟨rfl, hb⟩; replace HB := hs_ w hb; (try clear hb)))
   go_roundg k1
   case measure => have := cK.out; omega
   case rel => exact tg1_8
def F112.f (k : Nat) (l0 : List (S49))  : Option (Bool) := (F125.f k l0).bind fun Ja => (some (decide (Ja ≥ 0)))
theorem F112.calls {k : Nat} {A0 : Option Addr} {c0 : Nat} {l0 : List (S49)} {r : Bool} {w : World} (bH : Kd.C k49 w A0 l0.length l0) (hc0 : l0.length ≤ c0) (h : F112.f k l0 = some r) :
  Calls Tryz.prog 112 #[.slice A0 l0.length c0, .func (.func 113) #[] #[]] w fun e w' => e = .returned (.bool r) ∧ Below w.heap.size w w' := by
 have fN := am_ bH
 have kt := am_ hc0
 clear bH hc0
 have HB := am_ (Below.refl w.heap.size w)
 have H := h; unfold F112.f at H
 clear h
 replace H := bi_ H; rcases H with ⟨Ja, A3, H⟩
 obtain rfl := Option.some.inj H
 go_enter Tryz.func112, Tryz.ntmps112
 go_wp2_with (first | ((with_reducible refine gate_callee (f := 125) rfl ?_); refine gl_ 7 Tryz.func125 #[.slice A0 l0.length c0, .func (.func 113) #[] #[]] ?_ rfl rfl rfl rfl; (with_reducible refine (F125.calls ?s1 ?s2 A3.out).mono ?_); (case s1 => exact au1_3); (case s2 => exact kt.out); rintro e w4 ⟨rfl, hb⟩; refine ⟨_, rfl, ?_⟩; replace HB := hs_ w hb; (try clear hb)))
 go_ret
 exact ⟨ax11_, bl_⟩
def F95.f (k : Nat) (ae : Int) (ac : List (S49)) : Option (Bool) := (F55.f ae).bind fun Jb => (if Jb = true then (if (ac.length : Int) ≤ 40 then ((F112.f k ac).bind fun Jc => (some (!Jc))) else (some false)) else (some false))
theorem F95.calls {k : Nat} {ae : Int} {aJ : Option Addr} {aH : Nat} {ac : List (S49)} {r : Bool} {w : World} (aY : Kd.C k49 w aJ ac.length ac) (aZ : ac.length ≤ aH) (h : F95.f k ae ac = some r) :
  Calls Tryz.prog 95 #[.agg #[.int .i64 ae, .slice aJ ac.length aH]] w fun e w' => e = .returned (.bool r) ∧ Below w.heap.size w w' := by
 have mB := Tryz.underlying56
 have br := am_ aY
 have da := am_ aZ
 clear aY aZ
 have HB := am_ (Below.refl w.heap.size w)
 have H := h; unfold F95.f at H
 clear h
 replace H := bi_ H; rcases H with ⟨Jb, A2, H⟩
 replace H := ib_ H; rcases H with ⟨rfl, H⟩ | ⟨rfl, H⟩
 rotate_left
 ·obtain rfl := Option.some.inj H
  go_enter Tryz.func95, Tryz.ntmps95
  go_wp2_with (first | ((with_reducible refine gate_dst (N := 1) rfl ?_); (try (refine gate_guard (by rfl) ?_; dsimp only)); refine be_ 1 #[.int .i64 ae, .slice aJ ac.length aH] 56 ?_; intro Df hg wj hbox hb; have k8 := am_ (hbox); have nJ := am_ (gw_ hg bl_); have Dg := nJ; replace HB := hs_ w hb; clear hb hbox hg; have ei := cellsF2 k8.out) | ((with_reducible refine gate_callee (f := 55) rfl ?_); refine gl_ 5 Tryz.func55 #[.int .i64 ae] ?_ rfl rfl rfl rfl; (with_reducible refine (F55.calls A2.out).mono ?_); rintro e w' ⟨rfl, ⟨nd, rfl⟩⟩; refine ⟨_, rfl, ?_⟩))
  go_ret
  exact ⟨ax11_, bl_⟩
 replace H := it_ H; rcases H with ⟨c4b0, H⟩ | ⟨c4b0, H⟩
 rotate_left
 ·have c4b1 : decide (ac.length ≤ 40) = false := n2_ c4b0
  obtain rfl := Option.some.inj H
  go_enter Tryz.func95, Tryz.ntmps95
  go_wp2_with (first | ((with_reducible refine gate_dst (N := 1) rfl ?_); (try (refine gate_guard (by rfl) ?_; dsimp only)); refine be_ 1 #[.int .i64 ae, .slice aJ ac.length aH] 56 ?_; intro Df hg w9 hbox hb; have k8 := am_ (hbox); have nJ := am_ (gw_ hg bl_); have Dg := nJ; replace HB := hs_ w hb; clear hb hbox hg; have eZ := cellsF2 k8.out) | ((with_reducible refine gate_callee (f := 55) rfl ?_); refine gl_ 5 Tryz.func55 #[.int .i64 ae] ?_ rfl rfl rfl rfl; (with_reducible refine (F55.calls A2.out).mono ?_); rintro e w' ⟨rfl, ⟨nd, rfl⟩⟩; refine ⟨_, rfl, ?_⟩))
  go_ret
  exact ⟨ax11_, bl_⟩
 have c4b1 : decide (ac.length ≤ 40) = true := n2_ c4b0
 replace H := bi_ H; rcases H with ⟨Jc, A5, H⟩
 obtain rfl := Option.some.inj H
 go_enter Tryz.func95, Tryz.ntmps95
 go_wp2_with (first | ((with_reducible refine gate_dst (N := 1) rfl ?_); (try (refine gate_guard (by rfl) ?_; dsimp only)); refine be_ 1 #[.int .i64 ae, .slice aJ ac.length aH] 56 ?_; intro Df hg w6 hbox hb; have k8 := am_ (hbox); have nJ := am_ (gw_ hg bl_); have Dg := nJ; replace HB := hs_ w hb; clear hb hbox hg; have fu := cellsF2 k8.out) | ((with_reducible refine gate_callee (f := 55) rfl ?_); refine gl_ 5 Tryz.func55 #[.int .i64 ae] ?_ rfl rfl rfl rfl; (with_reducible refine (F55.calls A2.out).mono ?_); rintro e w' ⟨rfl, ⟨nd, rfl⟩⟩; refine ⟨_, rfl, ?_⟩) | (go_at_call 112; (with_reducible refine (F112.calls ?s1 ?s2 A5.out).mono ?_); (case s1 => repeat (first | exact (Kd.C_below br.out bl_) | (with_reducible refine Kd.C_alloc ?_ _) | (with_reducible refine Kd.C_drewN ?_ _) | (with_reducible refine Kd.C_drew ?_))); (case s2 => exact da.out); rintro e w8 ⟨rfl, hb⟩; replace k8 := bb_ k8 hb; replace HB := hs_ w hb; (try clear hb)))
 go_ret
 exact ⟨ax11_, bl_⟩
def F94.f (k : Nat) (ae : Int) (ac : List (S49)) : Option (Bool) := (F95.f k ae ac).bind fun Jd => (some (!Jd))
theorem F94.calls {k : Nat} {ae : Int} {aJ : Option Addr} {aH : Nat} {ac : List (S49)} {r : Bool} {w : World} (aY : Kd.C k49 w aJ ac.length ac) (aZ : ac.length ≤ aH) (h : F94.f k ae ac = some r) :
  Calls Tryz.prog 94 #[.agg #[.int .i64 ae, .slice aJ ac.length aH]] w fun e w' => e = .returned (.bool r) ∧ Below w.heap.size w w' := by
 have mB := Tryz.underlying56
 have br := am_ aY
 have da := am_ aZ
 clear aY aZ
 have HB := am_ (Below.refl w.heap.size w)
 have H := h; unfold F94.f at H
 clear h
 replace H := bi_ H; rcases H with ⟨Jd, A2, H⟩
 obtain rfl := Option.some.inj H
 go_enter Tryz.func94, Tryz.ntmps94
 go_wp2_with (first | ((with_reducible refine gate_dst (N := 1) rfl ?_); refine be_ 1 #[.int .i64 ae, .slice aJ ac.length aH] 56 ?_; intro UG hg w3 hbox hb; have wo := am_ (hbox); have Je := am_ (gw_ hg bl_); have UH := Je; replace HB := hs_ w hb; clear hb hbox hg; have mz := cellsF2 wo.out) | ((with_reducible refine gate_callee (f := 95) rfl ?_); refine gl_ 4 Tryz.func95 #[.agg #[.int .i64 ae, .slice aJ ac.length aH]] ?_ rfl rfl rfl rfl; (with_reducible refine (F95.calls ?s1 ?s2 A2.out).mono ?_); (case s1 => exact ax43_); (case s2 => exact da.out); rintro e w5 ⟨rfl, hb⟩; refine ⟨_, rfl, ?_⟩; replace wo := bb_ wo hb; replace HB := hs_ w hb; (try clear hb)))
 go_ret
 exact ⟨ax11_, bl_⟩
def F111.l0 : Nat → List (S56) → Int → Int → Option (Int)
  | 0, _, _, _ => none
  | k + 1, x0, x7, x8 => if x8 < x7 then (if 0 ≤ x8 then (if x8 < (x0.length : Int) then ((F94.f k ((rd_T56 x0 x8).f0) ((rd_T56 x0 x8).f1)).bind fun Jf => (if Jf = true then (some x8) else (F111.l0 k x0 x7 (wrap64 (x8 + 1))))) else (none)) else (none)) else (some (-1))
def F111.f (k : Nat) (l0 : List (S56))  : Option (Int) := F111.l0 k l0 (l0.length : Int) 0
theorem F111.calls {k : Nat} {A0 : Option Addr} {c0 : Nat} {l0 : List (S56)} {r : Int} {w : World} (bH : Kd.C k56 w A0 l0.length l0) (hc0 : l0.length ≤ c0) (h : F111.f k l0 = some r) :
  Calls Tryz.prog 111 #[.slice A0 l0.length c0, .func (.func 94) #[] #[]] w fun e w' => e = .returned (.int .i64 r) ∧ Below w.heap.size w w' := by
 have mB := Tryz.underlying56
 have fN := am_ bH
 have kt := am_ hc0
 clear bH hc0
 have HB := am_ (Below.refl w.heap.size w)
 have H := h; unfold F111.f at H
 clear h
 have H' := am_ H
 clear H
 go_enter Tryz.func111, Tryz.ntmps111
 go_wp2
 go_loopg [8] k (fun kq v8 w' => ∃ (aX : Int), v8 = .int .i64 aX ∧ Aside0 (F111.l0 kq l0 (l0.length : Int) aX = some r) ∧ Aside0 (kq ≤ k) ∧ Aside0 (Below w.heap.size w w'))
 case atStart => exact ⟨(0), er_, H', ⟨Nat.le_refl _⟩, ⟨bl_⟩⟩
 case round =>
  clear H'
  obtain ⟨aX, rfl, HA, cK, HB⟩ := hrel
  cases gk with
  | zero => exact absurd HA.out (by simp [F111.l0])
  | succ k1 =>
   have H := HA.out
   clear HA
   simp only [F111.l0] at H
   replace H := it_ H; rcases H with ⟨c3b0, H⟩ | ⟨c3b0, H⟩
   rotate_left
   ·obtain rfl := Option.some.inj H
    go_wp2
    go_ret
    exact ⟨ax11_, bl_⟩
   replace H := itn_ H; rcases H with ⟨c4b0, H⟩
   replace H := itn_ H; rcases H with ⟨c5b0, H⟩
   replace H := bi_ H; rcases H with ⟨Jf, A6, H⟩
   replace H := ib_ H; rcases H with ⟨rfl, H⟩ | ⟨rfl, H⟩
   ·obtain rfl := Option.some.inj H
    have oO : 0 ≤ (aX : Int) := od_
    have oP : aX < (l0.length : Int) := od_
    obtain ⟨Jg, EG, EH, EI, hZ, ia, ib, ic⟩ := at_T56 fN.out aX oO oP
    cases EI
    replace hZ := pw_cell_below HB.out hZ
    replace ia := pw_cell_below HB.out ia
    have qy := am_ ic
    have mC := am_ ib
    clear ic ib
    replace oO := eq_true oO
    replace oP := eq_true oP
    go_wp2_with (first | (go_at_call 94; (with_reducible refine (F94.calls ?s1 ?s2 A6.out).mono ?_); (case s1 => exact au1_13); (case s2 => exact mC.out); rintro e w8 ⟨rfl, hb⟩; replace HB := hs_ w hb; (try clear hb)))
    go_ret
    exact ⟨ax11_, bl_⟩
   have H' := am_ H
   clear H
   have oO : 0 ≤ (aX : Int) := od_
   have oP : aX < (l0.length : Int) := od_
   obtain ⟨Jg, EG, EH, EI, hZ, ia, ib, ic⟩ := at_T56 fN.out aX oO oP
   cases EI
   replace hZ := pw_cell_below HB.out hZ
   replace ia := pw_cell_below HB.out ia
   have qy := am_ ic
   have mC := am_ ib
   clear ic ib
   replace oO := eq_true oO
   replace oP := eq_true oP
   go_wp2_with (first | (go_at_call 94; (with_reducible refine (F94.calls ?s1 ?s2 A6.out).mono ?_); (case s1 => exact au1_13); (case s2 => exact mC.out); rintro e w9 ⟨rfl, hb⟩; replace HB := hs_ w hb; (try clear hb)))
   go_roundg k1
   case measure => have := cK.out; omega
   case rel => exact tg1_8
def F93.f (k : Nat) (l0 : List (S56))  : Option (Bool) := (F111.f k l0).bind fun t143 => (some (decide (t143 ≥ 0)))
theorem F93.calls {k : Nat} {A0 : Option Addr} {c0 : Nat} {l0 : List (S56)} {r : Bool} {w : World} (bH : Kd.C k56 w A0 l0.length l0) (hc0 : l0.length ≤ c0) (h : F93.f k l0 = some r) :
  Calls Tryz.prog 93 #[.slice A0 l0.length c0, .func (.func 94) #[] #[]] w fun e w' => e = .returned (.bool r) ∧ Below w.heap.size w w' := by
 have fN := am_ bH
 have kt := am_ hc0
 clear bH hc0
 have HB := am_ (Below.refl w.heap.size w)
 have H := h; unfold F93.f at H
 clear h
 replace H := bi_ H; rcases H with ⟨t143, A3, H⟩
 obtain rfl := Option.some.inj H
 go_enter Tryz.func93, Tryz.ntmps93
 go_wp2_with (first | ((with_reducible refine gate_callee (f := 111) rfl ?_); refine gl_ 7 Tryz.func111 #[.slice A0 l0.length c0, .func (.func 94) #[] #[]] ?_ rfl rfl rfl rfl; (with_reducible refine (F111.calls ?s1 ?s2 A3.out).mono ?_); (case s1 => exact au1_3); (case s2 => exact kt.out); rintro e w4 ⟨rfl, hb⟩; refine ⟨_, rfl, ?_⟩; replace HB := hs_ w hb; (try clear hb)))
 go_ret
 exact ⟨ax11_, bl_⟩
def F59.f (k : Nat) (ae : Int) (ax : Int) (eW : List (S56)) : Option (Bool) := (F56.f ae 1 7).bind fun t145 => (if t145 = true then ((F55.f ax).bind fun Jh => (if Jh = true then ((F56.f (eW.length : Int) 1 10).bind fun Ji => (if Ji = true then ((F93.f k eW).bind fun Jj => (some (!Jj))) else (some false))) else (some false))) else (some false))
theorem F59.calls {k : Nat} {ae ax : Int} {k9 : Option Addr} {la : Nat} {eW : List (S56)} {r : Bool} {w : World} (nK : Kd.C k56 w k9 eW.length eW) (nL : eW.length ≤ la) (h : F59.f k ae ax eW = some r) :
  Calls Tryz.prog 59 #[.agg #[.int .i64 ae, .int .i64 ax, .slice k9 eW.length la]] w fun e w' => e = .returned (.bool r) ∧ Below w.heap.size w w' := by
 have mD := Tryz.underlying53
 have wq := am_ nK
 have wt := am_ nL
 clear nK nL
 have HB := am_ (Below.refl w.heap.size w)
 have H := h; unfold F59.f at H
 clear h
 replace H := bi_ H; rcases H with ⟨t145, A2, H⟩
 replace H := ib_ H; rcases H with ⟨rfl, H⟩ | ⟨rfl, H⟩
 rotate_left
 ·obtain rfl := Option.some.inj H
  go_enter Tryz.func59, Tryz.ntmps59
  go_wp2_with (first | ((with_reducible refine gate_dst (N := 1) rfl ?_); (try (refine gate_guard (by rfl) ?_; dsimp only)); refine be_ 1 #[.int .i64 ae, .int .i64 ax, .slice k9 eW.length la] 53 ?_; intro wu hg EJ hbox hb; have ie := am_ (hbox); have lb := am_ (gw_ hg bl_); have wv := lb; replace HB := hs_ w hb; clear hb hbox hg; have mE := cellsF3 ie.out) | ((with_reducible refine gate_callee (f := 56) rfl ?_); refine gl_ 5 Tryz.func56 #[.int .i64 ae, .int .i64 1, .int .i64 7] ?_ rfl rfl rfl rfl; (with_reducible refine (F56.calls A2.out).mono ?_); rintro e w' ⟨rfl, ⟨nd, rfl⟩⟩; refine ⟨_, rfl, ?_⟩))
  go_ret
  exact ⟨ax11_, bl_⟩
 replace H := bi_ H; rcases H with ⟨Jh, A4, H⟩
 replace H := ib_ H; rcases H with ⟨rfl, H⟩ | ⟨rfl, H⟩
 rotate_left
 ·obtain rfl := Option.some.inj H
  go_enter Tryz.func59, Tryz.ntmps59
  go_wp2_with (first | ((with_reducible refine gate_dst (N := 1) rfl ?_); (try (refine gate_guard (by rfl) ?_; dsimp only)); refine be_ 1 #[.int .i64 ae, .int .i64 ax, .slice k9 eW.length la] 53 ?_; intro wu hg gI hbox hb; have ie := am_ (hbox); have lb := am_ (gw_ hg bl_); have wv := lb; replace HB := hs_ w hb; clear hb hbox hg; have eh := cellsF3 ie.out) | ((with_reducible refine gate_callee (f := 56) rfl ?_); refine gl_ 5 Tryz.func56 #[.int .i64 ae, .int .i64 1, .int .i64 7] ?_ rfl rfl rfl rfl; (with_reducible refine (F56.calls A2.out).mono ?_); rintro e w' ⟨rfl, ⟨nd, rfl⟩⟩; refine ⟨_, rfl, ?_⟩) | (go_at_call 55; (with_reducible refine (F55.calls A4.out).mono ?_); rintro e w' ⟨rfl, ⟨nd, rfl⟩⟩))
  go_ret
  exact ⟨ax11_, bl_⟩
 replace H := bi_ H; rcases H with ⟨Ji, A6, H⟩
 replace H := ib_ H; rcases H with ⟨rfl, H⟩ | ⟨rfl, H⟩
 rotate_left
 ·obtain rfl := Option.some.inj H
  go_enter Tryz.func59, Tryz.ntmps59
  go_wp2_with (first | ((with_reducible refine gate_dst (N := 1) rfl ?_); (try (refine gate_guard (by rfl) ?_; dsimp only)); refine be_ 1 #[.int .i64 ae, .int .i64 ax, .slice k9 eW.length la] 53 ?_; intro wu hg lU hbox hb; have ie := am_ (hbox); have lb := am_ (gw_ hg bl_); have wv := lb; replace HB := hs_ w hb; clear hb hbox hg; have ej := cellsF3 ie.out) | ((with_reducible refine gate_callee (f := 56) rfl ?_); refine gl_ 5 Tryz.func56 #[.int .i64 ae, .int .i64 1, .int .i64 7] ?_ rfl rfl rfl rfl; (with_reducible refine (F56.calls A2.out).mono ?_); rintro e w' ⟨rfl, ⟨nd, rfl⟩⟩; refine ⟨_, rfl, ?_⟩) | (go_at_call 55; (with_reducible refine (F55.calls A4.out).mono ?_); rintro e w' ⟨rfl, ⟨nd, rfl⟩⟩) | (go_at_call 56; (with_reducible refine (F56.calls A6.out).mono ?_); rintro e w' ⟨rfl, ⟨nd, rfl⟩⟩))
  go_ret
  exact ⟨ax11_, bl_⟩
 replace H := bi_ H; rcases H with ⟨Jj, A8, H⟩
 obtain rfl := Option.some.inj H
 go_enter Tryz.func59, Tryz.ntmps59
 go_wp2_with (first | ((with_reducible refine gate_dst (N := 1) rfl ?_); (try (refine gate_guard (by rfl) ?_; dsimp only)); refine be_ 1 #[.int .i64 ae, .int .i64 ax, .slice k9 eW.length la] 53 ?_; intro wu hg w9 hbox hb; have ie := am_ (hbox); have lb := am_ (gw_ hg bl_); have wv := lb; replace HB := hs_ w hb; clear hb hbox hg; have eZ := cellsF3 ie.out) | ((with_reducible refine gate_callee (f := 56) rfl ?_); refine gl_ 5 Tryz.func56 #[.int .i64 ae, .int .i64 1, .int .i64 7] ?_ rfl rfl rfl rfl; (with_reducible refine (F56.calls A2.out).mono ?_); rintro e w' ⟨rfl, ⟨nd, rfl⟩⟩; refine ⟨_, rfl, ?_⟩) | (go_at_call 55; (with_reducible refine (F55.calls A4.out).mono ?_); rintro e w' ⟨rfl, ⟨nd, rfl⟩⟩) | (go_at_call 56; (with_reducible refine (F56.calls A6.out).mono ?_); rintro e w' ⟨rfl, ⟨nd, rfl⟩⟩) | (go_at_call 93; (with_reducible refine (F93.calls ?s1 ?s2 A8.out).mono ?_); (case s1 => repeat (first | exact (Kd.C_below wq.out bl_) | (with_reducible refine Kd.C_alloc ?_ _) | (with_reducible refine Kd.C_drewN ?_ _) | (with_reducible refine Kd.C_drew ?_))); (case s2 => exact wt.out); rintro e wj ⟨rfl, hb⟩; replace ie := bb_ ie hb; replace HB := hs_ w hb; (try clear hb)))
 go_ret
 exact ⟨ax11_, bl_⟩
def F58.f (k : Nat) (ae : Int) (ax : Int) (eW : List (S56)) : Option (Bool) := (F59.f k ae ax eW).bind fun Jk => (some (!Jk))
theorem F58.calls {k : Nat} {ae ax : Int} {k9 : Option Addr} {la : Nat} {eW : List (S56)} {r : Bool} {w : World} (nK : Kd.C k56 w k9 eW.length eW) (nL : eW.length ≤ la) (h : F58.f k ae ax eW = some r) :
  Calls Tryz.prog 58 #[.agg #[.int .i64 ae, .int .i64 ax, .slice k9 eW.length la]] w fun e w' => e = .returned (.bool r) ∧ Below w.heap.size w w' := by
 have mD := Tryz.underlying53
 have wq := am_ nK
 have wt := am_ nL
 clear nK nL
 have HB := am_ (Below.refl w.heap.size w)
 have H := h; unfold F58.f at H
 clear h
 replace H := bi_ H; rcases H with ⟨Jk, A2, H⟩
 obtain rfl := Option.some.inj H
 go_enter Tryz.func58, Tryz.ntmps58
 go_wp2_with (first | ((with_reducible refine gate_dst (N := 1) rfl ?_); refine be_ 1 #[.int .i64 ae, .int .i64 ax, .slice k9 eW.length la] 53 ?_; intro UI hg w3 hbox hb; have ww := am_ (hbox); have Jl := am_ (gw_ hg bl_); have UJ := Jl; replace HB := hs_ w hb; clear hb hbox hg; have mz := cellsF3 ww.out) | ((with_reducible refine gate_callee (f := 59) rfl ?_); refine gl_ 4 Tryz.func59 #[.agg #[.int .i64 ae, .int .i64 ax, .slice k9 eW.length la]] ?_ rfl rfl rfl rfl; (with_reducible refine (F59.calls ?s1 ?s2 A2.out).mono ?_); (case s1 => repeat (first | exact (Kd.C_below wq.out HB.out) | (with_reducible refine Kd.C_alloc ?_ _) | (with_reducible refine Kd.C_drewN ?_ _) | (with_reducible refine Kd.C_drew ?_))); (case s2 => exact wt.out); rintro e w5 ⟨rfl, hb⟩; refine ⟨_, rfl, ?_⟩; replace ww := bb_ ww hb; replace HB := hs_ w hb; (try clear hb)))
 go_ret
 exact ⟨ax11_, bl_⟩
def F92.l0 : Nat → List (S53) → Int → Int → Option (Int)
  | 0, _, _, _ => none
  | k + 1, x0, x7, x8 => if x8 < x7 then (if 0 ≤ x8 then (if x8 < (x0.length : Int) then ((F58.f k ((rd_T53 x0 x8).f0) ((rd_T53 x0 x8).f1) ((rd_T53 x0 x8).f2)).bind fun Jm => (if Jm = true then (some x8) else (F92.l0 k x0 x7 (wrap64 (x8 + 1))))) else (none)) else (none)) else (some (-1))
def F92.f (k : Nat) (l0 : List (S53))  : Option (Int) := F92.l0 k l0 (l0.length : Int) 0
theorem F92.calls {k : Nat} {A0 : Option Addr} {c0 : Nat} {l0 : List (S53)} {r : Int} {w : World} (bH : Kd.C k53 w A0 l0.length l0) (hc0 : l0.length ≤ c0) (h : F92.f k l0 = some r) :
  Calls Tryz.prog 92 #[.slice A0 l0.length c0, .func (.func 58) #[] #[]] w fun e w' => e = .returned (.int .i64 r) ∧ Below w.heap.size w w' := by
 have mD := Tryz.underlying53
 have fN := am_ bH
 have kt := am_ hc0
 clear bH hc0
 have HB := am_ (Below.refl w.heap.size w)
 have H := h; unfold F92.f at H
 clear h
 have H' := am_ H
 clear H
 go_enter Tryz.func92, Tryz.ntmps92
 go_wp2
 go_loopg [8] k (fun kq v8 w' => ∃ (aX : Int), v8 = .int .i64 aX ∧ Aside0 (F92.l0 kq l0 (l0.length : Int) aX = some r) ∧ Aside0 (kq ≤ k) ∧ Aside0 (Below w.heap.size w w'))
 case atStart => exact ⟨(0), er_, H', ⟨Nat.le_refl _⟩, ⟨bl_⟩⟩
 case round =>
  clear H'
  obtain ⟨aX, rfl, HA, cK, HB⟩ := hrel
  cases gk with
  | zero => exact absurd HA.out (by simp [F92.l0])
  | succ k1 =>
   have H := HA.out
   clear HA
   simp only [F92.l0] at H
   replace H := it_ H; rcases H with ⟨c3b0, H⟩ | ⟨c3b0, H⟩
   rotate_left
   ·obtain rfl := Option.some.inj H
    go_wp2
    go_ret
    exact ⟨ax11_, bl_⟩
   replace H := itn_ H; rcases H with ⟨c4b0, H⟩
   replace H := itn_ H; rcases H with ⟨c5b0, H⟩
   replace H := bi_ H; rcases H with ⟨Jm, A6, H⟩
   replace H := ib_ H; rcases H with ⟨rfl, H⟩ | ⟨rfl, H⟩
   ·obtain rfl := Option.some.inj H
    have oQ : 0 ≤ (aX : Int) := od_
    have oR : aX < (l0.length : Int) := od_
    obtain ⟨Jn, EK, EM, EN, ig, ii, ij, ik, il⟩ := at_T53 fN.out aX oQ oR
    cases EN
    replace ig := pw_cell_below HB.out ig
    replace ii := pw_cell_below HB.out ii
    replace ij := pw_cell_below HB.out ij
    have qz := am_ il
    have mF := am_ ik
    clear il ik
    replace oQ := eq_true oQ
    replace oR := eq_true oR
    go_wp2_with (first | (go_at_call 58; (with_reducible refine (F58.calls ?s1 ?s2 A6.out).mono ?_); (case s1 => exact au1_14); (case s2 => exact mF.out); rintro e w8 ⟨rfl, hb⟩; replace HB := hs_ w hb; (try clear hb)))
    go_ret
    exact ⟨ax11_, bl_⟩
   have H' := am_ H
   clear H
   have oQ : 0 ≤ (aX : Int) := od_
   have oR : aX < (l0.length : Int) := od_
   obtain ⟨Jn, EK, EM, EN, ig, ii, ij, ik, il⟩ := at_T53 fN.out aX oQ oR
   cases EN
   replace ig := pw_cell_below HB.out ig
   replace ii := pw_cell_below HB.out ii
   replace ij := pw_cell_below HB.out ij
   have qz := am_ il
   have mF := am_ ik
   clear il ik
   replace oQ := eq_true oQ
   replace oR := eq_true oR
   go_wp2_with (first | (go_at_call 58; (with_reducible refine (F58.calls ?s1 ?s2 A6.out).mono ?_); (case s1 => exact au1_14); (case s2 => exact mF.out); rintro e w9 ⟨rfl, hb⟩; replace HB := hs_ w hb; (try clear hb)))
   go_roundg k1
   case measure => have := cK.out; omega
   case rel => exact tg1_8
def F57.f (k : Nat) (l0 : List (S53))  : Option (Bool) := (F92.f k l0).bind fun Jo => (some (decide (Jo ≥ 0)))
theorem F57.calls {k : Nat} {A0 : Option Addr} {c0 : Nat} {l0 : List (S53)} {r : Bool} {w : World} (bH : Kd.C k53 w A0 l0.length l0) (hc0 : l0.length ≤ c0) (h : F57.f k l0 = some r) :
  Calls Tryz.prog 57 #[.slice A0 l0.length c0, .func (.func 58) #[] #[]] w fun e w' => e = .returned (.bool r) ∧ Below w.heap.size w w' := by
 have fN := am_ bH
 have kt := am_ hc0
 clear bH hc0
 have HB := am_ (Below.refl w.heap.size w)
 have H := h; unfold F57.f at H
 clear h
 replace H := bi_ H; rcases H with ⟨Jo, A3, H⟩
 obtain rfl := Option.some.inj H
 go_enter Tryz.func57, Tryz.ntmps57
 go_wp2_with (first | ((with_reducible refine gate_callee (f := 92) rfl ?_); refine gl_ 7 Tryz.func92 #[.slice A0 l0.length c0, .func (.func 58) #[] #[]] ?_ rfl rfl rfl rfl; (with_reducible refine (F92.calls ?s1 ?s2 A3.out).mono ?_); (case s1 => exact au1_3); (case s2 => exact kt.out); rintro e w4 ⟨rfl, hb⟩; refine ⟨_, rfl, ?_⟩; replace HB := hs_ w hb; (try clear hb)))
 go_ret
 exact ⟨ax11_, bl_⟩
def F29.f (k : Nat) (ae : ByteArray) (ax : ByteArray) (aM : Int) (af : List (S53)) : Option (Bool) := (F54.f k ae).bind fun Jp => (if Jp = true then ((F54.f k ax).bind fun Jq => (if Jq = true then ((F55.f aM).bind fun Jr => (if Jr = true then ((F56.f (af.length : Int) 1 5).bind fun Js => (if Js = true then ((F57.f k af).bind fun Jt => (some (!Jt))) else (some false))) else (some false))) else (some false))) else (some false))
theorem F29.calls {k : Nat} {ae ax : ByteArray} {aM : Int} {cl : Option Addr} {bN : Nat} {af : List (S53)} {r : Bool} {w : World} (dW : Kd.C k53 w cl af.length af) (dX : af.length ≤ bN) (h : F29.f k ae ax aM af = some r) :
  Calls Tryz.prog 29 #[.agg #[.string ae, .string ax, .int .i64 aM, .slice cl af.length bN]] w fun e w' => e = .returned (.bool r) ∧ Below w.heap.size w w' := by
 have gJ := Tryz.underlying30
 have gV := am_ dW
 have gv := am_ dX
 clear dW dX
 have HB := am_ (Below.refl w.heap.size w)
 have H := h; unfold F29.f at H
 clear h
 replace H := bi_ H; rcases H with ⟨Jp, A2, H⟩
 replace H := ib_ H; rcases H with ⟨rfl, H⟩ | ⟨rfl, H⟩
 rotate_left
 ·obtain rfl := Option.some.inj H
  go_enter Tryz.func29, Tryz.ntmps29
  go_wp2_with (first | ((with_reducible refine gate_dst (N := 1) rfl ?_); (try (refine gate_guard (by rfl) ?_; dsimp only)); refine be_ 1 #[.string ae, .string ax, .int .i64 aM, .slice cl af.length bN] 30 ?_; intro qH hg Qo hbox hb; have fO := am_ (hbox); have im := am_ (gw_ hg bl_); have qI := im; replace HB := hs_ w hb; clear hb hbox hg; have zI := cellsF4 fO.out) | ((with_reducible refine gate_callee (f := 54) rfl ?_); refine gl_ 5 Tryz.func54 #[.string ae] ?_ rfl rfl rfl rfl; (with_reducible refine (F54.calls A2.out).mono ?_); rintro e w' ⟨rfl, ⟨nd, rfl⟩⟩; refine ⟨_, rfl, ?_⟩))
  go_ret
  exact ⟨ax11_, bl_⟩
 replace H := bi_ H; rcases H with ⟨Jq, A4, H⟩
 replace H := ib_ H; rcases H with ⟨rfl, H⟩ | ⟨rfl, H⟩
 rotate_left
 ·obtain rfl := Option.some.inj H
  go_enter Tryz.func29, Tryz.ntmps29
  go_wp2_with (first | ((with_reducible refine gate_dst (N := 1) rfl ?_); (try (refine gate_guard (by rfl) ?_; dsimp only)); refine be_ 1 #[.string ae, .string ax, .int .i64 aM, .slice cl af.length bN] 30 ?_; intro qH hg zx hbox hb; have fO := am_ (hbox); have im := am_ (gw_ hg bl_); have qI := im; replace HB := hs_ w hb; clear hb hbox hg; have io := cellsF4 fO.out) | ((with_reducible refine gate_callee (f := 54) rfl ?_); refine gl_ 5 Tryz.func54 #[.string ae] ?_ rfl rfl rfl rfl; (with_reducible refine (F54.calls A2.out).mono ?_); rintro e w' ⟨rfl, ⟨nd, rfl⟩⟩; refine ⟨_, rfl, ?_⟩) | (go_at_call 54; (with_reducible refine (F54.calls A4.out).mono ?_); rintro e w' ⟨rfl, ⟨nd, rfl⟩⟩))
  go_ret
  exact ⟨ax11_, bl_⟩
 replace H := bi_ H; rcases H with ⟨Jr, A6, H⟩
 replace H := ib_ H; rcases H with ⟨rfl, H⟩ | ⟨rfl, H⟩
 rotate_left
 ·obtain rfl := Option.some.inj H
  go_enter Tryz.func29, Tryz.ntmps29
  go_wp2_with (first | ((with_reducible refine gate_dst (N := 1) rfl ?_); (try (refine gate_guard (by rfl) ?_; dsimp only)); refine be_ 1 #[.string ae, .string ax, .int .i64 aM, .slice cl af.length bN] 30 ?_; intro qH hg EJ hbox hb; have fO := am_ (hbox); have im := am_ (gw_ hg bl_); have qI := im; replace HB := hs_ w hb; clear hb hbox hg; have mE := cellsF4 fO.out) | ((with_reducible refine gate_callee (f := 54) rfl ?_); refine gl_ 5 Tryz.func54 #[.string ae] ?_ rfl rfl rfl rfl; (with_reducible refine (F54.calls A2.out).mono ?_); rintro e w' ⟨rfl, ⟨nd, rfl⟩⟩; refine ⟨_, rfl, ?_⟩) | (go_at_call 54; (with_reducible refine (F54.calls A4.out).mono ?_); rintro e w' ⟨rfl, ⟨nd, rfl⟩⟩) | (go_at_call 55; (with_reducible refine (F55.calls A6.out).mono ?_); rintro e w' ⟨rfl, ⟨nd, rfl⟩⟩))
  go_ret
  exact ⟨ax11_, bl_⟩
 replace H := bi_ H; rcases H with ⟨Js, A8, H⟩
 replace H := ib_ H; rcases H with ⟨rfl, H⟩ | ⟨rfl, H⟩
 rotate_left
 ·obtain rfl := Option.some.inj H
  go_enter Tryz.func29, Tryz.ntmps29
  go_wp2_with (first | ((with_reducible refine gate_dst (N := 1) rfl ?_); (try (refine gate_guard (by rfl) ?_; dsimp only)); refine be_ 1 #[.string ae, .string ax, .int .i64 aM, .slice cl af.length bN] 30 ?_; intro qH hg gI hbox hb; have fO := am_ (hbox); have im := am_ (gw_ hg bl_); have qI := im; replace HB := hs_ w hb; clear hb hbox hg; have eh := cellsF4 fO.out) | ((with_reducible refine gate_callee (f := 54) rfl ?_); refine gl_ 5 Tryz.func54 #[.string ae] ?_ rfl rfl rfl rfl; (with_reducible refine (F54.calls A2.out).mono ?_); rintro e w' ⟨rfl, ⟨nd, rfl⟩⟩; refine ⟨_, rfl, ?_⟩) | (go_at_call 54; (with_reducible refine (F54.calls A4.out).mono ?_); rintro e w' ⟨rfl, ⟨nd, rfl⟩⟩) | (go_at_call 55; (with_reducible refine (F55.calls A6.out).mono ?_); rintro e w' ⟨rfl, ⟨nd, rfl⟩⟩) | (go_at_call 56; (with_reducible refine (F56.calls A8.out).mono ?_); rintro e w' ⟨rfl, ⟨nd, rfl⟩⟩))
  go_ret
  exact ⟨ax11_, bl_⟩
 replace H := bi_ H; rcases H with ⟨Jt, qB, H⟩
 obtain rfl := Option.some.inj H
 go_enter Tryz.func29, Tryz.ntmps29
 go_wp2_with (first | ((with_reducible refine gate_dst (N := 1) rfl ?_); (try (refine gate_guard (by rfl) ?_; dsimp only)); refine be_ 1 #[.string ae, .string ax, .int .i64 aM, .slice cl af.length bN] 30 ?_; intro qH hg wj hbox hb; have fO := am_ (hbox); have im := am_ (gw_ hg bl_); have qI := im; replace HB := hs_ w hb; clear hb hbox hg; have ei := cellsF4 fO.out) | ((with_reducible refine gate_callee (f := 54) rfl ?_); refine gl_ 5 Tryz.func54 #[.string ae] ?_ rfl rfl rfl rfl; (with_reducible refine (F54.calls A2.out).mono ?_); rintro e w' ⟨rfl, ⟨nd, rfl⟩⟩; refine ⟨_, rfl, ?_⟩) | (go_at_call 54; (with_reducible refine (F54.calls A4.out).mono ?_); rintro e w' ⟨rfl, ⟨nd, rfl⟩⟩) | (go_at_call 55; (with_reducible refine (F55.calls A6.out).mono ?_); rintro e w' ⟨rfl, ⟨nd, rfl⟩⟩) | (go_at_call 56; (with_reducible refine (F56.calls A8.out).mono ?_); rintro e w' ⟨rfl, ⟨nd, rfl⟩⟩) | (go_at_call 57; (with_reducible refine (F57.calls ?s1 ?s2 qB.out).mono ?_); (case s1 => repeat (first | exact (Kd.C_below gV.out bl_) | (with_reducible refine Kd.C_alloc ?_ _) | (with_reducible refine Kd.C_drewN ?_ _) | (with_reducible refine Kd.C_drew ?_))); (case s2 => exact gv.out); rintro e Oi ⟨rfl, hb⟩; replace fO := bb_ fO hb; replace HB := hs_ w hb; (try clear hb)))
 go_ret
 exact ⟨ax11_, bl_⟩
def F60.l0 : Nat → List ByteArray → Int → Int → ByteArray → List (S91) → Option (ByteArray × (List (S91)))
  | 0, _, _, _, _, _ => none
  | k + 1, EO, Ju, uu, qJ, mG => if uu < Ju then (if 0 ≤ uu then (if uu < (EO.length : Int) then (if mG.length < 5864062014805 then (F60.l0 k EO Ju (wrap64 (uu + 1)) qJ (mG ++ [(⟨(([rdOf ByteArray.empty EO uu] : List ByteArray))⟩ : S91)])) else (none)) else (none)) else (none)) else (some (qJ, mG))
def F60.f (k : Nat) (a0 : ByteArray) (l1 : List ByteArray) : Option (ByteArray × (List (S91))) := F60.l0 k l1 (l1.length : Int) 0 a0 ([] : List (S91))
theorem F60.calls {k : Nat} {a0 : ByteArray} {A1 : Option Addr} {c1 : Nat} {l1 : List ByteArray} {r1 : ByteArray} {r2 : List (S91)} {w : World} (hr1 : Kd.C Kd.string w A1 l1.length l1) (hc1 : l1.length ≤ c1) (h : F60.f k a0 l1 = some (r1, r2)) :
  Calls Tryz.prog 60 #[.string a0, .slice A1 l1.length c1] w fun e w' => ∃ nM : Value, e = .returned (.agg #[.string r1, nM]) ∧ Kd.S k91 91 w' w.heap.size (fun _ => True) nM r2 ∧ Below w.heap.size w w' := by
 have dk := Tryz.underlying49
 have kX := Tryz.underlying91
 have Jv := am_ hr1
 have fM := am_ hc1
 clear hr1 hc1
 have HB := am_ (Below.refl w.heap.size w)
 have H := h; unfold F60.f at H
 clear h
 have H' := am_ H
 clear H
 go_enter Tryz.func60, Tryz.ntmps60
 go_wp2_with (first | ((with_reducible refine gate_dst (N := 4) rfl ?_); refine be_ 4 #[.string (⟨#[]⟩ : ByteArray), .slice none 0 0] 49 ?_; intro qK hg w3 hbox hb; have eG := am_ (hbox); have Jw := am_ (gw_ hg bl_); have UK := Jw; replace HB := hs_ w hb; clear hb hbox hg) | ((with_reducible refine gate_dst (N := 5) rfl ?_); refine be_ 5 #[.string (⟨#[]⟩ : ByteArray), .slice none 0 0] 49 ?_; intro Dh hg w4 hbox hb; have fl := am_ (hbox); have Jx := am_ (gw_ hg bl_); have UL := Jx; replace HB := hs_ w hb; have H9 := am_ (gn_ hg (blkl_ eG)); have jP := am_ (gm_ hg (blkl_ eG)); replace eG := bb_ eG hb; clear hb hbox hg; obtain ⟨Qp, Qq⟩ := nn_ jP; have gK := cellsF2 fl.out))
 go_loopg [12] k (fun kq Jy w' => ∃ (bC : Int) (cM : List (S91)) (gh : Value), Jy = .int .i64 bC ∧ Aside0 (F60.l0 kq l1 (l1.length : Int) bC a0 cM = some (r1, r2)) ∧ Aside0 (kq ≤ k) ∧ Aside0 (Kd.S k91 91 w' w.heap.size (fun _ => True) gh cM) ∧ Aside0 (w'.heap[qK]? = some (.cells #[.string (⟨#[]⟩ : ByteArray), (.slice none 0 0)] 49 (0, 0))) ∧ Aside0 (w'.heap[Dh]? = some (.cells #[.string a0, gh] 49 (0, 0))) ∧ Aside0 (Below w.heap.size w w'))
 case atStart => exact ⟨(0), (([] : List (S91))), (.slice none 0 0), er_, H', ⟨Nat.le_refl _⟩, ⟨ax8_⟩, ⟨bf_ eG⟩, ⟨bq_ fl⟩, ⟨bl_⟩⟩
 case round =>
  clear H'
  try clear c1
  try clear gK
  obtain ⟨bC, cM, gh, rfl, HA, cK, cE, eG, fl, HB⟩ := hrel
  cases gk with
  | zero => exact absurd HA.out (by simp [F60.l0])
  | succ k1 =>
   have H := HA.out
   clear HA
   simp only [F60.l0] at H
   replace H := it_ H; rcases H with ⟨c7b0, H⟩ | ⟨c7b0, H⟩
   rotate_left
   ·simp only [Option.some.injEq, Prod.mk.injEq] at H
    obtain ⟨rfl, rfl⟩ := H
    obtain ⟨Di, Dj⟩ := nn_ jP
    have fv := cellsF2 fl.out
    have zI := cellsF2 eG.out
    obtain ⟨EP, EQ, ER⟩ := Kd.S_slice cE.out
    subst ER
    go_wp2
    refine bodyPost_ret (results_cell_row rfl _ _ qK 49 #[.string a0, .slice EP cM.length EQ] (0, 0) _ rfl (bq_ eG) Tryz.underlying49 rfl (by kernel_rfl)) rfl ?_
    exact ⟨_, ax11_, by (with_reducible repeat (first | apply Kd.S_alloc | apply Kd.S_drewN | apply Kd.S_drew)); exact Kd.S_mono (Kd.S_far (p := ⟨qK, 1, none⟩) (Kd.S_far (p := ⟨qK, 0, none⟩) (Kd.S_types cE.out eG.out (by decide)) (fun _ hk => hk.2) (.string a0)) (fun _ hk => hk.2) (.slice EP cM.length EQ)) (fun _ hk => trivial), bl_⟩
   replace H := itn_ H; rcases H with ⟨c8b0, H⟩
   replace H := itn_ H; rcases H with ⟨c9b0, H⟩
   obtain ⟨uv, wx⟩ : ∃ y_ : List ByteArray, y_ = (([rdOf ByteArray.empty l1 bC] : List ByteArray)) := ⟨_, rfl⟩
   replace H : (if cM.length < 5864062014805 then (F60.l0 k1 l1 (l1.length : Int) (wrap64 (bC + 1)) a0 (cM ++ [(⟨uv⟩ : S91)])) else (none)) = some (r1, r2) := by first | (rw [wx]; exact H) | exact H
   have Dk := am_ wx
   clear wx
   replace H := iln_ H; rcases H with ⟨Jz, H⟩
   obtain ⟨zJ, wy⟩ : ∃ y_ : List (S91), y_ = (cM ++ [(⟨uv⟩ : S91)]) := ⟨_, rfl⟩
   replace H : (F60.l0 k1 l1 (l1.length : Int) (wrap64 (bC + 1)) a0 zJ) = some (r1, r2) := by first | (rw [wy]; exact H) | exact H
   have JA := am_ wy
   clear wy
   have H' := am_ H
   clear H
   have ES : 0 ≤ (bC : Int) := od_
   have ET : bC < (l1.length : Int) := od_
   obtain ⟨UM, Qr, qL⟩ := Kd.at_string Jv.out bC ES ET
   cases Qr
   replace qL := pw_cell_below HB.out qL
   replace ES := eq_true ES
   replace ET := eq_true ET
   obtain ⟨Dl, Dm⟩ := nn_ jP
   have ei := cellsF2 fl.out
   go_wp2_with (first | ((with_reducible refine gate_dst (N := 19) rfl ?_); refine Kd.R_lit Kd.string _ 9 ?hg (N := 19) ?hd (xs := ([rdOf ByteArray.empty l1 bC] : List ByteArray)) (inner := [.string (rdOf ByteArray.empty l1 bC)]) (ok := fun _ => True) (okp := fun _ => True) ?hr ?hp (fun _ hk => hk) trivial (Below.refl _ _) (Nat.le_refl _) (by simp) ?_; (case hd => rfl); (case hg => rfl); (case hr => exact hr_); (case hp => exact (Reps.one (show Kd.M Kd.string _ _ _ (rdOf ByteArray.empty l1 bC) [.string (rdOf ByteArray.empty l1 bC)] from rfl) (Reps.none _ _))); intro XW Oi uw hb hg_ hnew_; clear hg_ hnew_; (first | rw [← Dk.out] at uw | (simp only [Int.reduceToNat] at uw; rw [← Dk.out] at uw)); replace cE := am_ (Kd.S_elder' (by (with_reducible repeat (first | apply Kd.S_alloc | apply Kd.S_drewN | apply Kd.S_drew)); exact cE.out) (Kd.R_base uw) hb); have qM := am_ (Kd.R_lower uw (below_size bl_)); replace eG := bb_ eG hb; replace fl := bb_ fl hb; replace HB := hs_ w hb; clear hb uw; obtain ⟨ux, uy, uz⟩ := Kd.R_slice qM.out; subst uz) | ((with_reducible refine gate_builtin (b := .append) (xs := #[.tmp 17, .tmp 21]) rfl ?_); at_builtin; refine Kd.S_append k91 (w0 := w) w.heap.size rfl (.tmp 17) (.tmp 21) 47 91 (.agg #[(.slice none 0 0)]) 24 rfl Tryz.underlying47 info91 rfl (by decide) (by omega) gh cM (⟨uv⟩ : S91) [.slice ux uv.length uy] (fun _ => True) (fun k_ => some k_ = (.slice ux uv.length uy : Value).ownBlock) rfl rfl ?aP (fun k_ hk_ => ((Kd.R_mono (ok' := fun k_ => ((fun _ => True)) k_ ∧ some k_ ≠ (gh : Value).ownBlock) (Kd.R_apart' (qM.out) (Kd.S_typed cE.out) (by decide)) (fun k_ hk => ⟨trivial, hk.2⟩))).1 k_ hk_.symm) ?aF ?aO ?aB ?aS ?aL ?_; (case aP => exact k91_mkM _ _ _ (⟨uv⟩ : S91) (Kd.R_mono (Kd.R_tight rfl (Kd.R_mono (ok' := fun k_ => ((fun _ => True)) k_ ∧ some k_ ≠ (gh : Value).ownBlock) (Kd.R_apart' (qM.out) (Kd.S_typed cE.out) (by decide)) (fun k_ hk => ⟨trivial, hk.2⟩))) (fun _ h_ => h_))); (case aB => exact bl_); (case aF => exact (fun _ _ => trivial)); (case aO => exact (by (with_reducible repeat (first | apply Kd.S_alloc | apply Kd.S_drewN | apply Kd.S_drew)); exact Kd.S_mono cE.out (fun k_ hk => ⟨trivial, fun e_ => hk.2 e_⟩))); (case aS => exact (below_size bl_)); (case aL => have := Jz.out; omega); intro v167 EJ ho hb hg hat; rw [← JA.out] at ho; replace eG := am_ (bg_ eG hg (Kd.S_ne cE.out eG.out (by decide))); replace fl := am_ (bg_ fl hg (Kd.S_ne cE.out fl.out (by decide))); replace HB := am_ (hb); have Dn := am_ (ho); clear cE qM; clear ho hb hg hat; obtain ⟨EU, EV, EW⟩ := Kd.S_slice Dn.out; subst EW; have qN := cellsF2 fl.out))
   go_roundg k1
   case measure => have := cK.out; omega
   case rel => exact ⟨(wrap64 (bC + 1)), (zJ), (.slice EU zJ.length EV), er_, H', ⟨by have := cK.out; omega⟩, ⟨by (with_reducible repeat (first | apply Kd.S_alloc | apply Kd.S_drewN | apply Kd.S_drew)); exact Kd.S_mono (Kd.S_far (p := ⟨Dh, 1, none⟩) (Kd.S_types Dn.out fl.out (by decide)) (fun _ hk => hk.2) (.slice EU zJ.length EV)) (fun _ hk => trivial)⟩, ⟨bf_ eG⟩, ⟨bq_ fl⟩, ⟨bl_⟩⟩
open Go.Shelf
def F96.ren : Go.Shelf.Ren := ⟨fun x => match x with | 173 => 96 | 246 => 114 | 283 => 126 | 284 => 127 | 285 => 128 | 286 => 129 | 129 => 137 | 317 => 136 | 318 => 138 | 319 => 139 | 320 => 140 | 337 => 148 | 338 => 149 | n => n, fun x => match x with | 2 => 2 | 3 => 3 | 9 => 9 | 4 => 4 | 171 => 163 | 0 => 0 | 53 => 102 | 37 => 37 | 5 => 5 | 173 => 166 | 212 => 177 | 51 => 178 | 20 => 20 | 213 => 179 | 46 => 132 | 232 => 199 | 233 => 200 | n => n, fun x => match x with | 17 => 0 | 18 => 3 | 19 => 4 | n => n⟩
theorem F96.lays : LaysM.n173 Tryz.prog F96.ren where
 mixed := by kernel_rfl
 f129 := Tryz.func137.trans (congrArg some (by kernel_rfl))
 f173 := Tryz.func96.trans (congrArg some (by kernel_rfl))
 f246 := Tryz.func114.trans (congrArg some (by kernel_rfl))
 f283 := Tryz.func126.trans (congrArg some (by kernel_rfl))
 f284 := Tryz.func127.trans (congrArg some (by kernel_rfl))
 f285 := Tryz.func128.trans (congrArg some (by kernel_rfl))
 f286 := Tryz.func129.trans (congrArg some (by kernel_rfl))
 f317 := Tryz.func136.trans (congrArg some (by kernel_rfl))
 f318 := Tryz.func138.trans (congrArg some (by kernel_rfl))
 f319 := Tryz.func139.trans (congrArg some (by kernel_rfl))
 f320 := Tryz.func140.trans (congrArg some (by kernel_rfl))
 f337 := Tryz.func148.trans (congrArg some (by kernel_rfl))
 f338 := Tryz.func149.trans (congrArg some (by kernel_rfl))
 t0 := Tryz.underlying0
 a0 := Tryz.isAgg0
 z0 := Tryz.sizeOf0
 v0 := Tryz.zeroValue0
 t2 := Tryz.underlying2
 a2 := Tryz.isAgg2
 z2 := Tryz.sizeOf2
 v2 := Tryz.zeroValue2
 t3 := Tryz.underlying3
 a3 := Tryz.isAgg3
 z3 := Tryz.sizeOf3
 v3 := Tryz.zeroValue3
 t4 := Tryz.underlying4
 a4 := Tryz.isAgg4
 z4 := Tryz.sizeOf4
 v4 := Tryz.zeroValue4
 t5 := Tryz.underlying5
 a5 := Tryz.isAgg5
 z5 := Tryz.sizeOf5
 v5 := Tryz.zeroValue5
 t9 := Tryz.underlying9
 a9 := Tryz.isAgg9
 z9 := Tryz.sizeOf9
 v9 := Tryz.zeroValue9
 t20 := Tryz.underlying20
 a20 := Tryz.isAgg20
 z20 := Tryz.sizeOf20
 v20 := Tryz.zeroValue20
 t37 := Tryz.underlying37
 a37 := Tryz.isAgg37
 z37 := Tryz.sizeOf37
 v37 := Tryz.zeroValue37
 t46 := Tryz.underlying132
 a46 := Tryz.isAgg132
 z46 := Tryz.sizeOf132
 v46 := Tryz.zeroValue132
 t51 := Tryz.underlying178
 a51 := Tryz.isAgg178
 z51 := Tryz.sizeOf178
 v51 := Tryz.zeroValue178
 t53 := Tryz.underlying102
 a53 := Tryz.isAgg102
 z53 := Tryz.sizeOf102
 v53 := Tryz.zeroValue102
 t171 := Tryz.underlying163
 a171 := Tryz.isAgg163
 z171 := Tryz.sizeOf163
 v171 := Tryz.zeroValue163
 t173 := Tryz.underlying166
 a173 := Tryz.isAgg166
 z173 := Tryz.sizeOf166
 v173 := Tryz.zeroValue166
 t212 := Tryz.underlying177
 a212 := Tryz.isAgg177
 z212 := Tryz.sizeOf177
 v212 := Tryz.zeroValue177
 t213 := Tryz.underlying179
 a213 := Tryz.isAgg179
 z213 := Tryz.sizeOf179
 t232 := Tryz.underlying199
 a232 := Tryz.isAgg199
 z232 := Tryz.sizeOf199
 v232 := Tryz.zeroValue199
 t233 := Tryz.underlying200
 a233 := Tryz.isAgg200
 z233 := Tryz.sizeOf200
 v233 := Tryz.zeroValue200
 g17 := by kernel_rfl
 g18 := by kernel_rfl
 g19 := by kernel_rfl
 i0 := by kernel_rfl
 i2 := by kernel_rfl
 i3 := by kernel_rfl
 i4 := by kernel_rfl
 i5 := by kernel_rfl
 i9 := by kernel_rfl
 i20 := by kernel_rfl
 i37 := by kernel_rfl
 i46 := by kernel_rfl
 i51 := by kernel_rfl
 i53 := by kernel_rfl
 i171 := by kernel_rfl
 i173 := by kernel_rfl
 i212 := by kernel_rfl
 i232 := by kernel_rfl
 i233 := by kernel_rfl
 m17 := by kernel_rfl
 m18 := by kernel_rfl
 m19 := by kernel_rfl
def F96.f (a0 : Int) (a1 : Int) : Option ByteArray := if a1 = 10 then (if -9223372036854775808 ≤ a0 ∧ a0 ≤ 9223372036854775807 then (some ⟨(Lib.itoa a0).toArray⟩) else (none)) else (none)
theorem F96.calls {a0 a1 : Int} {r : ByteArray} {w : World} (hT : LaidT true Tryz.prog w) (h : F96.f a0 a1 = some r) :
  Calls Tryz.prog 96 #[.int .i64 a0, .int .i64 a1] w fun e w' => e = .returned (.string r) ∧ Below w.heap.size w w' := by
 unfold F96.f at h
 by_cases h1 : a1 = 10
 rotate_left
 ·rw [if_neg h1] at h
  cases h
 rw [if_pos h1] at h
 by_cases h2 : -9223372036854775808 ≤ a0 ∧ a0 ≤ 9223372036854775807
 rotate_left
 ·rw [if_neg h2] at h
  cases h
 rw [if_pos h2] at h
 subst h1
 obtain rfl := Option.some.inj h
 refine (Any.strconv_FormatInt_10 F96.lays a0 h2.1 h2.2 w hT.pow).mono ?_
 rintro e w' ⟨rfl, k, os, rfl⟩
 refine ⟨rfl, rfl, rfl, rfl, ?_, fun j hj => Array.getElem?_append_left hj⟩
 show w.heap.size ≤ (w.heap ++ os).size
 rw [Array.size_append]
 omega
def F61.f (a0 : Int) : Option (ByteArray) := (F96.f a0 10).bind fun JB => (some JB)
theorem F61.calls {a0 : Int} {r : ByteArray} {w : World} (hT : LaidT true Tryz.prog w) (h : F61.f a0 = some r) :
  Calls Tryz.prog 61 #[.int .i64 a0] w fun e w' => e = .returned (.string r) ∧ Below w.heap.size w w' := by
 have HZT := am_ hT
 clear hT
 have HB := am_ (Below.refl w.heap.size w)
 have H := h; unfold F61.f at H
 clear h
 replace H := bi_ H; rcases H with ⟨JB, A2, H⟩
 obtain rfl := Option.some.inj H
 go_enter Tryz.func61, Tryz.ntmps61
 go_wp2_with (first | ((with_reducible refine gate_callee (f := 96) rfl ?_); refine gl_ 4 Tryz.func96 #[.int .i64 a0, .int .i64 10] ?_ rfl rfl rfl rfl; (with_reducible refine (F96.calls ?s1 A2.out).mono ?_); (case s1 => exact ax7_); rintro e w3 ⟨rfl, hb⟩; refine ⟨_, rfl, ?_⟩; replace HB := hs_ w hb; (try clear hb)))
 go_ret
 exact ⟨ax11_, bl_⟩
def F108.f (l0 : List (ByteArray)) : Option (List (ByteArray)) := if l0.length < 8796093022208 then (some l0) else (none)
theorem F108.calls {A0 : Option Addr} {c0 : Nat} {l0 r : List (ByteArray)} {w : World} (bH : Kd.C Kd.string w A0 l0.length l0) (hc0 : l0.length ≤ c0) (h : F108.f l0 = some r) :
  Calls Tryz.prog 108 #[.slice A0 l0.length c0] w fun e w' => ∃ l7 : Value, e = .returned (l7) ∧ Kd.R Kd.string 9 w' w.heap.size (fun _ => True) l7 r ∧ Below w.heap.size w w' := by
 have hu := Tryz.underlying59
 have HR := am_ bH
 clear bH
 have HB := am_ (Below.refl w.heap.size w)
 by_cases hl : l0.length < 8796093022208
 rotate_left
 ·have H := h
  unfold F108.f at H
  rw [if_neg hl] at H
  cases H
 have H := h
 unfold F108.f at H
 rw [if_pos hl] at H
 obtain rfl := Option.some.inj H
 clear H h
 have HL := am_ hl
 clear hl
 cases A0 with
 | none =>
  have h0 : l0 = [] := by
   rcases l0 with _ | ⟨x, xs⟩
   ·rfl
   obtain ⟨ad, h1, _⟩ := HR.out.2.2 (by simp)
   cases h1
  subst h0
  have hq := fun (w : World) => Go.Lib.run_eql_slice_nil (P := Tryz.prog) w 59 9 none 0 c0 0 0 hu
  go_enter Tryz.func108, Tryz.ntmps108
  go_wp2
  go_ret
  exact ⟨_, rfl, Kd.R_nil _ _ _ _ _, HB.out⟩
 | some ad =>
  have hq := fun (w : World) => Go.Lib.run_eql_slice_nil (P := Tryz.prog) w 59 9 (some ad) l0.length c0 0 0 hu
  go_enter Tryz.func108, Tryz.ntmps108
  go_wp2_with (first
   | ((with_reducible refine gate_dst (N := 5) rfl ?_); refine Kd.R_lit Kd.string _ 9 ?hg (N := 5) ?hd (xs := ([] : List (ByteArray))) (inner := []) (ok := fun _ => True) (okp := fun _ => True) ?hr ?hp (fun _ hk => hk) trivial (Below.refl _ _) (Nat.le_refl _) (by simp) ?_; (case hd => rfl); (case hg => rfl); (case hr => exact hr_); (case hp => exact (Reps.none _ _)); intro v1 w1 ho hb hg_ hnew_; clear hg_ hnew_; have HO := am_ (Kd.R_lower ho (below_size HB.out)); have Qj := am_ (below_step HB.out hb); clear ho hb)
   | ((with_reducible refine gate_builtin (b := .append) (xs := #[.tmp 5, .tmp 6]) rfl ?_); at_builtin; refine Kd.R_append_rows Kd.string (w0 := w) w.heap.size rfl (.tmp 5) (.tmp 6) 59 9 (.string ⟨#[]⟩) 16 rfl Tryz.underlying59 info9 rfl (by decide) (by omega) v1 ([] : List (ByteArray)) l0 _ _ _ (fun _ => True) (fun _ => False) rfl rfl ?aO ?aR (fun _ _ h => h) (fun _ h => h.elim) ?aF ?aB ?aS ?aL ?_; (case aR => repeat (first | exact (Kd.C_below HR.out Qj.out) | (with_reducible refine Kd.C_alloc ?_ _) | (with_reducible refine Kd.C_drewN ?_ _) | (with_reducible refine Kd.C_drew ?_))); (case aB => exact au1_18); (case aF => exact (fun _ _ => trivial)); (case aO => exact (by (with_reducible repeat (first | apply Kd.R_alloc | apply Kd.R_drewN | apply Kd.R_drew)); exact HO.out)); (case aS => exact (below_size au1_18)); (case aL => have := HL.out; simp only [List.length_nil]; omega); intro v2 w2 ho hb hg hat))
  go_ret
  exact ⟨_, rfl, by (with_reducible repeat (first | apply Kd.R_alloc | apply Kd.R_drewN | apply Kd.R_drew)); exact ho, by repeat (first | (with_reducible first | exact hb | apply below_alloc | apply pw_below_drewN | apply below_drew1) | exact hb)⟩
def F82.l0 : Nat → List (S91) → Int → Int → ByteArray → List (S91) → Option (ByteArray × (List (S91)))
  | 0, _, _, _, _, _ => none
  | k + 1, EO, Ju, uu, qO, mH => if uu < Ju then (if 0 ≤ uu then (if uu < (EO.length : Int) then ((F108.f ((rd_T91 EO uu).f0)).bind fun t175 => (if mH.length < 5864062014805 then (F82.l0 k EO Ju (wrap64 (uu + 1)) qO (mH ++ [(⟨t175⟩ : S91)])) else (none))) else (none)) else (none)) else (some (qO, mH))
def F82.f (k : Nat) (ae : ByteArray) (ac : List (S91)) : Option (ByteArray × (List (S91))) := F82.l0 k ac (ac.length : Int) 0 ae ([] : List (S91))
theorem F82.mono_l : ∀ k, (∀ y0 y1 y2 y3 y4, LeO (F82.l0 k y0 y1 y2 y3 y4) (F82.l0 (k + 1) y0 y1 y2 y3 y4))
 | 0 => fun _ _ _ _ _ r h => by simp [F82.l0] at h
 | k + 1 => by
  have ef := F82.mono_l k
  intro y0 y1 y2 y3 y4
  unfold F82.l0
  exact ax45_
theorem F82.mono : ∀ a0 a1 k, LeO (F82.f k a0 a1) (F82.f (k + 1) a0 a1) := by
 intro a0 a1 k
 have ef := F82.mono_l k
 unfold F82.f
 exact ax45_
def F82.T5 : Bool × List (List Nat × List Nat) := (true, [([], []), ([0], [0]), ([], []), ([2], [2]), ([3], [3]), ([4], [4]), ([5], [5]), ([1, 6, 4], [1, 6]), ([0, 1, 2, 3, 4, 5, 6, 7], []), ([8, 7, 7, 0, 1, 2, 3, 4, 5, 6, 7], [7, 8])])
def F82.B5 : List Nat := [0, 1, 0, 4, 12, 28, 60, 127, 255, 511]
theorem F82.tab5 : rtab .any (opsOf Tryz.f82 5) = F82.T5 := by kernel_rfl
theorem F82.bits5 : waitsOk F82.T5.2 F82.B5 = true := by kernel_rfl
theorem F82.calls {k : Nat} {ae : ByteArray} {aJ : Option Addr} {aH : Nat} {ac : List (S91)} {r1 : ByteArray} {r2 : List (S91)} {w : World} (aY : Kd.C k91 w aJ ac.length ac) (aZ : ac.length ≤ aH) (h : F82.f k ae ac = some (r1, r2)) :
  Calls Tryz.prog 82 #[.agg #[.string ae, .slice aJ ac.length aH]] w fun e w' => ∃ nM : Value, e = .returned (.agg #[.string r1, nM]) ∧ Kd.S k91 91 w' w.heap.size (fun _ => True) nM r2 ∧ Below w.heap.size w w' := by
 have dk := Tryz.underlying49
 have kX := Tryz.underlying91
 have br := am_ aY
 have da := am_ aZ
 clear aY aZ
 have HB := am_ (Below.refl w.heap.size w)
 have H := h; unfold F82.f at H
 clear h
 have H' := am_ H
 clear H
 go_enter Tryz.func82, Tryz.ntmps82
 go_wp2_with (first | ((with_reducible refine gate_dst (N := 1) rfl ?_); refine be_ 1 #[.string ae, .slice aJ ac.length aH] 49 ?_; intro Do hg w2 hbox hb; have bZ := am_ (hbox); have JC := am_ (gw_ hg bl_); have UN := JC; replace HB := hs_ w hb; clear hb hbox hg) | ((with_reducible refine gate_dst (N := 2) rfl ?_); refine be_ 2 #[.string (⟨#[]⟩ : ByteArray), .slice none 0 0] 49 ?_; intro nN hg w3 hbox hb; have cI := am_ (hbox); have JD := am_ (gw_ hg bl_); have UO := JD; replace HB := hs_ w hb; have uA := am_ (gn_ hg (blkl_ bZ)); have uB := am_ (gm_ hg (blkl_ bZ)); replace bZ := bb_ bZ hb; clear hb hbox hg; obtain ⟨Qs, Qt⟩ := nn_ uA; have lc := cellsF2 bZ.out) | ((with_reducible refine gate_dst (N := 3) rfl ?_); refine be_ 3 #[.string (⟨#[]⟩ : ByteArray), .slice none 0 0] 49 ?_; intro l9 hg w6 hbox hb; have bL := am_ (hbox); have JE := am_ (gw_ hg bl_); have UP := JE; replace HB := hs_ w hb; have uC := am_ (gn_ hg (blkl_ bZ)); have jQ := am_ (gm_ hg (blkl_ bZ)); replace bZ := bb_ bZ hb; have uD := am_ (gn_ hg (blkl_ cI)); have jR := am_ (gm_ hg (blkl_ cI)); replace cI := bb_ cI hb; clear hb hbox hg; obtain ⟨JF, JG⟩ := nn_ jQ; obtain ⟨Qu, Qv⟩ := nn_ jR; have jS := cellsF2 bL.out; have eZ := cellsF2 bZ.out))
 go_loopg [12] k (fun kq Jy w' => ∃ (bC : Int) (dn : List (S91)) (dQ : Value), Jy = .int .i64 bC ∧ Aside0 (F82.l0 kq ac (ac.length : Int) bC ae dn = some (r1, r2)) ∧ Aside0 (kq ≤ k) ∧ Aside0 (Kd.S k91 91 w' w.heap.size (fun _ => True) dQ dn) ∧ Aside0 (w'.heap[Do]? = some (.cells #[.string ae, (.slice aJ ac.length aH)] 49 (0, 0))) ∧ Aside0 (w'.heap[nN]? = some (.cells #[.string (⟨#[]⟩ : ByteArray), (.slice none 0 0)] 49 (0, 0))) ∧ Aside0 (w'.heap[l9]? = some (.cells #[.string ae, dQ] 49 (0, 0))) ∧ Aside0 (Below w.heap.size w w'))
 case atStart => exact ⟨(0), (([] : List (S91))), (.slice none 0 0), er_, H', ⟨Nat.le_refl _⟩, ⟨ax8_⟩, ⟨bf_ bZ⟩, ⟨bf_ cI⟩, ⟨bq_ bL⟩, ⟨bl_⟩⟩
 case round =>
  clear H'
  try clear eZ
  try clear lc
  try clear jS
  obtain ⟨bC, dn, dQ, rfl, HA, cK, aW, bZ, cI, bL, HB⟩ := hrel
  cases gk with
  | zero => exact absurd HA.out (by simp [F82.l0])
  | succ k1 =>
   have H := HA.out
   clear HA
   simp only [F82.l0] at H
   replace H := it_ H; rcases H with ⟨c11b0, H⟩ | ⟨c11b0, H⟩
   rotate_left
   ·simp only [Option.some.injEq, Prod.mk.injEq] at H
    obtain ⟨rfl, rfl⟩ := H
    obtain ⟨nG, nH⟩ := nn_ jQ
    obtain ⟨UQ, UR⟩ := nn_ jR
    have kA := cellsF2 bL.out
    obtain ⟨Da, Db⟩ := nn_ uB
    have qF := cellsF2 cI.out
    obtain ⟨EX, EY, EZ⟩ := Kd.S_slice aW.out
    subst EZ
    go_wp2
    refine bodyPost_ret (results_cell_row rfl _ _ nN 49 #[.string ae, .slice EX dn.length EY] (0, 0) _ rfl (bq_ cI) Tryz.underlying49 rfl (by kernel_rfl)) rfl ?_
    exact ⟨_, ax11_, by (with_reducible repeat (first | apply Kd.S_alloc | apply Kd.S_drewN | apply Kd.S_drew)); exact Kd.S_mono (Kd.S_far (p := ⟨nN, 1, none⟩) (Kd.S_far (p := ⟨nN, 0, none⟩) (Kd.S_types aW.out cI.out (by decide)) (fun _ hk => hk.2) (.string ae)) (fun _ hk => hk.2) (.slice EX dn.length EY)) (fun _ hk => trivial), bl_⟩
   replace H := itn_ H; rcases H with ⟨c12b0, H⟩
   replace H := itn_ H; rcases H with ⟨c13b0, H⟩
   replace H := bi_ H; rcases H with ⟨t175, IG, H⟩
   replace H := iln_ H; rcases H with ⟨JH, H⟩
   obtain ⟨zK, wz⟩ : ∃ y_ : List (S91), y_ = (dn ++ [(⟨t175⟩ : S91)]) := ⟨_, rfl⟩
   replace H : (F82.l0 k1 ac (ac.length : Int) (wrap64 (bC + 1)) ae zK) = some (r1, r2) := by first | (rw [wz]; exact H) | exact H
   have JI := am_ wz
   clear wz
   have H' := am_ H
   clear H
   have E0 : 0 ≤ (bC : Int) := od_
   have E1 : bC < (ac.length : Int) := od_
   obtain ⟨JJ, jT, jU, Qw, qP, qQ, qR⟩ := at_T91 br.out bC E0 E1
   cases Qw
   replace qP := pw_cell_below HB.out qP
   have zL := am_ qR
   have zM := am_ qQ
   clear qR qQ
   replace E0 := eq_true E0
   replace E1 := eq_true E1
   try go_wp2_with (first | ((with_reducible refine gate_dst (N := 5) rfl ?_); refine be_ 5 #[.slice none 0 0] 91 ?_; intro fG hg EJ hbox hb; replace aW := am_ (Kd.S_below (Kd.S_elderB au1_19 fG (Nat.le_of_eq hg.symm)) hb); have dI := am_ (hbox); have JK := am_ (gw_ hg bl_); have US := JK; replace HB := hs_ w hb; have Ia := am_ (gn_ hg (blkl_ bZ)); have uE := am_ (gm_ hg (blkl_ bZ)); replace bZ := bb_ bZ hb; have Ib := am_ (gn_ hg (blkl_ cI)); have uF := am_ (gm_ hg (blkl_ cI)); replace cI := bb_ cI hb; have uG := am_ (gn_ hg (blkl_ bL)); have ma := am_ (gm_ hg (blkl_ bL)); replace bL := bb_ bL hb; clear hb hbox hg; obtain ⟨JL, JM⟩ := nn_ uE; obtain ⟨Dp, Dq⟩ := nn_ uF; obtain ⟨Di, Dj⟩ := nn_ ma; have fv : EJ.cell? ⟨fG, 0, none⟩ = some (.slice none 0 0) := (blk_cell dI.out 0).trans rfl; have zN := blk_frozen dI.out 0))
   generalize hw_ : (EJ.setCell ⟨fG, 0, none⟩ (.slice jT ((rd_T91 ac bC).f0).length jU)) = wA
   replace aW : Aside0 (Kd.S k91 91 wA w.heap.size (fun k_ => k_ ≠ fG) dQ dn) := by rw [← hw_]; exact ⟨by (with_reducible repeat (first | apply Kd.S_alloc | apply Kd.S_drewN | apply Kd.S_drew)); exact Kd.S_mono (Kd.S_far (p := ⟨fG, 0, none⟩) (Kd.S_mono aW.out (fun k_ hk => (⟨hk, hk.2⟩ : _ ∧ k_ ≠ fG))) (fun _ hk => hk.2) (.slice jT ((rd_T91 ac bC).f0).length jU)) (fun _ hk => hk.1.2)⟩
   replace bZ : Aside0 (wA.heap[Do]? = some (.cells #[.string ae, .slice (some JJ) ac.length aH] 49 (0, 0))) := by rw [← hw_]; exact ⟨bf_ bZ⟩
   replace cI : Aside0 (wA.heap[nN]? = some (.cells #[.string (⟨#[]⟩ : ByteArray), .slice none 0 0] 49 (0, 0))) := by rw [← hw_]; exact ⟨bf_ cI⟩
   replace bL : Aside0 (wA.heap[l9]? = some (.cells #[.string ae, dQ] 49 (0, 0))) := by rw [← hw_]; exact ⟨bf_ bL⟩
   replace dI : Aside0 (wA.heap[fG]? = some (.cells #[.slice jT ((rd_T91 ac bC).f0).length jU] 91 (0, 0))) := by rw [← hw_]; exact ⟨bq_ dI⟩
   replace HB : Aside0 (Below w.heap.size w wA) := by rw [← hw_]; exact ⟨bl_⟩
   clear hw_
   replace aW := am_ (Kd.S_drew aW.out)
   replace bZ := bd_ bZ
   replace cI := bd_ cI
   replace bL := bd_ bL
   replace dI := bd_ dI
   replace HB := am_ (below_drew1 HB.out)
   refine start_ (n := 10) (S := fun w' => w'.cell? ⟨l9, 0, none⟩ = some (.string ae) ∧ w'.cell? ⟨l9, 1, none⟩ = some (dQ) ∧ w'.cell? ⟨fG, 0, none⟩ = some (.slice jT ((rd_T91 ac bC).f0).length jU)) (ds := [9]) (bs 10 0) (by kernel_rfl) rfl rfl ⟨(blk_cell bL.out 0).trans rfl, (blk_cell bL.out 1).trans rfl, (blk_cell dI.out 0).trans rfl⟩ (fun hHeld => ?_); refine with_tabW F82.tab5 F82.bits5 (fun HT_ HW_ => ?_)
   generalize wA.drew = zO at aW bZ cI bL dI HB hHeld ⊢
   refine pq_ 0 HT_ ?_
   refine pq_ 2 HT_ ?_
   refine tq_ 1 HT_ HW_ hHeld rfl ax54_ ?_
   refine tq_ 3 HT_ HW_ hHeld rfl ax54_ ?_
   refine oq_ 4 HT_ (fun K hK => ?_)
   refine gr_ Tryz.func108 #[.slice jT ((rd_T91 ac bC).f0).length jU] (by rfl) ?_ rfl rfl rfl
   with_reducible refine (F108.calls ?s1 ?s2 IG.out).mono ?_
   (case s1 => repeat (first | exact (Kd.C_below zL.out HB.out) | (with_reducible refine Kd.C_alloc ?_ _) | (with_reducible refine Kd.C_drewN ?_ _) | (with_reducible refine Kd.C_drew ?_)))
   (case s2 => exact zM.out)
   rintro e Ic ⟨XX, rfl, bf, hb⟩
   refine ⟨_, rfl, ?_⟩
   replace aW := am_ (Kd.S_elder' au1_19 (Kd.R_base bf) hb)
   have qS := am_ (Kd.R_lower bf (below_size bl_))
   replace bZ := bb_ bZ hb
   replace cI := bb_ cI hb
   replace bL := bb_ bL hb
   replace dI := bb_ dI hb
   replace HB := hs_ w hb
   (try clear hb)
   (try clear bf)
   obtain ⟨E2, E3, zP⟩ := Kd.R_slice qS.out
   (first | subst zP | (injection zP with b9 dT cd; have dU := b9.symm; have dV := cd.symm; clear b9 dT cd; subst dU; subst dV))
   refine hK.out _ _ ⟨(blk_cell bL.out 0).trans rfl, (blk_cell bL.out 1).trans rfl, (blk_cell dI.out 0).trans rfl⟩ (fun hHeld => ?_)
   clear hK K
   refine no_ 20 ?_
   refine pq_ 5 HT_ ?_
   refine oq_ 6 HT_ (fun K hK => ?_)
   refine value_ (w1 := ?_) (v := ?_) (by rfl) rfl ?_ ?_
   rotate_left 2
   ·go_simp
    constructor
    ·rfl
    ·rfl
   refine hK.out _ _ ⟨(blk_cell (blk_alloc bL.out _) 0).trans rfl, (blk_cell (blk_alloc bL.out _) 1).trans rfl, (blk_cell (blk_alloc dI.out _) 0).trans rfl⟩ (fun hHeld => ?_)
   clear hK K
   refine no_ 22 ?_
   refine oq_ 7 HT_ (fun K hK => ?_)
   refine Kd.S_append_step k91 (w0 := w) w.heap.size (by rfl) (.tmp 17) (.tmp 22) 47 91 (.agg #[(.slice none 0 0)]) 24 rfl Tryz.underlying47 info91 rfl (by decide) (by omega) dQ dn (⟨t175⟩ : S91) [.slice E2 t175.length E3] (fun k_ => k_ ≠ fG) (fun k_ => some k_ = (.slice E2 t175.length E3 : Value).ownBlock) rfl rfl ?aP (fun k_ hk_ => ((Kd.R_mono (ok' := fun k_ => ((fun k_ => k_ ≠ fG)) k_ ∧ some k_ ≠ (dQ : Value).ownBlock) (Kd.R_types (Kd.R_apart' (qS.out) (Kd.S_typed aW.out) (by decide)) dI.out (by decide)) (fun k_ hk => ⟨hk.2, hk.1.2⟩))).1 k_ hk_.symm) ?aF ?aO ?aB ?aS ?aL ?_
   (case aP => exact k91_mkM _ _ _ (⟨t175⟩ : S91) (Kd.R_mono (Kd.R_tight rfl (Kd.R_mono (ok' := fun k_ => ((fun k_ => k_ ≠ fG)) k_ ∧ some k_ ≠ (dQ : Value).ownBlock) (Kd.R_types (Kd.R_apart' (qS.out) (Kd.S_typed aW.out) (by decide)) dI.out (by decide)) (fun k_ hk => ⟨hk.2, hk.1.2⟩))) (fun _ h_ => h_)))
   (case aB => exact bl_)
   (case aF => exact (fun k_ hk => Kd.freshB (g := fG) (o := .cells #[.slice jT ((rd_T91 ac bC).f0).length jU] 91 (0, 0)) (bk_ dI) k_ hk))
   (case aO => exact (by (with_reducible repeat (first | apply Kd.S_alloc | apply Kd.S_drewN | apply Kd.S_drew)); exact Kd.S_mono aW.out (fun k_ hk => ⟨hk.1, fun e_ => hk.2 e_⟩)))
   (case aS => exact (below_size bl_))
   (case aL => have := JH.out; omega)
   intro XY wB ho hb hg hat
   rw [← JI.out] at ho
   replace bZ := am_ (bg_ bZ hg (Kd.S_ne aW.out bZ.out (by decide)))
   replace cI := am_ (bg_ cI hg (Kd.S_ne aW.out cI.out (by decide)))
   replace bL := am_ (bg_ bL hg (Kd.S_ne aW.out bL.out (by decide)))
   replace dI := am_ (bg_ dI hg (Kd.S_away aW.out (fun _ hk => hk.1)))
   replace HB := am_ (hb)
   have Dr := am_ (ho)
   clear aW qS
   clear ho hb hg hat
   obtain ⟨E4, E5, wC⟩ := Kd.S_slice Dr.out
   (first | subst wC | (injection wC with b9 dT cd; have dU := b9.symm; have dV := cd.symm; clear b9 dT cd; subst dU; subst dV))
   refine hK.out _ _ ⟨(blk_cell bL.out 0).trans rfl, (blk_cell bL.out 1).trans rfl, (blk_cell dI.out 0).trans rfl⟩ (fun hHeld => ?_)
   clear hK K
   refine no_ 23 ?_
   refine pq_ 8 HT_ ?_
   refine lq_ 9 HT_ (fun K hK => ?_)
   have JN : wB.cell? ⟨l9, 1, none⟩ = some (dQ) := (blk_cell bL.out 1).trans rfl
   have Ds := blk_frozen bL.out 1
   have qT := uC.out
   have zQ := uD.out
   have Oj := ma.out
   have qU := jQ.out
   have zR := jR.out
   have Ok := uG.out
   refine skip_ (w1 := ?_) (by rfl) rfl ?_ ?_
   rotate_left
   ·go_simp
    rfl
   refine hK.out _ _ ?_
   clear hK K
   refine done_ (done_of HT_.out (by kernel_rfl)) ?_
   try go_wp2
   go_roundg k1
   case measure => have := cK.out; omega
   case rel => exact ⟨(wrap64 (bC + 1)), (zK), (.slice E4 zK.length E5), er_, H', ⟨by have := cK.out; omega⟩, ⟨by (with_reducible repeat (first | apply Kd.S_alloc | apply Kd.S_drewN | apply Kd.S_drew)); exact Kd.S_mono (Kd.S_far (p := ⟨l9, 1, none⟩) (Kd.S_types Dr.out bL.out (by decide)) (fun _ hk => hk.2) (.slice E4 zK.length E5)) (fun _ hk => trivial)⟩, ⟨bf_ bZ⟩, ⟨bf_ cI⟩, ⟨bq_ bL⟩, ⟨bl_⟩⟩
def F62.l0 : Nat → List (S49) → List (S49) → Int → Int → Option ((List (S49)))
  | 0, _, _, _, _ => none
  | k + 1, x3, x7, x8, x9 => if x9 < x8 then (if 0 ≤ x9 then (if x9 < (x7.length : Int) then ((F82.f k ((rd_T49 x7 x9).f0) ((rd_T49 x7 x9).f1)).bind fun Dt => (if x3.length < 3518437208883 then (F62.l0 k (x3 ++ [(⟨Dt.1, Dt.2⟩ : S49)]) x7 x8 (wrap64 (x9 + 1))) else (none))) else (none)) else (none)) else (some x3)
def F62.f (k : Nat) (l0 : List (S49)) : Option ((List (S49))) := F62.l0 k (([] : List (S49))) l0 (l0.length : Int) 0
theorem F62.calls {k : Nat} {A0 : Option Addr} {c0 : Nat} {l0 r : List (S49)} {w : World} (bH : Kd.C k49 w A0 l0.length l0) (hc0 : l0.length ≤ c0) (h : F62.f k l0 = some r) :
  Calls Tryz.prog 62 #[.slice A0 l0.length c0] w fun e w' => ∃ l7 : Value, e = .returned (l7) ∧ Kd.S k49 49 w' w.heap.size (fun _ => True) l7 r ∧ Below w.heap.size w w' := by
 have dk := Tryz.underlying49
 have fN := am_ bH
 have kt := am_ hc0
 clear bH hc0
 have HB := am_ (Below.refl w.heap.size w)
 have H := h; unfold F62.f at H
 clear h
 obtain ⟨JO, wD⟩ : ∃ y_ : List (S49), y_ = (([] : List (S49))) := ⟨_, rfl⟩
 replace H : (F62.l0 k JO l0 (l0.length : Int) 0) = some r := by first | (rw [wD]; exact H) | exact H
 have Du := am_ wD
 clear wD
 have H' := am_ H
 clear H
 go_enter Tryz.func62, Tryz.ntmps62
 go_wp2_with (first | ((with_reducible refine gate_dst (N := 6) rfl ?_); refine Kd.S_lit k49 _ 49 ?hg (N := 6) ?hd (xs := ([] : List (S49))) (inner := []) (ok := fun _ => True) (okp := fun _ => True) ?hr ?hp (fun _ hk => hk) trivial (Below.refl _ _) (Nat.le_refl _) (by simp) ?_; (case hd => rfl); (case hg => rfl); (case hr => exact hr_); (case hp => exact (Reps.none _ _)); intro XZ w2 wE hb hg_ hnew_; clear hg_ hnew_; (first | rw [← Du.out] at wE | (simp only [Int.reduceToNat] at wE; rw [← Du.out] at wE)); have JP := am_ (Kd.S_lower wE (below_size bl_)); replace HB := hs_ w hb; clear hb wE))
 go_loopg [3, 9] k (fun kq v3 v9 w' => ∃ (be : List (S49)) (bc : Int), v9 = .int .i64 bc ∧ Aside0 (F62.l0 kq be l0 (l0.length : Int) bc = some r) ∧ Aside0 (kq ≤ k) ∧ Aside0 (Kd.S k49 49 w' w.heap.size (fun _ => True) v3 be) ∧ Aside0 (Below w.heap.size w w'))
 case atStart => exact ⟨(JO), (0), er_, H', ⟨Nat.le_refl _⟩, ⟨by (with_reducible repeat (first | apply Kd.S_alloc | apply Kd.S_drewN | apply Kd.S_drew)); exact JP.out⟩, ⟨bl_⟩⟩
 case round =>
  clear H'
  obtain ⟨be, bc, rfl, HA, cK, bk, HB⟩ := hrel
  cases gk with
  | zero => exact absurd HA.out (by simp [F62.l0])
  | succ k1 =>
   have H := HA.out
   clear HA
   simp only [F62.l0] at H
   replace H := it_ H; rcases H with ⟨c4b0, H⟩ | ⟨c4b0, H⟩
   rotate_left
   ·obtain rfl := Option.some.inj H
    go_wp2
    go_ret
    exact ⟨_, ax11_, by (with_reducible repeat (first | apply Kd.S_alloc | apply Kd.S_drewN | apply Kd.S_drew)); exact bk.out, bl_⟩
   replace H := itn_ H; rcases H with ⟨c5b0, H⟩
   replace H := itn_ H; rcases H with ⟨c6b0, H⟩
   replace H := bi_ H; rcases H with ⟨⟨zS, zT⟩, A7, H⟩
   replace H := iln_ H; rcases H with ⟨Qx, H⟩
   obtain ⟨JQ, wF⟩ : ∃ y_ : List (S49), y_ = (be ++ [(⟨zS, zT⟩ : S49)]) := ⟨_, rfl⟩
   replace H : (F62.l0 k1 JQ l0 (l0.length : Int) (wrap64 (bc + 1))) = some r := by first | (rw [wF]; exact H) | exact H
   have JR := am_ wF
   clear wF
   have H' := am_ H
   clear H
   have E6 : 0 ≤ (bc : Int) := od_
   have E7 : bc < (l0.length : Int) := od_
   obtain ⟨UT, mI, mJ, Qy, qV, qW, qX, qY⟩ := at_T49 fN.out bc E6 E7
   cases Qy
   replace qV := pw_cell_below HB.out qV
   replace qW := pw_cell_below HB.out qW
   have zU := am_ qY
   have zV := am_ qX
   clear qY qX
   replace E6 := eq_true E6
   replace E7 := eq_true E7
   go_wp2_with (first | ((with_reducible refine gate_dst (N := 5) rfl ?_); refine be_ 5 #[.string (⟨#[]⟩ : ByteArray), .slice none 0 0] 49 ?_; intro ip hg w9 hbox hb; replace bk := am_ (Kd.S_below (Kd.S_elderB ax0_ ip (Nat.le_of_eq hg.symm)) hb); have ld := am_ (hbox); have JS := am_ (gw_ hg bl_); have UU := JS; replace HB := hs_ w hb; clear hb hbox hg; have eZ := cellsF2 ld.out) | ((with_reducible refine gate_callee (f := 82) rfl ?_); refine gl_ 15 Tryz.func82 #[.agg #[.string ((rd_T49 l0 bc).f0), .slice mI ((rd_T49 l0 bc).f1).length mJ]] ?_ rfl rfl rfl rfl; (with_reducible refine (F82.calls ?s1 ?s2 A7.out).mono ?_); (case s1 => exact Kd.C_below zU.out bl_); (case s2 => exact zV.out); rintro e wj ⟨X3, rfl, bf, hb⟩; refine ⟨_, rfl, ?_⟩; obtain ⟨jO, fP, fQ⟩ := nb9_ bf; replace bk := am_ (Kd.S_elder' (Kd.S_mono (Kd.S_bound (by (with_reducible repeat (first | apply Kd.S_alloc | apply Kd.S_drewN | apply Kd.S_drew)); exact (Kd.S_mono (Kd.S_far (p := ⟨ip, 1, none⟩) (Kd.S_far (p := ⟨ip, 0, none⟩) (Kd.S_mono bk.out (fun k_ hk => (⟨hk, hk.2⟩ : _ ∧ k_ ≠ ip))) (fun _ hk => hk.2) (.string ((rd_T49 l0 bc).f0))) (fun _ hk => hk.2) (.slice mI ((rd_T49 l0 bc).f1).length mJ)) (fun _ h_ => h_.1)))) (fun k_ hk_ => (⟨fP _ hk_.2.2.1, hk_.1⟩ : k_ < jO ∧ _))) (Kd.S_base bf) hb); have wG := am_ (Kd.S_lower fQ (below_size bl_)); replace ld := am_ (blk_below (g := ip) (o := .cells #[.string ((rd_T49 l0 bc).f0), .slice mI ((rd_T49 l0 bc).f1).length mJ] 49 (0, 0)) (bq_ ld) hb); replace HB := hs_ w hb; clear hb bf; obtain ⟨oS, oT, oU⟩ := Kd.S_slice wG.out; subst oU) | ((with_reducible refine gate_builtin (b := .append) (xs := #[.tmp 13, .tmp 16]) rfl ?_); at_builtin; refine Kd.S_append k49 (w0 := w) w.heap.size rfl (.tmp 13) (.tmp 16) 26 49 (.agg #[(.string ⟨#[]⟩), (.slice none 0 0)]) 40 rfl Tryz.underlying26 info49 rfl (by decide) (by omega) u3 be (⟨zS, zT⟩ : S49) [.string zS, .slice oS zT.length oT] (fun k_ => k_ ≠ ip) (fun k_ => jO ≤ k_ ∧ (fun k_ => k_ ≠ ip) k_) rfl rfl ?aP (fun k_ hk_ => ⟨hk_.2, fun e_ => Nat.not_le.2 ax14_ hk_.1⟩) ?aF ?aO ?aB ?aS ?aL ?_; (case aP => exact k49_mkM _ _ _ (⟨zS, zT⟩ : S49) (Kd.S_mono (Kd.S_types (Kd.S_apart' (wG.out) (Kd.S_typed bk.out) (by decide)) ld.out (by decide)) (fun k_ hk => ⟨ax9_, (show ((fun k_ => k_ ≠ ip)) k_ ∧ some k_ ≠ (u3 : Value).ownBlock from ⟨hk.2, hk.1.2⟩).1⟩))); (case aB => exact bl_); (case aF => exact (fun k_ hk => Kd.freshB (g := ip) (o := .cells #[.string ((rd_T49 l0 bc).f0), .slice mI ((rd_T49 l0 bc).f1).length mJ] 49 (0, 0)) (bk_ ld) k_ hk)); (case aO => exact au1_2); (case aS => exact (below_size bl_)); (case aL => have := Qx.out; omega); intro X4 lU ho hb hg hat; rw [← JR.out] at ho; replace ld := am_ (bg_ ld hg (Kd.S_away bk.out (fun _ hk => hk.1.2.2))); replace HB := am_ (hb); have JT := am_ (ho); clear bk wG; clear ho hb hg hat))
   go_roundg k1
   case measure => have := cK.out; omega
   case rel => exact ⟨(JQ), (wrap64 (bc + 1)), er_, H', ⟨by have := cK.out; omega⟩, ⟨by (with_reducible repeat (first | apply Kd.S_alloc | apply Kd.S_drewN | apply Kd.S_drew)); exact Kd.S_mono JT.out (fun _ hk => trivial)⟩, ⟨bl_⟩⟩
mutual
def F30.l0 : Nat → List (S49) → List (S53) → Int → Int → ByteArray → ByteArray → Int → List (S53) → Option ((List (S49)))
  | 0, _, _, _, _, _, _, _, _ => none
  | k + 1, x3, vP, E8, x21, kC, kE, iq, ir => if x21 < E8 then (if 0 ≤ x21 then (if x21 < (vP.length : Int) then ((F61.f ((rd_T53 vP x21).f0)).bind fun oV => ((F61.f ((rd_T53 vP x21).f1)).bind fun oW => ((F60.f k (⟨#[71, 82, 72]⟩ : ByteArray) (([oV, oW] : List ByteArray))).bind fun nO => (if x3.length < 3518437208883 then (F30.l1 k (x3 ++ [(⟨nO.1, nO.2⟩ : S49)]) vP E8 x21 ((rd_T53 vP x21).f2) (((rd_T53 vP x21).f2).length : Int) 0 kC kE iq ir ((rd_T53 vP x21).f0) ((rd_T53 vP x21).f1) ((rd_T53 vP x21).f2)) else (none))))) else (none)) else (none)) else ((F61.f (ir.length : Int)).bind fun oX => ((F61.f iq).bind fun oY => ((F60.f k (⟨#[73, 88, 84]⟩ : ByteArray) (([oX, oY] : List ByteArray))).bind fun nP => (if x3.length < 3518437208883 then (some (x3 ++ [(⟨nP.1, nP.2⟩ : S49)])) else (none)))))
def F30.l1 : Nat → List (S49) → List (S53) → Int → Int → List (S56) → Int → Int → ByteArray → ByteArray → Int → List (S53) → Int → Int → List (S56) → Option ((List (S49)))
  | 0, _, _, _, _, _, _, _, _, _, _, _, _, _, _ => none
  | k + 1, x3, vP, E8, x21, Id, Ol, Dv, kC, kE, iq, ir, zW, qZ, rc => if Dv < Ol then (if 0 ≤ Dv then (if Dv < (Id.length : Int) then ((F61.f ((rd_T56 Id Dv).f0)).bind fun oZ => ((F60.f k (⟨#[77, 83, 72]⟩ : ByteArray) (([oZ] : List ByteArray))).bind fun nQ => (if x3.length < 3518437208883 then ((some (x3 ++ [(⟨nQ.1, nQ.2⟩ : S49)] : List (S49))).bind fun lW => ((F62.f k ((rd_T56 Id Dv).f1)).bind fun lf => (if lW.length + lf.length < 3518437208883 then ((some (lW ++ lf : List (S49))).bind fun gL => ((F61.f (((rd_T56 Id Dv).f1).length : Int)).bind fun jV => ((F61.f ((rd_T56 Id Dv).f0)).bind fun jW => ((F60.f k (⟨#[77, 83, 84]⟩ : ByteArray) (([jV, jW] : List ByteArray))).bind fun e8 => (if gL.length < 3518437208883 then (F30.l1 k (gL ++ [(⟨e8.1, e8.2⟩ : S49)]) vP E8 x21 Id Ol (wrap64 (Dv + 1)) kC kE iq ir zW qZ rc) else (none)))))) else (none)))) else (none)))) else (none)) else (none)) else ((F61.f (rc.length : Int)).bind fun o3 => ((F61.f qZ).bind fun t232 => ((F60.f k (⟨#[71, 82, 84]⟩ : ByteArray) (([o3, t232] : List ByteArray))).bind fun nR => (if x3.length < 3518437208883 then (F30.l0 k (x3 ++ [(⟨nR.1, nR.2⟩ : S49)]) vP E8 (wrap64 (x21 + 1)) kC kE iq ir) else (none)))))
end
def F30.f (k : Nat) (ae : ByteArray) (ax : ByteArray) (aM : Int) (af : List (S53)) : Option ((List (S49))) := (F61.f aM).bind fun o4 => ((F60.f k (⟨#[73, 88, 72]⟩ : ByteArray) (([ae, ax, o4] : List ByteArray))).bind fun nS => (F30.l0 k (([(⟨nS.1, nS.2⟩ : S49)] : List (S49))) af (af.length : Int) 0 ae ax aM af))
def F30.T1 : Bool × List (List Nat × List Nat) := (true, [([], []), ([0], [0]), ([], []), ([2], [2]), ([], []), ([4], [4]), ([5], [5]), ([1, 3, 6], [1, 3, 6]), ([7, 6], [7]), ([8], [8]), ([9, 8, 0, 1, 2, 3, 4, 5, 6, 7, 8, 9], [9])])
def F30.B1 : List Nat := [0, 1, 0, 4, 0, 16, 48, 127, 255, 511, 1023]
theorem F30.tab1 : rtab .any (opsOf Tryz.f30 1) = F30.T1 := by kernel_rfl
theorem F30.bits1 : waitsOk F30.T1.2 F30.B1 = true := by kernel_rfl
def F30.T5 : Bool × List (List Nat × List Nat) := (true, [([], []), ([], []), ([1], [1]), ([2], [2]), ([], []), ([4], [4]), ([5, 3], [5]), ([3, 6], [3, 6]), ([7, 6], [7]), ([8], [8]), ([0, 9, 8], [0, 9]), ([10, 10, 0, 1, 2, 3, 4, 5, 6, 7, 8, 9, 10], [0, 10])])
def F30.B5 : List Nat := [0, 0, 2, 6, 0, 16, 62, 126, 254, 510, 1023, 2047]
theorem F30.tab5 : rtab .any (opsOf Tryz.f30 5) = F30.T5 := by kernel_rfl
theorem F30.bits5 : waitsOk F30.T5.2 F30.B5 = true := by kernel_rfl
def F30.T11 : Bool × List (List Nat × List Nat) := (true, [([], []), ([], []), ([1], [1]), ([2], [2]), ([3], [3]), ([], []), ([5], [5]), ([6, 4], [6]), ([4, 7], [4, 7]), ([8, 7], [8]), ([9], [9]), ([0, 10, 9], [0, 10]), ([11, 11, 0, 1, 2, 3, 4, 5, 6, 7, 8, 9, 10, 11], [0, 11])])
def F30.B11 : List Nat := [0, 0, 2, 6, 14, 0, 32, 126, 254, 510, 1022, 2047, 4095]
theorem F30.tab11 : rtab .any (opsOf Tryz.f30 11) = F30.T11 := by kernel_rfl
theorem F30.bits11 : waitsOk F30.T11.2 F30.B11 = true := by kernel_rfl
def F30.T13 : Bool × List (List Nat × List Nat) := (true, [([], []), ([], []), ([1], [1]), ([2], [2]), ([3], [3]), ([], []), ([5], [5]), ([6, 4], [6]), ([4, 7], [4, 7]), ([8, 7], [8]), ([9], [9]), ([0, 10, 9], [0, 10]), ([11, 11, 0, 1, 2, 3, 4, 5, 6, 7, 8, 9, 10, 11], [0, 11])])
def F30.B13 : List Nat := [0, 0, 2, 6, 14, 0, 32, 126, 254, 510, 1022, 2047, 4095]
theorem F30.tab13 : rtab .any (opsOf Tryz.f30 13) = F30.T13 := by kernel_rfl
theorem F30.bits13 : waitsOk F30.T13.2 F30.B13 = true := by kernel_rfl
def F30.T15 : Bool × List (List Nat × List Nat) := (true, [([], []), ([], []), ([1], [1]), ([2], [2]), ([3], [3]), ([], []), ([5], [5]), ([6, 4], [6]), ([4, 7], [4, 7]), ([8, 7], [8]), ([9], [9]), ([0, 10, 9], [0, 10]), ([11, 11, 0, 1, 2, 3, 4, 5, 6, 7, 8, 9, 10, 11], [11])])
def F30.B15 : List Nat := [0, 0, 2, 6, 14, 0, 32, 126, 254, 510, 1022, 2047, 4095]
theorem F30.tab15 : rtab .any (opsOf Tryz.f30 15) = F30.T15 := by kernel_rfl
theorem F30.bits15 : waitsOk F30.T15.2 F30.B15 = true := by kernel_rfl
theorem F30.calls {k : Nat} {ae ax : ByteArray} {aM : Int} {cl : Option Addr} {bN : Nat} {af : List (S53)} {r : List (S49)} {w : World} (dW : Kd.C k53 w cl af.length af) (dX : af.length ≤ bN) (hT : LaidT true Tryz.prog w) (h : F30.f k ae ax aM af = some r) :
  Calls Tryz.prog 30 #[.agg #[.string ae, .string ax, .int .i64 aM, .slice cl af.length bN]] w fun e w' => ∃ l7 : Value, e = .returned (l7) ∧ Kd.S k49 49 w' w.heap.size (fun _ => True) l7 r ∧ Below w.heap.size w w' := by
 have gJ := Tryz.underlying30
 have mD := Tryz.underlying53
 have mB := Tryz.underlying56
 have gV := am_ dW
 have gv := am_ dX
 clear dW dX
 have HZT := am_ hT
 clear hT
 have HB := am_ (Below.refl w.heap.size w)
 have H := h; unfold F30.f at H
 clear h
 replace H := bi_ H; rcases H with ⟨o4, A2, H⟩
 obtain ⟨JU, wH⟩ : ∃ y_ : List ByteArray, y_ = (([ae, ax, o4] : List ByteArray)) := ⟨_, rfl⟩
 replace H : ((F60.f k (⟨#[73, 88, 72]⟩ : ByteArray) JU).bind fun nS => (F30.l0 k (([(⟨nS.1, nS.2⟩ : S49)] : List (S49))) af (af.length : Int) 0 ae ax aM af)) = some r := by first | (rw [wH]; exact H) | exact H
 have Dw := am_ wH
 clear wH
 replace H := bi_ H; rcases H with ⟨⟨zX, zY⟩, A3, H⟩
 obtain ⟨JV, wI⟩ : ∃ y_ : List (S49), y_ = (([(⟨zX, zY⟩ : S49)] : List (S49))) := ⟨_, rfl⟩
 replace H : (F30.l0 k JV af (af.length : Int) 0 ae ax aM af) = some r := by first | (rw [wI]; exact H) | exact H
 have Dx := am_ wI
 clear wI
 have H' := am_ H
 clear H
 go_enter Tryz.func30, Tryz.ntmps30
 try go_wp2_with (first | ((with_reducible refine gate_dst (N := 1) rfl ?_); refine be_ 1 #[.string ae, .string ax, .int .i64 aM, .slice cl af.length bN] 30 ?_; intro fH hg w4 hbox hb; have ag := am_ (hbox); have JW := am_ (gw_ hg bl_); have UV := JW; replace HB := hs_ w hb; clear hb hbox hg))
 replace ag := bd_ ag
 replace HB := am_ (below_drew1 HB.out)
 refine start_ (n := 11) (S := fun w' => w'.cell? ⟨fH, 0, none⟩ = some (.string ae) ∧ w'.cell? ⟨fH, 1, none⟩ = some (.string ax) ∧ w'.cell? ⟨fH, 2, none⟩ = some (.int .i64 aM) ∧ w'.cell? ⟨fH, 3, none⟩ = some (.slice cl af.length bN)) (ds := []) (bs 11 0) (by kernel_rfl) rfl rfl ⟨(blk_cell ag.out 0).trans rfl, (blk_cell ag.out 1).trans rfl, (blk_cell ag.out 2).trans rfl, (blk_cell ag.out 3).trans rfl⟩ (fun hHeld => ?_); refine with_tabW F30.tab1 F30.bits1 (fun HT_ HW_ => ?_)
 generalize w4.drew = w5 at ag HB hHeld ⊢
 refine pq_ 0 HT_ ?_
 refine pq_ 2 HT_ ?_
 refine pq_ 4 HT_ ?_
 refine tq_ 1 HT_ HW_ hHeld rfl ax53_ ?_
 refine tq_ 3 HT_ HW_ hHeld rfl ax53_ ?_
 refine tq_ 5 HT_ HW_ hHeld rfl ax53_ ?_
 refine oq_ 6 HT_ (fun K hK => ?_)
 refine gr_ Tryz.func61 #[.int .i64 aM] (by rfl) ?_ rfl rfl rfl
 with_reducible refine (F61.calls ?s1 A2.out).mono ?_
 (case s1 => exact ax7_)
 rintro e w6 ⟨rfl, hb⟩
 refine ⟨_, rfl, ?_⟩
 replace ag := bb_ ag hb
 replace HB := hs_ w hb
 (try clear hb)
 refine hK.out _ _ ⟨(blk_cell ag.out 0).trans rfl, (blk_cell ag.out 1).trans rfl, (blk_cell ag.out 2).trans rfl, (blk_cell ag.out 3).trans rfl⟩ (fun hHeld => ?_)
 clear hK K
 refine no_ 14 ?_
 refine oq_ 7 HT_ (fun K hK => ?_)
 refine Kd.R_lit_step Kd.string _ 9 ?hg (N := 15) ?hd (xs := ([ae, ax, o4] : List ByteArray)) (inner := [.string ae, .string ax, .string o4]) (ok := fun _ => True) (okp := fun _ => True) ?hr ?hp (fun _ hk => hk) trivial (Below.refl _ _) (Nat.le_refl _) (by simp) ?_; (case hd => rfl); (case hg => rfl); (case hr => exact hr_); (case hp => exact (Reps.one (show Kd.M Kd.string _ _ _ ae [.string ae] from rfl) (Reps.one (show Kd.M Kd.string _ _ _ ax [.string ax] from rfl) (Reps.one (show Kd.M Kd.string _ _ _ o4 [.string o4] from rfl) (Reps.none _ _)))))
 intro X5 w7 JX hb hg_ hnew_
 clear hg_ hnew_
 (first | rw [← Dw.out] at JX | (simp only [Int.reduceToNat] at JX; rw [← Dw.out] at JX))
 have kj := am_ (Kd.R_lower JX (below_size bl_))
 replace ag := bb_ ag hb
 replace HB := hs_ w hb
 clear hb JX
 obtain ⟨X6, X7, UW⟩ := Kd.R_slice kj.out
 (first | subst UW | (injection UW with b9 dT cd; have dU := b9.symm; have dV := cd.symm; clear b9 dT cd; subst dU; subst dV))
 refine hK.out _ _ ⟨(blk_cell ag.out 0).trans rfl, (blk_cell ag.out 1).trans rfl, (blk_cell ag.out 2).trans rfl, (blk_cell ag.out 3).trans rfl⟩ (fun hHeld => ?_)
 clear hK K
 refine no_ 15 ?_
 refine oq_ 8 HT_ (fun K hK => ?_)
 refine gr_ Tryz.func60 #[.string (⟨#[73, 88, 72]⟩ : ByteArray), .slice X6 JU.length X7] (by rfl) ?_ rfl rfl rfl
 with_reducible refine (F60.calls ?s1 ?s2 A3.out).mono ?_
 (case s1 => repeat (first | exact (Kd.R_reads' kj.out).2.2 | (with_reducible refine Kd.C_alloc ?_ _) | (with_reducible refine Kd.C_drewN ?_ _) | (with_reducible refine Kd.C_drew ?_)))
 (case s2 => exact (Kd.R_reads' kj.out).2.1)
 rintro e Ie ⟨X8, rfl, bf, hb⟩
 refine ⟨_, rfl, ?_⟩
 have wJ := am_ (Kd.S_lower (Kd.S_new' bf (Kd.R_lt (rk_ kj))) (below_size bl_))
 replace kj := am_ (Kd.R_below (rk_ kj) hb)
 replace ag := bb_ ag hb
 replace HB := hs_ w hb
 (try clear hb)
 (try clear bf)
 obtain ⟨Qz, QA, JY⟩ := Kd.S_slice wJ.out
 (first | subst JY | (injection JY with b9 dT cd; have dU := b9.symm; have dV := cd.symm; clear b9 dT cd; subst dU; subst dV))
 refine hK.out _ _ ⟨(blk_cell ag.out 0).trans rfl, (blk_cell ag.out 1).trans rfl, (blk_cell ag.out 2).trans rfl, (blk_cell ag.out 3).trans rfl⟩ (fun hHeld => ?_)
 clear hK K
 refine no_ 16 ?_
 refine oq_ 9 HT_ (fun K hK => ?_)
 refine Kd.S_lit1_step k49 w.heap.size 49 ?hg (N := 17) ?hd (x := (⟨zX, zY⟩ : S49)) (inner := [.string zX, .slice Qz zY.length QA]) (ok := fun _ => True) (okp := fun _ => True) ?hr rfl ?hp (fun _ hk => hk) trivial ?hS ?_; (case hd => rfl); (case hg => rfl); (case hr => exact hr_); (case hp => exact k49_mkM _ _ _ (⟨zX, zY⟩ : S49) (Kd.S_mono (by (with_reducible repeat (first | apply Kd.S_alloc | apply Kd.S_drewN | apply Kd.S_drew)); exact wJ.out) (fun _ _ => trivial))); (case hS => exact (below_size bl_))
 intro X9 lU lg hb hg_ hnew_
 clear hg_ hnew_
 (first | rw [← Dx.out] at lg | (simp only [Int.reduceToNat] at lg; rw [← Dx.out] at lg))
 replace kj := am_ (Kd.R_below (rk_ kj) hb)
 have JZ := am_ (lg)
 replace ag := bb_ ag hb
 replace HB := am_ (below_step bl_ hb)
 clear wJ
 clear hb lg
 refine hK.out _ _ ⟨(blk_cell ag.out 0).trans rfl, (blk_cell ag.out 1).trans rfl, (blk_cell ag.out 2).trans rfl, (blk_cell ag.out 3).trans rfl⟩ (fun hHeld => ?_)
 clear hK K
 refine no_ 17 ?_
 refine pq_ 10 HT_ ?_
 refine done_ (done_of HT_.out (by kernel_rfl)) ?_
 have re := cellsF4 ag.out
 try go_wp2
 go_loopg [3, 21] k (fun kq v3 v21 w' => ∃ (be : List (S49)) (al : Int), v21 = .int .i64 al ∧ Aside0 (F30.l0 kq be af (af.length : Int) al ae ax aM af = some r) ∧ Aside0 (kq ≤ k) ∧ Aside0 (Kd.S k49 49 w' w.heap.size (fun _ => True) v3 be) ∧ Aside0 (w'.heap[fH]? = some (.cells #[.string ae, .string ax, .int .i64 aM, (.slice cl af.length bN)] 30 (0, 0))) ∧ Aside0 (Below w.heap.size w w'))
 case atStart => exact ⟨(JV), (0), er_, H', ⟨Nat.le_refl _⟩, ⟨by (with_reducible repeat (first | apply Kd.S_alloc | apply Kd.S_drewN | apply Kd.S_drew)); exact JZ.out⟩, ⟨bk_ ag⟩, ⟨bl_⟩⟩
 case round =>
  clear H'
  try clear re
  obtain ⟨be, al, rfl, HA, cK, bk, ag, HB⟩ := hrel
  cases gk with
  | zero => exact absurd HA.out (by simp [F30.l0])
  | succ k1 =>
   have H := HA.out
   clear HA
   simp only [F30.l0] at H
   replace H := it_ H; rcases H with ⟨c15b0, H⟩ | ⟨c15b0, H⟩
   rotate_left
   ·replace H := bi_ H; rcases H with ⟨oX, Ya, H⟩
    replace H := bi_ H; rcases H with ⟨oY, Yb, H⟩
    obtain ⟨wK, wL⟩ : ∃ y_ : List ByteArray, y_ = (([oX, oY] : List ByteArray)) := ⟨_, rfl⟩
    replace H : ((F60.f k1 (⟨#[73, 88, 84]⟩ : ByteArray) wK).bind fun nP => (if be.length < 3518437208883 then (some (be ++ [(⟨nP.1, nP.2⟩ : S49)])) else (none))) = some r := by first | (rw [wL]; exact H) | exact H
    have Dy := am_ wL
    clear wL
    replace H := bi_ H; rcases H with ⟨⟨t210, zZ⟩, Yc, H⟩
    replace H := iln_ H; rcases H with ⟨J0, H⟩
    obtain ⟨QB, wM⟩ : ∃ y_ : List (S49), y_ = (be ++ [(⟨t210, zZ⟩ : S49)]) := ⟨_, rfl⟩
    replace H : (some QB) = some r := by first | (rw [wM]; exact H) | exact H
    have J1 := am_ wM
    clear wM
    obtain rfl := Option.some.inj H
    try go_wp2
    replace bk := am_ (Kd.S_drew bk.out)
    replace ag := bd_ ag
    replace HB := am_ (below_drew1 HB.out)
    refine start_ (n := 13) (S := fun w' => w'.cell? ⟨fH, 0, none⟩ = some (.string ae) ∧ w'.cell? ⟨fH, 1, none⟩ = some (.string ax) ∧ w'.cell? ⟨fH, 2, none⟩ = some (.int .i64 aM) ∧ w'.cell? ⟨fH, 3, none⟩ = some (.slice cl af.length bN)) (ds := []) (bs 13 0) (by kernel_rfl) rfl rfl ⟨(blk_cell ag.out 0).trans rfl, (blk_cell ag.out 1).trans rfl, (blk_cell ag.out 2).trans rfl, (blk_cell ag.out 3).trans rfl⟩ (fun hHeld => ?_); refine with_tabW F30.tab15 F30.bits15 (fun HT_ HW_ => ?_)
    generalize wr.drew = UX at bk ag HB hHeld ⊢
    refine pq_ 0 HT_ ?_
    refine pq_ 1 HT_ ?_
    refine pq_ 5 HT_ ?_
    refine tq_ 2 HT_ HW_ hHeld rfl ax53_ ?_
    refine pq_ 3 HT_ ?_
    refine tq_ 6 HT_ HW_ hHeld rfl ax53_ ?_
    refine oq_ 4 HT_ (fun K hK => ?_)
    refine gr_ Tryz.func61 #[.int .i64 (af.length : Int)] (by rfl) ?_ rfl rfl rfl
    with_reducible refine (F61.calls ?s1 Ya.out).mono ?_
    (case s1 => exact ax7_)
    rintro e w90 ⟨rfl, hb⟩
    refine ⟨_, rfl, ?_⟩
    replace bk := am_ (Kd.S_below ax0_ hb)
    replace ag := bb_ ag hb
    replace HB := hs_ w hb
    (try clear hb)
    refine hK.out _ _ ⟨(blk_cell ag.out 0).trans rfl, (blk_cell ag.out 1).trans rfl, (blk_cell ag.out 2).trans rfl, (blk_cell ag.out 3).trans rfl⟩ (fun hHeld => ?_)
    clear hK K
    refine no_ 86 ?_
    refine oq_ 7 HT_ (fun K hK => ?_)
    refine gr_ Tryz.func61 #[.int .i64 aM] (by rfl) ?_ rfl rfl rfl
    with_reducible refine (F61.calls ?s1 Yb.out).mono ?_
    (case s1 => exact ax7_)
    rintro e w91 ⟨rfl, hb⟩
    refine ⟨_, rfl, ?_⟩
    replace bk := am_ (Kd.S_below ax0_ hb)
    replace ag := bb_ ag hb
    replace HB := hs_ w hb
    (try clear hb)
    refine hK.out _ _ ⟨(blk_cell ag.out 0).trans rfl, (blk_cell ag.out 1).trans rfl, (blk_cell ag.out 2).trans rfl, (blk_cell ag.out 3).trans rfl⟩ (fun hHeld => ?_)
    clear hK K
    refine no_ 89 ?_
    refine oq_ 8 HT_ (fun K hK => ?_)
    refine Kd.R_lit_step Kd.string _ 9 ?hg (N := 90) ?hd (xs := ([oX, oY] : List ByteArray)) (inner := [.string oX, .string oY]) (ok := fun _ => True) (okp := fun _ => True) ?hr ?hp (fun _ hk => hk) trivial (Below.refl _ _) (Nat.le_refl _) (by simp) ?_; (case hd => rfl); (case hg => rfl); (case hr => exact hr_); (case hp => exact (Reps.one (show Kd.M Kd.string _ _ _ oX [.string oX] from rfl) (Reps.one (show Kd.M Kd.string _ _ _ oY [.string oY] from rfl) (Reps.none _ _))))
    intro Yd w92 uH hb hg_ hnew_
    clear hg_ hnew_
    (first | rw [← Dy.out] at uH | (simp only [Int.reduceToNat] at uH; rw [← Dy.out] at uH))
    replace bk := am_ (Kd.S_elder' ax0_ (Kd.R_base uH) hb)
    have iu := am_ (Kd.R_lower uH (below_size bl_))
    replace ag := bb_ ag hb
    replace HB := hs_ w hb
    clear hb uH
    obtain ⟨uI, uJ, z6⟩ := Kd.R_slice iu.out
    (first | subst z6 | (injection z6 with b9 dT cd; have dU := b9.symm; have dV := cd.symm; clear b9 dT cd; subst dU; subst dV))
    refine hK.out _ _ ⟨(blk_cell ag.out 0).trans rfl, (blk_cell ag.out 1).trans rfl, (blk_cell ag.out 2).trans rfl, (blk_cell ag.out 3).trans rfl⟩ (fun hHeld => ?_)
    clear hK K
    refine no_ 90 ?_
    refine oq_ 9 HT_ (fun K hK => ?_)
    refine gr_ Tryz.func60 #[.string (⟨#[73, 88, 84]⟩ : ByteArray), .slice uI wK.length uJ] (by rfl) ?_ rfl rfl rfl
    with_reducible refine (F60.calls ?s1 ?s2 Yc.out).mono ?_
    (case s1 => repeat (first | exact (Kd.R_reads' iu.out).2.2 | (with_reducible refine Kd.C_alloc ?_ _) | (with_reducible refine Kd.C_drewN ?_ _) | (with_reducible refine Kd.C_drew ?_)))
    (case s2 => exact (Kd.R_reads' iu.out).2.1)
    rintro e w95 ⟨v212, rfl, bf, hb⟩
    refine ⟨_, rfl, ?_⟩
    obtain ⟨jO, fP, fQ⟩ := nb9_ bf; replace bk := am_ (Kd.S_elder' (Kd.S_mono (Kd.S_bound ax0_) (fun k_ hk_ => (⟨fP _ hk_.2.2.1, hk_.1⟩ : k_ < jO ∧ _))) (Kd.S_base bf) hb)
    have wN := am_ (Kd.S_lower (Kd.S_new' fQ (Kd.R_lt (rk_ iu))) (below_size bl_))
    replace iu := am_ (Kd.R_below (rk_ iu) hb)
    replace ag := bb_ ag hb
    replace HB := hs_ w hb
    (try clear hb)
    (try clear bf)
    obtain ⟨QC, QD, J2⟩ := Kd.S_slice wN.out
    (first | subst J2 | (injection J2 with b9 dT cd; have dU := b9.symm; have dV := cd.symm; clear b9 dT cd; subst dU; subst dV))
    refine hK.out _ _ ⟨(blk_cell ag.out 0).trans rfl, (blk_cell ag.out 1).trans rfl, (blk_cell ag.out 2).trans rfl, (blk_cell ag.out 3).trans rfl⟩ (fun hHeld => ?_)
    clear hK K
    refine no_ 91 ?_
    refine oq_ 10 HT_ (fun K hK => ?_)
    refine value_ (w1 := ?_) (v := ?_) (by rfl) rfl ?_ ?_
    rotate_left 2
    ·go_simp
     constructor
     ·rfl
     ·rfl
    refine hK.out _ _ ⟨(blk_cell (blk_alloc ag.out _) 0).trans rfl, (blk_cell (blk_alloc ag.out _) 1).trans rfl, (blk_cell (blk_alloc ag.out _) 2).trans rfl, (blk_cell (blk_alloc ag.out _) 3).trans rfl⟩ (fun hHeld => ?_)
    clear hK K
    refine no_ 92 ?_
    refine oq_ 11 HT_ (fun K hK => ?_)
    refine Kd.S_append_step k49 (w0 := w) w.heap.size (by rfl) (.tmp 82) (.tmp 92) 26 49 (.agg #[(.string ⟨#[]⟩), (.slice none 0 0)]) 40 rfl Tryz.underlying26 info49 rfl (by decide) (by omega) u3 be (⟨t210, zZ⟩ : S49) [.string t210, .slice QC zZ.length QD] (fun k_ => some k_ ≠ (.slice uI wK.length uJ : Value).ownBlock) (fun k_ => jO ≤ k_ ∧ (fun k_ => some k_ ≠ (.slice uI wK.length uJ : Value).ownBlock) k_) rfl rfl ?aP (fun k_ hk_ => ⟨hk_.2, fun e_ => Nat.not_le.2 ax14_ hk_.1⟩) ?aF ?aO ?aB ?aS ?aL ?_
    (case aP => exact k49_mkM _ _ _ (⟨t210, zZ⟩ : S49) (Kd.S_mono (Kd.S_apart' (wN.out) (Kd.S_typed bk.out) (by decide)) (fun k_ hk => ⟨ax9_, (show ((fun k_ => some k_ ≠ (.slice uI wK.length uJ : Value).ownBlock)) k_ ∧ some k_ ≠ (u3 : Value).ownBlock from ⟨hk.1.2, hk.2⟩).1⟩)))
    (case aB => exact bl_)
    (case aF => exact (fun k_ hk => Kd.fresh' (Kd.R_lt (rk_ iu)) k_ hk))
    (case aO => exact au1_2)
    (case aS => exact (below_size bl_))
    (case aL => have := J0.out; omega)
    intro Ye w96 ho hb hg hat
    rw [← J1.out] at ho
    replace ag := am_ (bg_ ag hg (Kd.S_ne bk.out ag.out (by decide)))
    replace iu := am_ (Kd.R_over' (rk_ iu) (Kd.S_typed ax0_) (by decide) hg)
    replace HB := am_ (hb)
    have J3 := am_ (ho)
    clear bk wN
    clear ho hb hg hat
    refine hK.out _ _ ⟨(blk_cell ag.out 0).trans rfl, (blk_cell ag.out 1).trans rfl, (blk_cell ag.out 2).trans rfl, (blk_cell ag.out 3).trans rfl⟩ (fun hHeld => ?_)
    clear hK K
    refine no_ 93 ?_
    refine pq_ 12 HT_ ?_
    refine done_ (done_of HT_.out (by kernel_rfl)) ?_
    try go_wp2
    go_ret
    exact ⟨_, ax11_, by (with_reducible repeat (first | apply Kd.S_alloc | apply Kd.S_drewN | apply Kd.S_drew)); exact Kd.S_mono J3.out (fun _ hk => trivial), bl_⟩
   replace H := itn_ H; rcases H with ⟨c16b0, H⟩
   replace H := itn_ H; rcases H with ⟨c17b0, H⟩
   replace H := bi_ H; rcases H with ⟨oV, Yf, H⟩
   replace H := bi_ H; rcases H with ⟨oW, Yg, H⟩
   obtain ⟨wO, wP⟩ : ∃ y_ : List ByteArray, y_ = (([oV, oW] : List ByteArray)) := ⟨_, rfl⟩
   replace H : ((F60.f k1 (⟨#[71, 82, 72]⟩ : ByteArray) wO).bind fun nO => (if be.length < 3518437208883 then (F30.l1 k1 (be ++ [(⟨nO.1, nO.2⟩ : S49)]) af (af.length : Int) al ((rd_T53 af al).f2) (((rd_T53 af al).f2).length : Int) 0 ae ax aM af ((rd_T53 af al).f0) ((rd_T53 af al).f1) ((rd_T53 af al).f2)) else (none))) = some r := by first | (rw [wP]; exact H) | exact H
   have Dz := am_ wP
   clear wP
   replace H := bi_ H; rcases H with ⟨⟨z7, z8⟩, If, H⟩
   replace H := iln_ H; rcases H with ⟨wQ, H⟩
   obtain ⟨J4, wR⟩ : ∃ y_ : List (S49), y_ = (be ++ [(⟨z7, z8⟩ : S49)]) := ⟨_, rfl⟩
   replace H : (F30.l1 k1 J4 af (af.length : Int) al ((rd_T53 af al).f2) (((rd_T53 af al).f2).length : Int) 0 ae ax aM af ((rd_T53 af al).f0) ((rd_T53 af al).f1) ((rd_T53 af al).f2)) = some r := by first | (rw [wR]; exact H) | exact H
   have J5 := am_ wR
   clear wR
   have H' := am_ H
   clear H
   have Aa : 0 ≤ (al : Int) := od_
   have Ac : al < (af.length : Int) := od_
   obtain ⟨wS, jX, gM, QE, mK, mL, mM, rf, rg⟩ := at_T53 gV.out al Aa Ac
   cases QE
   replace mK := pw_cell_below HB.out mK
   replace mL := pw_cell_below HB.out mL
   replace mM := pw_cell_below HB.out mM
   have Ad := am_ rg
   have Om := am_ rf
   clear rg rf
   replace Aa := eq_true Aa
   replace Ac := eq_true Ac
   try go_wp2_with (first | ((with_reducible refine gate_dst (N := 5) rfl ?_); refine be_ 5 #[.int .i64 0, .int .i64 0, .slice none 0 0] 53 ?_; intro eH hg zO hbox hb; replace bk := am_ (Kd.S_below ax0_ hb); have ah := am_ (hbox); have J6 := am_ (gw_ hg bl_); have UY := J6; replace HB := hs_ w hb; have Ig := am_ (gn_ hg (blkl_ ag)); have uK := am_ (gm_ hg (blkl_ ag)); replace ag := bb_ ag hb; clear hb hbox hg; obtain ⟨UZ, U0⟩ := nn_ uK; have rh := cellsF3 ah.out))
   generalize hw_ : (((zO.setCell ⟨eH, 0, none⟩ (.int .i64 ((rd_T53 af al).f0))).setCell ⟨eH, 1, none⟩ (.int .i64 ((rd_T53 af al).f1))).setCell ⟨eH, 2, none⟩ (.slice jX ((rd_T53 af al).f2).length gM)) = wB
   replace bk : Aside0 (Kd.S k49 49 wB w.heap.size (fun _ => True) u3 be) := by rw [← hw_]; exact ⟨by (with_reducible repeat (first | apply Kd.S_alloc | apply Kd.S_drewN | apply Kd.S_drew)); exact Kd.S_mono (Kd.S_far (p := ⟨eH, 2, none⟩) (Kd.S_far (p := ⟨eH, 1, none⟩) (Kd.S_far (p := ⟨eH, 0, none⟩) (Kd.S_types bk.out ah.out (by decide)) (fun _ hk => hk.2) (.int .i64 ((rd_T53 af al).f0))) (fun _ hk => hk.2) (.int .i64 ((rd_T53 af al).f1))) (fun _ hk => hk.2) (.slice jX ((rd_T53 af al).f2).length gM)) (fun _ hk => trivial)⟩
   replace ag : Aside0 (wB.heap[fH]? = some (.cells #[.string ae, .string ax, .int .i64 aM, .slice (some wS) af.length bN] 30 (0, 0))) := by rw [← hw_]; exact ⟨bf_ ag⟩
   replace ah : Aside0 (wB.heap[eH]? = some (.cells #[.int .i64 ((rd_T53 af al).f0), .int .i64 ((rd_T53 af al).f1), .slice jX ((rd_T53 af al).f2).length gM] 53 (0, 0))) := by rw [← hw_]; exact ⟨bq_ ah⟩
   replace HB : Aside0 (Below w.heap.size w wB) := by rw [← hw_]; exact ⟨bl_⟩
   clear hw_
   replace bk := am_ (Kd.S_drew bk.out)
   replace ag := bd_ ag
   replace ah := bd_ ah
   replace HB := am_ (below_drew1 HB.out)
   refine start_ (n := 12) (S := fun w' => w'.cell? ⟨eH, 0, none⟩ = some (.int .i64 ((rd_T53 af al).f0)) ∧ w'.cell? ⟨eH, 1, none⟩ = some (.int .i64 ((rd_T53 af al).f1)) ∧ w'.cell? ⟨eH, 2, none⟩ = some (.slice jX ((rd_T53 af al).f2).length gM)) (ds := []) (bs 12 0) (by kernel_rfl) rfl rfl ⟨(blk_cell ah.out 0).trans rfl, (blk_cell ah.out 1).trans rfl, (blk_cell ah.out 2).trans rfl⟩ (fun hHeld => ?_); refine with_tabW F30.tab5 F30.bits5 (fun HT_ HW_ => ?_)
   generalize wB.drew = E9 at bk ag ah HB hHeld ⊢
   refine pq_ 0 HT_ ?_
   refine pq_ 1 HT_ ?_
   refine pq_ 4 HT_ ?_
   refine tq_ 2 HT_ HW_ hHeld rfl ax54_ ?_
   refine tq_ 5 HT_ HW_ hHeld rfl ax54_ ?_
   refine oq_ 3 HT_ (fun K hK => ?_)
   refine gr_ Tryz.func61 #[.int .i64 ((rd_T53 af al).f0)] (by rfl) ?_ rfl rfl rfl
   with_reducible refine (F61.calls ?s1 Yf.out).mono ?_
   (case s1 => exact ax7_)
   rintro e Yh ⟨rfl, hb⟩
   refine ⟨_, rfl, ?_⟩
   replace bk := am_ (Kd.S_below ax0_ hb)
   replace ag := bb_ ag hb
   replace ah := bb_ ah hb
   replace HB := hs_ w hb
   (try clear hb)
   refine hK.out _ _ ⟨(blk_cell ah.out 0).trans rfl, (blk_cell ah.out 1).trans rfl, (blk_cell ah.out 2).trans rfl⟩ (fun hHeld => ?_)
   clear hK K
   refine no_ 28 ?_
   refine oq_ 6 HT_ (fun K hK => ?_)
   refine gr_ Tryz.func61 #[.int .i64 ((rd_T53 af al).f1)] (by rfl) ?_ rfl rfl rfl
   with_reducible refine (F61.calls ?s1 Yg.out).mono ?_
   (case s1 => exact ax7_)
   rintro e U1 ⟨rfl, hb⟩
   refine ⟨_, rfl, ?_⟩
   replace bk := am_ (Kd.S_below ax0_ hb)
   replace ag := bb_ ag hb
   replace ah := bb_ ah hb
   replace HB := hs_ w hb
   (try clear hb)
   refine hK.out _ _ ⟨(blk_cell ah.out 0).trans rfl, (blk_cell ah.out 1).trans rfl, (blk_cell ah.out 2).trans rfl⟩ (fun hHeld => ?_)
   clear hK K
   refine no_ 31 ?_
   refine oq_ 7 HT_ (fun K hK => ?_)
   refine Kd.R_lit_step Kd.string _ 9 ?hg (N := 32) ?hd (xs := ([oV, oW] : List ByteArray)) (inner := [.string oV, .string oW]) (ok := fun _ => True) (okp := fun _ => True) ?hr ?hp (fun _ hk => hk) trivial (Below.refl _ _) (Nat.le_refl _) (by simp) ?_; (case hd => rfl); (case hg => rfl); (case hr => exact hr_); (case hp => exact (Reps.one (show Kd.M Kd.string _ _ _ oV [.string oV] from rfl) (Reps.one (show Kd.M Kd.string _ _ _ oW [.string oW] from rfl) (Reps.none _ _))))
   intro Yi QF uL hb hg_ hnew_
   clear hg_ hnew_
   (first | rw [← Dz.out] at uL | (simp only [Int.reduceToNat] at uL; rw [← Dz.out] at uL))
   replace bk := am_ (Kd.S_elder' ax0_ (Kd.R_base uL) hb)
   have iv := am_ (Kd.R_lower uL (below_size bl_))
   replace ag := bb_ ag hb
   replace ah := bb_ ah hb
   replace HB := hs_ w hb
   clear hb uL
   obtain ⟨nT, nU, uM⟩ := Kd.R_slice iv.out
   (first | subst uM | (injection uM with b9 dT cd; have dU := b9.symm; have dV := cd.symm; clear b9 dT cd; subst dU; subst dV))
   refine hK.out _ _ ⟨(blk_cell ah.out 0).trans rfl, (blk_cell ah.out 1).trans rfl, (blk_cell ah.out 2).trans rfl⟩ (fun hHeld => ?_)
   clear hK K
   refine no_ 32 ?_
   refine oq_ 8 HT_ (fun K hK => ?_)
   refine gr_ Tryz.func60 #[.string (⟨#[71, 82, 72]⟩ : ByteArray), .slice nT wO.length nU] (by rfl) ?_ rfl rfl rfl
   with_reducible refine (F60.calls ?s1 ?s2 If.out).mono ?_
   (case s1 => repeat (first | exact (Kd.R_reads' iv.out).2.2 | (with_reducible refine Kd.C_alloc ?_ _) | (with_reducible refine Kd.C_drewN ?_ _) | (with_reducible refine Kd.C_drew ?_)))
   (case s2 => exact (Kd.R_reads' iv.out).2.1)
   rintro e U2 ⟨Yj, rfl, bf, hb⟩
   refine ⟨_, rfl, ?_⟩
   obtain ⟨jO, fP, fQ⟩ := nb9_ bf; replace bk := am_ (Kd.S_elder' (Kd.S_mono (Kd.S_bound ax0_) (fun k_ hk_ => (⟨fP _ hk_.2.2.1, hk_.1⟩ : k_ < jO ∧ _))) (Kd.S_base bf) hb)
   have wT := am_ (Kd.S_lower (Kd.S_new' fQ (Kd.R_lt (rk_ iv))) (below_size bl_))
   replace iv := am_ (Kd.R_below (rk_ iv) hb)
   replace ag := bb_ ag hb
   replace ah := bb_ ah hb
   replace HB := hs_ w hb
   (try clear hb)
   (try clear bf)
   obtain ⟨QG, QH, J7⟩ := Kd.S_slice wT.out
   (first | subst J7 | (injection J7 with b9 dT cd; have dU := b9.symm; have dV := cd.symm; clear b9 dT cd; subst dU; subst dV))
   refine hK.out _ _ ⟨(blk_cell ah.out 0).trans rfl, (blk_cell ah.out 1).trans rfl, (blk_cell ah.out 2).trans rfl⟩ (fun hHeld => ?_)
   clear hK K
   refine no_ 33 ?_
   refine oq_ 9 HT_ (fun K hK => ?_)
   refine value_ (w1 := ?_) (v := ?_) (by rfl) rfl ?_ ?_
   rotate_left 2
   ·go_simp
    constructor
    ·rfl
    ·rfl
   refine hK.out _ _ ⟨(blk_cell (blk_alloc ah.out _) 0).trans rfl, (blk_cell (blk_alloc ah.out _) 1).trans rfl, (blk_cell (blk_alloc ah.out _) 2).trans rfl⟩ (fun hHeld => ?_)
   clear hK K
   refine no_ 34 ?_
   refine oq_ 10 HT_ (fun K hK => ?_)
   refine Kd.S_append_step k49 (w0 := w) w.heap.size (by rfl) (.tmp 25) (.tmp 34) 26 49 (.agg #[(.string ⟨#[]⟩), (.slice none 0 0)]) 40 rfl Tryz.underlying26 info49 rfl (by decide) (by omega) u3 be (⟨z7, z8⟩ : S49) [.string z7, .slice QG z8.length QH] (fun k_ => some k_ ≠ (.slice nT wO.length nU : Value).ownBlock) (fun k_ => jO ≤ k_ ∧ (fun k_ => some k_ ≠ (.slice nT wO.length nU : Value).ownBlock) k_) rfl rfl ?aP (fun k_ hk_ => ⟨hk_.2, fun e_ => Nat.not_le.2 ax14_ hk_.1⟩) ?aF ?aO ?aB ?aS ?aL ?_
   (case aP => exact k49_mkM _ _ _ (⟨z7, z8⟩ : S49) (Kd.S_mono (Kd.S_apart' (wT.out) (Kd.S_typed bk.out) (by decide)) (fun k_ hk => ⟨ax9_, (show ((fun k_ => some k_ ≠ (.slice nT wO.length nU : Value).ownBlock)) k_ ∧ some k_ ≠ (u3 : Value).ownBlock from ⟨hk.1.2, hk.2⟩).1⟩)))
   (case aB => exact bl_)
   (case aF => exact (fun k_ hk => Kd.fresh' (Kd.R_lt (rk_ iv)) k_ hk))
   (case aO => exact au1_2)
   (case aS => exact (below_size bl_))
   (case aL => have := wQ.out; omega)
   intro Yk w33 ho hb hg hat
   rw [← J5.out] at ho
   replace ag := am_ (bg_ ag hg (Kd.S_ne bk.out ag.out (by decide)))
   replace ah := am_ (bg_ ah hg (Kd.S_ne bk.out ah.out (by decide)))
   replace iv := am_ (Kd.R_over' (rk_ iv) (Kd.S_typed ax0_) (by decide) hg)
   replace HB := am_ (hb)
   have J8 := am_ (ho)
   clear bk wT
   clear ho hb hg hat
   refine hK.out _ _ ⟨(blk_cell ah.out 0).trans rfl, (blk_cell ah.out 1).trans rfl, (blk_cell ah.out 2).trans rfl⟩ (fun hHeld => ?_)
   clear hK K
   refine no_ 35 ?_
   refine pq_ 11 HT_ ?_
   refine done_ (done_of HT_.out (by kernel_rfl)) ?_
   have mu := cellsF3 ah.out
   try go_wp2
   go_loopg [3, 39] k1 (fun kq v3 Yl w' => ∃ (ai : List (S49)) (bX : Int), Yl = .int .i64 bX ∧ Aside0 (F30.l1 kq ai af (af.length : Int) al ((rd_T53 af al).f2) (((rd_T53 af al).f2).length : Int) bX ae ax aM af ((rd_T53 af al).f0) ((rd_T53 af al).f1) ((rd_T53 af al).f2) = some r) ∧ Aside0 (kq ≤ k1) ∧ Aside0 (Kd.S k49 49 w' w.heap.size (fun _ => True) v3 ai) ∧ Aside0 (w'.heap[fH]? = some (.cells #[.string ae, .string ax, .int .i64 aM, (.slice (some wS) af.length bN)] 30 (0, 0))) ∧ Aside0 (w'.heap[eH]? = some (.cells #[.int .i64 ((rd_T53 af al).f0), .int .i64 ((rd_T53 af al).f1), (.slice jX ((rd_T53 af al).f2).length gM)] 53 (0, 0))) ∧ Aside0 (Below w.heap.size w w'))
   case atStart => exact ⟨(J4), (0), er_, H', ⟨Nat.le_refl _⟩, ⟨by (with_reducible repeat (first | apply Kd.S_alloc | apply Kd.S_drewN | apply Kd.S_drew)); exact Kd.S_mono J8.out (fun _ hk => trivial)⟩, ⟨bk_ ag⟩, ⟨bk_ ah⟩, ⟨bl_⟩⟩
   case round =>
    clear H'
    try clear c15b0
    try clear c16b0
    try clear c17b0
    try clear rh
    try clear mu
    try clear mK
    try clear mL
    try clear mM
    try clear Aa
    try clear Ac
    obtain ⟨ai, bX, rfl, HA, HK2, bk, ag, ah, HB⟩ := hrel
    cases gk with
    | zero => exact absurd HA.out (by simp [F30.l1])
    | succ k2 =>
     have H := HA.out
     clear HA
     simp only [F30.l1] at H
     replace H := it_ H; rcases H with ⟨c36b0, H⟩ | ⟨c36b0, H⟩
     rotate_left
     ·replace H := bi_ H; rcases H with ⟨o3, QI, H⟩
      replace H := bi_ H; rcases H with ⟨t232, Ym, H⟩
      obtain ⟨wU, wV⟩ : ∃ y_ : List ByteArray, y_ = (([o3, t232] : List ByteArray)) := ⟨_, rfl⟩
      replace H : ((F60.f k2 (⟨#[71, 82, 84]⟩ : ByteArray) wU).bind fun nR => (if ai.length < 3518437208883 then (F30.l0 k2 (ai ++ [(⟨nR.1, nR.2⟩ : S49)]) af (af.length : Int) (wrap64 (al + 1)) ae ax aM af) else (none))) = some r := by first | (rw [wV]; exact H) | exact H
      have DA := am_ wV
      clear wV
      replace H := bi_ H; rcases H with ⟨⟨Ae, Af⟩, Yn, H⟩
      replace H := iln_ H; rcases H with ⟨J9, H⟩
      obtain ⟨Ka, wW⟩ : ∃ y_ : List (S49), y_ = (ai ++ [(⟨Ae, Af⟩ : S49)]) := ⟨_, rfl⟩
      replace H : (F30.l0 k2 Ka af (af.length : Int) (wrap64 (al + 1)) ae ax aM af) = some r := by first | (rw [wW]; exact H) | exact H
      have Kb := am_ wW
      clear wW
      have H' := am_ H
      clear H
      try go_wp2
      replace bk := am_ (Kd.S_drew bk.out)
      replace ag := bd_ ag
      replace ah := bd_ ah
      replace HB := am_ (below_drew1 HB.out)
      refine start_ (n := 13) (S := fun w' => w'.cell? ⟨eH, 0, none⟩ = some (.int .i64 ((rd_T53 af al).f0)) ∧ w'.cell? ⟨eH, 1, none⟩ = some (.int .i64 ((rd_T53 af al).f1)) ∧ w'.cell? ⟨eH, 2, none⟩ = some (.slice jX ((rd_T53 af al).f2).length gM)) (ds := []) (bs 13 0) (by kernel_rfl) rfl rfl ⟨(blk_cell ah.out 0).trans rfl, (blk_cell ah.out 1).trans rfl, (blk_cell ah.out 2).trans rfl⟩ (fun hHeld => ?_); refine with_tabW F30.tab13 F30.bits13 (fun HT_ HW_ => ?_)
      generalize wr.drew = Yo at bk ag ah HB hHeld ⊢
      refine pq_ 0 HT_ ?_
      refine pq_ 1 HT_ ?_
      refine pq_ 5 HT_ ?_
      refine tq_ 2 HT_ HW_ hHeld rfl ax54_ ?_
      refine pq_ 3 HT_ ?_
      refine tq_ 6 HT_ HW_ hHeld rfl ax54_ ?_
      refine oq_ 4 HT_ (fun K hK => ?_)
      refine gr_ Tryz.func61 #[.int .i64 (((rd_T53 af al).f2).length : Int)] (by rfl) ?_ rfl rfl rfl
      with_reducible refine (F61.calls ?s1 QI.out).mono ?_
      (case s1 => exact ax7_)
      rintro e vQ ⟨rfl, hb⟩
      refine ⟨_, rfl, ?_⟩
      replace bk := am_ (Kd.S_below ax0_ hb)
      replace ag := bb_ ag hb
      replace ah := bb_ ah hb
      replace HB := hs_ w hb
      (try clear hb)
      refine hK.out _ _ ⟨(blk_cell ah.out 0).trans rfl, (blk_cell ah.out 1).trans rfl, (blk_cell ah.out 2).trans rfl⟩ (fun hHeld => ?_)
      clear hK K
      refine no_ 73 ?_
      refine oq_ 7 HT_ (fun K hK => ?_)
      refine gr_ Tryz.func61 #[.int .i64 ((rd_T53 af al).f1)] (by rfl) ?_ rfl rfl rfl
      with_reducible refine (F61.calls ?s1 Ym.out).mono ?_
      (case s1 => exact ax7_)
      rintro e w78 ⟨rfl, hb⟩
      refine ⟨_, rfl, ?_⟩
      replace bk := am_ (Kd.S_below ax0_ hb)
      replace ag := bb_ ag hb
      replace ah := bb_ ah hb
      replace HB := hs_ w hb
      (try clear hb)
      refine hK.out _ _ ⟨(blk_cell ah.out 0).trans rfl, (blk_cell ah.out 1).trans rfl, (blk_cell ah.out 2).trans rfl⟩ (fun hHeld => ?_)
      clear hK K
      refine no_ 76 ?_
      refine oq_ 8 HT_ (fun K hK => ?_)
      refine Kd.R_lit_step Kd.string _ 9 ?hg (N := 77) ?hd (xs := ([o3, t232] : List ByteArray)) (inner := [.string o3, .string t232]) (ok := fun _ => True) (okp := fun _ => True) ?hr ?hp (fun _ hk => hk) trivial (Below.refl _ _) (Nat.le_refl _) (by simp) ?_; (case hd => rfl); (case hg => rfl); (case hr => exact hr_); (case hp => exact (Reps.one (show Kd.M Kd.string _ _ _ o3 [.string o3] from rfl) (Reps.one (show Kd.M Kd.string _ _ _ t232 [.string t232] from rfl) (Reps.none _ _))))
      intro Yp w79 uN hb hg_ hnew_
      clear hg_ hnew_
      (first | rw [← DA.out] at uN | (simp only [Int.reduceToNat] at uN; rw [← DA.out] at uN))
      replace bk := am_ (Kd.S_elder' ax0_ (Kd.R_base uN) hb)
      have iw := am_ (Kd.R_lower uN (below_size bl_))
      replace ag := bb_ ag hb
      replace ah := bb_ ah hb
      replace HB := hs_ w hb
      clear hb uN
      obtain ⟨o5, o6, Ag⟩ := Kd.R_slice iw.out
      (first | subst Ag | (injection Ag with b9 dT cd; have dU := b9.symm; have dV := cd.symm; clear b9 dT cd; subst dU; subst dV))
      refine hK.out _ _ ⟨(blk_cell ah.out 0).trans rfl, (blk_cell ah.out 1).trans rfl, (blk_cell ah.out 2).trans rfl⟩ (fun hHeld => ?_)
      clear hK K
      refine no_ 77 ?_
      refine oq_ 9 HT_ (fun K hK => ?_)
      refine gr_ Tryz.func60 #[.string (⟨#[71, 82, 84]⟩ : ByteArray), .slice o5 wU.length o6] (by rfl) ?_ rfl rfl rfl
      with_reducible refine (F60.calls ?s1 ?s2 Yn.out).mono ?_
      (case s1 => repeat (first | exact (Kd.R_reads' iw.out).2.2 | (with_reducible refine Kd.C_alloc ?_ _) | (with_reducible refine Kd.C_drewN ?_ _) | (with_reducible refine Kd.C_drew ?_)))
      (case s2 => exact (Kd.R_reads' iw.out).2.1)
      rintro e w82 ⟨Yq, rfl, bf, hb⟩
      refine ⟨_, rfl, ?_⟩
      obtain ⟨jO, fP, fQ⟩ := nb9_ bf; replace bk := am_ (Kd.S_elder' (Kd.S_mono (Kd.S_bound ax0_) (fun k_ hk_ => (⟨fP _ hk_.2.2.1, hk_.1⟩ : k_ < jO ∧ _))) (Kd.S_base bf) hb)
      have wX := am_ (Kd.S_lower (Kd.S_new' fQ (Kd.R_lt (rk_ iw))) (below_size bl_))
      replace iw := am_ (Kd.R_below (rk_ iw) hb)
      replace ag := bb_ ag hb
      replace ah := bb_ ah hb
      replace HB := hs_ w hb
      (try clear hb)
      (try clear bf)
      obtain ⟨wY, wZ, xa⟩ := Kd.S_slice wX.out
      (first | subst xa | (injection xa with b9 dT cd; have dU := b9.symm; have dV := cd.symm; clear b9 dT cd; subst dU; subst dV))
      refine hK.out _ _ ⟨(blk_cell ah.out 0).trans rfl, (blk_cell ah.out 1).trans rfl, (blk_cell ah.out 2).trans rfl⟩ (fun hHeld => ?_)
      clear hK K
      refine no_ 78 ?_
      refine oq_ 10 HT_ (fun K hK => ?_)
      refine value_ (w1 := ?_) (v := ?_) (by rfl) rfl ?_ ?_
      rotate_left 2
      ·go_simp
       constructor
       ·rfl
       ·rfl
      refine hK.out _ _ ⟨(blk_cell (blk_alloc ah.out _) 0).trans rfl, (blk_cell (blk_alloc ah.out _) 1).trans rfl, (blk_cell (blk_alloc ah.out _) 2).trans rfl⟩ (fun hHeld => ?_)
      clear hK K
      refine no_ 79 ?_
      refine oq_ 11 HT_ (fun K hK => ?_)
      refine Kd.S_append_step k49 (w0 := w) w.heap.size (by rfl) (.tmp 69) (.tmp 79) 26 49 (.agg #[(.string ⟨#[]⟩), (.slice none 0 0)]) 40 rfl Tryz.underlying26 info49 rfl (by decide) (by omega) u3 ai (⟨Ae, Af⟩ : S49) [.string Ae, .slice wY Af.length wZ] (fun k_ => some k_ ≠ (.slice o5 wU.length o6 : Value).ownBlock) (fun k_ => jO ≤ k_ ∧ (fun k_ => some k_ ≠ (.slice o5 wU.length o6 : Value).ownBlock) k_) rfl rfl ?aP (fun k_ hk_ => ⟨hk_.2, fun e_ => Nat.not_le.2 ax14_ hk_.1⟩) ?aF ?aO ?aB ?aS ?aL ?_
      (case aP => exact k49_mkM _ _ _ (⟨Ae, Af⟩ : S49) (Kd.S_mono (Kd.S_apart' (wX.out) (Kd.S_typed bk.out) (by decide)) (fun k_ hk => ⟨ax9_, (show ((fun k_ => some k_ ≠ (.slice o5 wU.length o6 : Value).ownBlock)) k_ ∧ some k_ ≠ (u3 : Value).ownBlock from ⟨hk.1.2, hk.2⟩).1⟩)))
      (case aB => exact bl_)
      (case aF => exact (fun k_ hk => Kd.fresh' (Kd.R_lt (rk_ iw)) k_ hk))
      (case aO => exact au1_2)
      (case aS => exact (below_size bl_))
      (case aL => have := J9.out; omega)
      intro Yr Ys ho hb hg hat
      rw [← Kb.out] at ho
      replace ag := am_ (bg_ ag hg (Kd.S_ne bk.out ag.out (by decide)))
      replace ah := am_ (bg_ ah hg (Kd.S_ne bk.out ah.out (by decide)))
      replace iw := am_ (Kd.R_over' (rk_ iw) (Kd.S_typed ax0_) (by decide) hg)
      replace HB := am_ (hb)
      have Ke := am_ (ho)
      clear bk wX
      clear ho hb hg hat
      refine hK.out _ _ ⟨(blk_cell ah.out 0).trans rfl, (blk_cell ah.out 1).trans rfl, (blk_cell ah.out 2).trans rfl⟩ (fun hHeld => ?_)
      clear hK K
      refine no_ 80 ?_
      refine pq_ 12 HT_ ?_
      refine done_ (done_of HT_.out (by kernel_rfl)) ?_
      try go_wp2
      go_roundg k2
      case measure => have := cK.out; have := HK2.out; omega
      case rel => exact ⟨(Ka), (wrap64 (al + 1)), er_, H', ⟨by have := cK.out; have := HK2.out; omega⟩, ⟨by (with_reducible repeat (first | apply Kd.S_alloc | apply Kd.S_drewN | apply Kd.S_drew)); exact Kd.S_mono Ke.out (fun _ hk => trivial)⟩, ⟨bk_ ag⟩, ⟨bl_⟩⟩
     replace H := itn_ H; rcases H with ⟨c37b0, H⟩
     replace H := itn_ H; rcases H with ⟨c38b0, H⟩
     replace H := bi_ H; rcases H with ⟨oZ, U3, H⟩
     obtain ⟨lX, xd⟩ : ∃ y_ : List ByteArray, y_ = (([oZ] : List ByteArray)) := ⟨_, rfl⟩
     replace H : ((F60.f k2 (⟨#[77, 83, 72]⟩ : ByteArray) lX).bind fun nQ => (if ai.length < 3518437208883 then ((some (ai ++ [(⟨nQ.1, nQ.2⟩ : S49)] : List (S49))).bind fun lW => ((F62.f k2 ((rd_T56 ((rd_T53 af al).f2) bX).f1)).bind fun lf => (if lW.length + lf.length < 3518437208883 then ((some (lW ++ lf : List (S49))).bind fun gL => ((F61.f (((rd_T56 ((rd_T53 af al).f2) bX).f1).length : Int)).bind fun jV => ((F61.f ((rd_T56 ((rd_T53 af al).f2) bX).f0)).bind fun jW => ((F60.f k2 (⟨#[77, 83, 84]⟩ : ByteArray) (([jV, jW] : List ByteArray))).bind fun e8 => (if gL.length < 3518437208883 then (F30.l1 k2 (gL ++ [(⟨e8.1, e8.2⟩ : S49)]) af (af.length : Int) al ((rd_T53 af al).f2) (((rd_T53 af al).f2).length : Int) (wrap64 (bX + 1)) ae ax aM af ((rd_T53 af al).f0) ((rd_T53 af al).f1) ((rd_T53 af al).f2)) else (none)))))) else (none)))) else (none))) = some r := by first | (rw [xd]; exact H) | exact H
     have DB := am_ xd
     clear xd
     replace H := bi_ H; rcases H with ⟨⟨Ah, Ai⟩, On, H⟩
     replace H := iln_ H; rcases H with ⟨Kf, H⟩
     obtain ⟨lW, xe⟩ : ∃ y_ : List (S49), y_ = (ai ++ [(⟨Ah, Ai⟩ : S49)]) := ⟨_, rfl⟩
     replace H : ((F62.f k2 ((rd_T56 ((rd_T53 af al).f2) bX).f1)).bind fun lf => (if lW.length + lf.length < 3518437208883 then ((some (lW ++ lf : List (S49))).bind fun gL => ((F61.f (((rd_T56 ((rd_T53 af al).f2) bX).f1).length : Int)).bind fun jV => ((F61.f ((rd_T56 ((rd_T53 af al).f2) bX).f0)).bind fun jW => ((F60.f k2 (⟨#[77, 83, 84]⟩ : ByteArray) (([jV, jW] : List ByteArray))).bind fun e8 => (if gL.length < 3518437208883 then (F30.l1 k2 (gL ++ [(⟨e8.1, e8.2⟩ : S49)]) af (af.length : Int) al ((rd_T53 af al).f2) (((rd_T53 af al).f2).length : Int) (wrap64 (bX + 1)) ae ax aM af ((rd_T53 af al).f0) ((rd_T53 af al).f1) ((rd_T53 af al).f2)) else (none)))))) else (none))) = some r := by first | (rw [xe]; exact H) | exact H
     have Kg := am_ xe
     clear xe
     replace H := bi_ H; rcases H with ⟨lf, U4, H⟩
     replace H := iln_ H; rcases H with ⟨Kh, H⟩
     obtain ⟨gL, xf⟩ : ∃ y_ : List (S49), y_ = (lW ++ lf) := ⟨_, rfl⟩
     replace H : ((F61.f (((rd_T56 ((rd_T53 af al).f2) bX).f1).length : Int)).bind fun jV => ((F61.f ((rd_T56 ((rd_T53 af al).f2) bX).f0)).bind fun jW => ((F60.f k2 (⟨#[77, 83, 84]⟩ : ByteArray) (([jV, jW] : List ByteArray))).bind fun e8 => (if gL.length < 3518437208883 then (F30.l1 k2 (gL ++ [(⟨e8.1, e8.2⟩ : S49)]) af (af.length : Int) al ((rd_T53 af al).f2) (((rd_T53 af al).f2).length : Int) (wrap64 (bX + 1)) ae ax aM af ((rd_T53 af al).f0) ((rd_T53 af al).f1) ((rd_T53 af al).f2)) else (none))))) = some r := by first | (rw [xf]; exact H) | exact H
     have Ki := am_ xf
     clear xf
     replace H := bi_ H; rcases H with ⟨jV, Yt, H⟩
     replace H := bi_ H; rcases H with ⟨jW, Yu, H⟩
     obtain ⟨xh, xj⟩ : ∃ y_ : List ByteArray, y_ = (([jV, jW] : List ByteArray)) := ⟨_, rfl⟩
     replace H : ((F60.f k2 (⟨#[77, 83, 84]⟩ : ByteArray) xh).bind fun e8 => (if gL.length < 3518437208883 then (F30.l1 k2 (gL ++ [(⟨e8.1, e8.2⟩ : S49)]) af (af.length : Int) al ((rd_T53 af al).f2) (((rd_T53 af al).f2).length : Int) (wrap64 (bX + 1)) ae ax aM af ((rd_T53 af al).f0) ((rd_T53 af al).f1) ((rd_T53 af al).f2)) else (none))) = some r := by first | (rw [xj]; exact H) | exact H
     have DC := am_ xj
     clear xj
     replace H := bi_ H; rcases H with ⟨⟨Aj, Ak⟩, Yv, H⟩
     replace H := iln_ H; rcases H with ⟨Kj, H⟩
     obtain ⟨Kk, xk⟩ : ∃ y_ : List (S49), y_ = (gL ++ [(⟨Aj, Ak⟩ : S49)]) := ⟨_, rfl⟩
     replace H : (F30.l1 k2 Kk af (af.length : Int) al ((rd_T53 af al).f2) (((rd_T53 af al).f2).length : Int) (wrap64 (bX + 1)) ae ax aM af ((rd_T53 af al).f0) ((rd_T53 af al).f1) ((rd_T53 af al).f2)) = some r := by first | (rw [xk]; exact H) | exact H
     have Kl := am_ xk
     clear xk
     have H' := am_ H
     clear H
     have Fa : 0 ≤ (bX : Int) := od_
     have Fb : bX < (((rd_T53 af al).f2).length : Int) := od_
     obtain ⟨Km, o7, o8, QJ, ri, rj, rk, rl⟩ := at_T56 Ad.out bX Fa Fb
     cases QJ
     replace ri := pw_cell_below HB.out ri
     replace rj := pw_cell_below HB.out rj
     have Al := am_ rl
     have Aq := am_ rk
     clear rl rk
     replace Fa := eq_true Fa
     replace Fb := eq_true Fb
     try go_wp2_with (first | ((with_reducible refine gate_dst (N := 7) rfl ?_); refine be_ 7 #[.int .i64 0, .slice none 0 0] 56 ?_; intro nV hg w48 hbox hb; replace bk := am_ (Kd.S_below ax0_ hb); have aU := am_ (hbox); have Ko := am_ (gw_ hg bl_); have U5 := Ko; replace HB := hs_ w hb; have Ih := am_ (gn_ hg (blkl_ ag)); have uO := am_ (gm_ hg (blkl_ ag)); replace ag := bb_ ag hb; have Ii := am_ (gn_ hg (blkl_ ah)); have uP := am_ (gm_ hg (blkl_ ah)); replace ah := bb_ ah hb; clear hb hbox hg; obtain ⟨Kp, Kq⟩ := nn_ uO; obtain ⟨DD, DE⟩ := nn_ uP; have Ar := cellsF2 aU.out) | (go_at_call 61; (with_reducible refine (F61.calls ?s1 U3.out).mono ?_); (case s1 => exact ax7_); rintro e w52 ⟨rfl, hb⟩; (try clear U3); replace bk := am_ (Kd.S_below (by (with_reducible repeat (first | apply Kd.S_alloc | apply Kd.S_drewN | apply Kd.S_drew)); exact (Kd.S_mono (Kd.S_far (p := ⟨nV, 1, none⟩) (Kd.S_far (p := ⟨nV, 0, none⟩) (Kd.S_types bk.out aU.out (by decide)) (fun _ hk => hk.2) (.int .i64 ((rd_T56 ((rd_T53 af al).f2) bX).f0))) (fun _ hk => hk.2) (.slice o7 ((rd_T56 ((rd_T53 af al).f2) bX).f1).length o8)) (fun _ h_ => h_.1))) hb); replace ag := am_ (blk_below (g := fH) (o := .cells #[.string ae, .string ax, .int .i64 aM, .slice (some wS) af.length bN] 30 (0, 0)) (bf_ ag) hb); replace ah := am_ (blk_below (g := eH) (o := .cells #[.int .i64 ((rd_T53 af al).f0), .int .i64 ((rd_T53 af al).f1), .slice (some Km) ((rd_T53 af al).f2).length gM] 53 (0, 0)) (bf_ ah) hb); replace aU := am_ (blk_below (g := nV) (o := .cells #[.int .i64 ((rd_T56 ((rd_T53 af al).f2) bX).f0), .slice o7 ((rd_T56 ((rd_T53 af al).f2) bX).f1).length o8] 56 (0, 0)) (bq_ aU) hb); replace HB := hs_ w hb; clear hb) | ((with_reducible refine gate_dst (N := 47) rfl ?_); refine Kd.R_lit Kd.string _ 9 ?hg (N := 47) ?hd (xs := ([oZ] : List ByteArray)) (inner := [.string oZ]) (ok := fun _ => True) (okp := fun _ => True) ?hr ?hp (fun _ hk => hk) trivial (Below.refl _ _) (Nat.le_refl _) (by simp) ?_; (case hd => rfl); (case hg => rfl); (case hr => exact hr_); (case hp => exact (Reps.one (show Kd.M Kd.string _ _ _ oZ [.string oZ] from rfl) (Reps.none _ _))); intro Yw w53 uQ hb hg_ hnew_; clear hg_ hnew_; (first | rw [← DB.out] at uQ | (simp only [Int.reduceToNat] at uQ; rw [← DB.out] at uQ)); replace bk := am_ (Kd.S_elder' ax0_ (Kd.R_base uQ) hb); have bD := am_ (Kd.R_lower uQ (below_size bl_)); replace ag := bb_ ag hb; replace ah := bb_ ah hb; replace aU := bb_ aU hb; replace HB := hs_ w hb; clear hb uQ; obtain ⟨mN, mO, QK⟩ := Kd.R_slice bD.out; subst QK) | (go_at_call 60; (with_reducible refine (F60.calls ?s1 ?s2 On.out).mono ?_); (case s1 => repeat (first | exact (Kd.R_reads' bD.out).2.2 | (with_reducible refine Kd.C_alloc ?_ _) | (with_reducible refine Kd.C_drewN ?_ _) | (with_reducible refine Kd.C_drew ?_))); (case s2 => exact (Kd.R_reads' bD.out).2.1); rintro e w56 ⟨Yx, rfl, bf, hb⟩; (try clear On); obtain ⟨jO, fP, fQ⟩ := nb9_ bf; replace bk := am_ (Kd.S_elder' (Kd.S_mono (Kd.S_bound ax0_) (fun k_ hk_ => (⟨fP _ hk_.2.2.1, hk_.1⟩ : k_ < jO ∧ _))) (Kd.S_base bf) hb); have xl := am_ (Kd.S_lower (Kd.S_new' fQ (Kd.R_lt (rk_ bD))) (below_size bl_)); replace bD := am_ (Kd.R_below (rk_ bD) hb); replace ag := bb_ ag hb; replace ah := bb_ ah hb; replace aU := bb_ aU hb; replace HB := hs_ w hb; clear hb bf; obtain ⟨Kr, Ks, Fc⟩ := Kd.S_slice xl.out; subst Fc) | ((with_reducible refine gate_builtin (b := .append) (xs := #[.tmp 43, .tmp 49]) rfl ?_); at_builtin; refine Kd.S_append k49 (w0 := w) w.heap.size rfl (.tmp 43) (.tmp 49) 26 49 (.agg #[(.string ⟨#[]⟩), (.slice none 0 0)]) 40 rfl Tryz.underlying26 info49 rfl (by decide) (by omega) u3 ai (⟨Ah, Ai⟩ : S49) [.string Ah, .slice Kr Ai.length Ks] (fun k_ => some k_ ≠ (.slice mN lX.length mO : Value).ownBlock) (fun k_ => jO ≤ k_ ∧ (fun k_ => some k_ ≠ (.slice mN lX.length mO : Value).ownBlock) k_) rfl rfl ?aP (fun k_ hk_ => ⟨hk_.2, fun e_ => Nat.not_le.2 ax14_ hk_.1⟩) ?aF ?aO ?aB ?aS ?aL ?_; (case aP => exact k49_mkM _ _ _ (⟨Ah, Ai⟩ : S49) (Kd.S_mono (Kd.S_apart' (xl.out) (Kd.S_typed bk.out) (by decide)) (fun k_ hk => ⟨ax9_, (show ((fun k_ => some k_ ≠ (.slice mN lX.length mO : Value).ownBlock)) k_ ∧ some k_ ≠ (u3 : Value).ownBlock from ⟨hk.1.2, hk.2⟩).1⟩))); (case aB => exact bl_); (case aF => exact (fun k_ hk => Kd.fresh' (Kd.R_lt (rk_ bD)) k_ hk)); (case aO => exact au1_2); (case aS => exact (below_size bl_)); (case aL => have := Kf.out; omega); intro QL Yy ho hb hg hat; rw [← Kg.out] at ho; replace ag := am_ (bg_ ag hg (Kd.S_ne bk.out ag.out (by decide))); replace ah := am_ (bg_ ah hg (Kd.S_ne bk.out ah.out (by decide))); replace aU := am_ (bg_ aU hg (Kd.S_ne bk.out aU.out (by decide))); replace bD := am_ (Kd.R_over' (rk_ bD) (Kd.S_typed ax0_) (by decide) hg); replace HB := am_ (hb); have gW := am_ (ho); clear bk xl; clear ho hb hg hat; have rm := cellsF2 aU.out) | (go_at_call 62; (with_reducible refine (F62.calls ?s1 ?s2 U4.out).mono ?_); (case s1 => repeat (first | exact (Kd.C_below Al.out HB.out) | (with_reducible refine Kd.C_alloc ?_ _) | (with_reducible refine Kd.C_drewN ?_ _) | (with_reducible refine Kd.C_drew ?_))); (case s2 => exact Aq.out); rintro e Yz ⟨YA, rfl, bf, hb⟩; (try clear U4); have b8 := am_ (Kd.R_below (rk_ bD) hb); obtain ⟨jO, fP, fQ⟩ := nb9_ bf; have dE := am_ (Kd.S_elder' (Kd.S_mono (Kd.S_bound au1_10) (fun k_ hk_ => (⟨fP _ hk_.2.2.1, hk_.1⟩ : k_ < jO ∧ _))) (Kd.S_base bf) hb); have n2_ := am_ (Kd.S_lower (Kd.S_new' (Kd.S_new' fQ (Kd.R_lt (rk_ bD))) (Kd.S_lt au1_10)) (below_size bl_)); have d5 := bb_ ag hb; have lh := bb_ ah hb; have ll := bb_ aU hb; have mP := am_ (below_step bl_ hb); clear bD; clear gW; clear ag; clear ah; clear aU; clear HB; have bD := b8; have gW := dE; have xn := n2_; have ag := d5; have ah := lh; have aU := ll; have HB := mP; clear b8 dE n2_ d5 lh ll mP; clear hb bf; obtain ⟨YB, YC, QM⟩ := Kd.S_slice xn.out; subst QM) | ((with_reducible refine gate_builtin (b := .append) (xs := #[.tmp 51, .tmp 54]) rfl ?_); at_builtin; refine Kd.S_append_rows k49 (w0 := w) w.heap.size rfl (.tmp 51) (.tmp 54) 26 49 (.agg #[(.string ⟨#[]⟩), (.slice none 0 0)]) 40 rfl Tryz.underlying26 info49 rfl (by decide) (by omega) QL lW lf _ _ _ (fun k_ => some k_ ≠ (.slice mN lX.length mO : Value).ownBlock) (fun k_ => jO ≤ k_ ∧ ((fun k_ => some k_ ≠ (.slice mN lX.length mO : Value).ownBlock)) k_) rfl rfl ?aO ?aR (fun k_ hk_ => ⟨hk_.2, fun e_ => Nat.not_le.2 (by have g_ := (Kd.S_R gW.out).1 k_ e_.symm; first | exact g_.1.1 | exact g_.1 | exact g_.1.1.1) hk_.1⟩) ?aF ?aB ?aS ?aL ?_; (case aR => exact Kd.S_mono (xn.out) (fun k_ hk => ⟨ax9_, (show ((fun k_ => some k_ ≠ (.slice mN lX.length mO : Value).ownBlock)) k_ from hk.1.2)⟩)); (case aB => exact bl_); (case aF => exact (fun k_ hk => Kd.fresh' (Kd.R_lt (rk_ bD)) k_ hk)); (case aO => exact (by (with_reducible repeat (first | apply Kd.S_alloc | apply Kd.S_drewN | apply Kd.S_drew)); exact Kd.S_mono gW.out (fun k_ hk => ⟨hk.1.2, fun vO => Nat.not_le.2 ax9_ vO.1⟩))); (case aS => exact (below_size bl_)); (case aL => have := Kh.out; omega); intro Kt U6 ho hb hg hat; rw [← Ki.out] at ho; replace ag := am_ (bg_ ag hg (Kd.S_ne gW.out ag.out (by decide))); replace ah := am_ (bg_ ah hg (Kd.S_ne gW.out ah.out (by decide))); replace aU := am_ (bg_ aU hg (Kd.S_ne gW.out aU.out (by decide))); replace bD := am_ (Kd.R_over' (rk_ bD) (Kd.S_typed au1_10) (by decide) hg); replace HB := am_ (hb); have eg := am_ (ho); clear gW xn; clear ho hb hg hat))
     replace bD := am_ (Kd.R_drew bD.out)
     replace eg := am_ (Kd.S_drew eg.out)
     replace ag := bd_ ag
     replace ah := bd_ ah
     replace aU := bd_ aU
     replace HB := am_ (below_drew1 HB.out)
     refine start_ (n := 13) (S := fun w' => w'.cell? ⟨nV, 0, none⟩ = some (.int .i64 ((rd_T56 ((rd_T53 af al).f2) bX).f0)) ∧ w'.cell? ⟨nV, 1, none⟩ = some (.slice o7 ((rd_T56 ((rd_T53 af al).f2) bX).f1).length o8)) (ds := []) (bs 13 0) (by kernel_rfl) rfl rfl ⟨(blk_cell aU.out 0).trans rfl, (blk_cell aU.out 1).trans rfl⟩ (fun hHeld => ?_); refine with_tabW F30.tab11 F30.bits11 (fun HT_ HW_ => ?_)
     generalize U6.drew = w63 at bD eg ag ah aU HB hHeld ⊢
     refine pq_ 0 HT_ ?_
     refine pq_ 1 HT_ ?_
     refine pq_ 5 HT_ ?_
     refine tq_ 2 HT_ HW_ hHeld rfl ax55_ ?_
     refine pq_ 3 HT_ ?_
     refine tq_ 6 HT_ HW_ hHeld rfl ax55_ ?_
     refine oq_ 4 HT_ (fun K hK => ?_)
     refine gr_ Tryz.func61 #[.int .i64 (((rd_T56 ((rd_T53 af al).f2) bX).f1).length : Int)] (by rfl) ?_ rfl rfl rfl
     with_reducible refine (F61.calls ?s1 Yt.out).mono ?_
     (case s1 => exact ax7_)
     rintro e w64 ⟨rfl, hb⟩
     refine ⟨_, rfl, ?_⟩
     replace bD := am_ (Kd.R_below (rk_ bD) hb)
     replace eg := am_ (Kd.S_below au1_6 hb)
     replace ag := bb_ ag hb
     replace ah := bb_ ah hb
     replace aU := bb_ aU hb
     replace HB := hs_ w hb
     (try clear hb)
     refine hK.out _ _ ⟨(blk_cell aU.out 0).trans rfl, (blk_cell aU.out 1).trans rfl⟩ (fun hHeld => ?_)
     clear hK K
     refine no_ 60 ?_
     refine oq_ 7 HT_ (fun K hK => ?_)
     refine gr_ Tryz.func61 #[.int .i64 ((rd_T56 ((rd_T53 af al).f2) bX).f0)] (by rfl) ?_ rfl rfl rfl
     with_reducible refine (F61.calls ?s1 Yu.out).mono ?_
     (case s1 => exact ax7_)
     rintro e w65 ⟨rfl, hb⟩
     refine ⟨_, rfl, ?_⟩
     replace bD := am_ (Kd.R_below (rk_ bD) hb)
     replace eg := am_ (Kd.S_below au1_6 hb)
     replace ag := bb_ ag hb
     replace ah := bb_ ah hb
     replace aU := bb_ aU hb
     replace HB := hs_ w hb
     (try clear hb)
     refine hK.out _ _ ⟨(blk_cell aU.out 0).trans rfl, (blk_cell aU.out 1).trans rfl⟩ (fun hHeld => ?_)
     clear hK K
     refine no_ 63 ?_
     refine oq_ 8 HT_ (fun K hK => ?_)
     refine Kd.R_lit_step Kd.string _ 9 ?hg (N := 64) ?hd (xs := ([jV, jW] : List ByteArray)) (inner := [.string jV, .string jW]) (ok := fun _ => True) (okp := fun _ => True) ?hr ?hp (fun _ hk => hk) trivial (Below.refl _ _) (Nat.le_refl _) (by simp) ?_; (case hd => rfl); (case hg => rfl); (case hr => exact hr_); (case hp => exact (Reps.one (show Kd.M Kd.string _ _ _ jV [.string jV] from rfl) (Reps.one (show Kd.M Kd.string _ _ _ jW [.string jW] from rfl) (Reps.none _ _))))
     intro YD w66 o9 hb hg_ hnew_
     clear hg_ hnew_
     (first | rw [← DC.out] at o9 | (simp only [Int.reduceToNat] at o9; rw [← DC.out] at o9))
     replace eg := am_ (Kd.S_elder' au1_6 (Kd.R_base o9) hb)
     have gC := am_ (Kd.R_lower (Kd.R_new' o9 (Kd.R_lt (rk_ bD))) (below_size bl_))
     replace bD := am_ (Kd.R_elder' (rk_ bD) (Kd.R_base o9) hb)
     replace ag := bb_ ag hb
     replace ah := bb_ ah hb
     replace aU := bb_ aU hb
     replace HB := hs_ w hb
     clear hb o9
     obtain ⟨mQ, mR, As⟩ := Kd.R_slice gC.out
     (first | subst As | (injection As with b9 dT cd; have dU := b9.symm; have dV := cd.symm; clear b9 dT cd; subst dU; subst dV))
     refine hK.out _ _ ⟨(blk_cell aU.out 0).trans rfl, (blk_cell aU.out 1).trans rfl⟩ (fun hHeld => ?_)
     clear hK K
     refine no_ 64 ?_
     refine oq_ 9 HT_ (fun K hK => ?_)
     refine gr_ Tryz.func60 #[.string (⟨#[77, 83, 84]⟩ : ByteArray), .slice mQ xh.length mR] (by rfl) ?_ rfl rfl rfl
     with_reducible refine (F60.calls ?s1 ?s2 Yv.out).mono ?_
     (case s1 => repeat (first | exact (Kd.R_reads' gC.out).2.2 | (with_reducible refine Kd.C_alloc ?_ _) | (with_reducible refine Kd.C_drewN ?_ _) | (with_reducible refine Kd.C_drew ?_)))
     (case s2 => exact (Kd.R_reads' gC.out).2.1)
     rintro e YE ⟨YF, rfl, bf, hb⟩
     refine ⟨_, rfl, ?_⟩
     have b8 := am_ (Kd.R_below (rk_ bD) hb)
     obtain ⟨jO, fP, fQ⟩ := nb9_ bf; have dE := am_ (Kd.S_elder' (Kd.S_mono (Kd.S_bound au1_6) (fun k_ hk_ => (⟨fP _ hk_.2.2.1, hk_.1⟩ : k_ < jO ∧ _))) (Kd.S_base bf) hb)
     have n2_ := am_ (Kd.R_below (rk_ gC) hb)
     have d5 := am_ (Kd.S_lower (Kd.S_new' (Kd.S_new' fQ (Kd.R_lt (rk_ bD))) (Kd.R_lt (rk_ gC))) (below_size bl_))
     have lh := bb_ ag hb
     have ll := bb_ ah hb
     have mP := bb_ aU hb
     have xo := am_ (below_step bl_ hb)
     clear bD
     clear eg
     clear gC
     clear ag
     clear ah
     clear aU
     clear HB
     have bD := b8
     have eg := dE
     have gC := n2_
     have xq := d5
     have ag := lh
     have ah := ll
     have aU := mP
     have HB := xo
     clear b8 dE n2_ d5 lh ll mP xo
     (try clear hb)
     (try clear bf)
     obtain ⟨QN, QO, Ku⟩ := Kd.S_slice xq.out
     (first | subst Ku | (injection Ku with b9 dT cd; have dU := b9.symm; have dV := cd.symm; clear b9 dT cd; subst dU; subst dV))
     refine hK.out _ _ ⟨(blk_cell aU.out 0).trans rfl, (blk_cell aU.out 1).trans rfl⟩ (fun hHeld => ?_)
     clear hK K
     refine no_ 65 ?_
     refine oq_ 10 HT_ (fun K hK => ?_)
     refine value_ (w1 := ?_) (v := ?_) (by rfl) rfl ?_ ?_
     rotate_left 2
     ·go_simp
      constructor
      ·rfl
      ·rfl
     refine hK.out _ _ ⟨(blk_cell (blk_alloc aU.out _) 0).trans rfl, (blk_cell (blk_alloc aU.out _) 1).trans rfl⟩ (fun hHeld => ?_)
     clear hK K
     refine no_ 66 ?_
     refine oq_ 11 HT_ (fun K hK => ?_)
     refine Kd.S_append_step k49 (w0 := w) w.heap.size (by rfl) (.tmp 56) (.tmp 66) 26 49 (.agg #[(.string ⟨#[]⟩), (.slice none 0 0)]) 40 rfl Tryz.underlying26 info49 rfl (by decide) (by omega) Kt gL (⟨Aj, Ak⟩ : S49) [.string Aj, .slice QN Ak.length QO] (fun k_ => some k_ ≠ (.slice mN lX.length mO : Value).ownBlock ∧ some k_ ≠ (.slice mQ xh.length mR : Value).ownBlock) (fun k_ => jO ≤ k_ ∧ (fun k_ => some k_ ≠ (.slice mN lX.length mO : Value).ownBlock ∧ some k_ ≠ (.slice mQ xh.length mR : Value).ownBlock) k_) rfl rfl ?aP (fun k_ hk_ => ⟨hk_.2, fun e_ => Nat.not_le.2 (by have g_ := (Kd.S_R eg.out).1 k_ e_.symm; first | exact g_.1.1 | exact g_.1 | exact g_.1.1.1) hk_.1⟩) ?aF ?aO ?aB ?aS ?aL ?_
     (case aP => exact k49_mkM _ _ _ (⟨Aj, Ak⟩ : S49) (Kd.S_mono (Kd.S_apart' (xq.out) (Kd.S_typed eg.out) (by decide)) (fun k_ hk => ⟨ax9_, (show ((fun k_ => some k_ ≠ (.slice mN lX.length mO : Value).ownBlock ∧ some k_ ≠ (.slice mQ xh.length mR : Value).ownBlock)) k_ ∧ some k_ ≠ (Kt : Value).ownBlock from ⟨⟨hk.1.1.2, hk.1.2⟩, hk.2⟩).1⟩)))
     (case aB => exact bl_)
     (case aF => exact (fun k_ hk => ⟨Kd.fresh' (Kd.R_lt (rk_ bD)) k_ hk, Kd.fresh' (Kd.R_lt (rk_ gC)) k_ hk⟩))
     (case aO => exact (by (with_reducible repeat (first | apply Kd.S_alloc | apply Kd.S_drewN | apply Kd.S_drew)); exact Kd.S_mono eg.out (fun k_ hk => ⟨⟨hk.1.2.1, hk.1.2.2⟩, fun vO => Nat.not_le.2 ax9_ vO.1⟩)))
     (case aS => exact (below_size bl_))
     (case aL => have := Kj.out; omega)
     intro YG YH ho hb hg hat
     rw [← Kl.out] at ho
     replace ag := am_ (bg_ ag hg (Kd.S_ne eg.out ag.out (by decide)))
     replace ah := am_ (bg_ ah hg (Kd.S_ne eg.out ah.out (by decide)))
     replace aU := am_ (bg_ aU hg (Kd.S_ne eg.out aU.out (by decide)))
     replace bD := am_ (Kd.R_over' (rk_ bD) (Kd.S_typed au1_6) (by decide) hg)
     replace gC := am_ (Kd.R_over' (rk_ gC) (Kd.S_typed au1_6) (by decide) hg)
     replace HB := am_ (hb)
     have Kv := am_ (ho)
     clear eg xq
     clear ho hb hg hat
     refine hK.out _ _ ⟨(blk_cell aU.out 0).trans rfl, (blk_cell aU.out 1).trans rfl⟩ (fun hHeld => ?_)
     clear hK K
     refine no_ 67 ?_
     refine pq_ 12 HT_ ?_
     refine done_ (done_of HT_.out (by kernel_rfl)) ?_
     try go_wp2
     go_roundg k2
     case measure => have := cK.out; have := HK2.out; omega
     case rel => exact ⟨(Kk), (wrap64 (bX + 1)), er_, H', ⟨by have := cK.out; have := HK2.out; omega⟩, ⟨by (with_reducible repeat (first | apply Kd.S_alloc | apply Kd.S_drewN | apply Kd.S_drew)); exact Kd.S_mono Kv.out (fun _ hk => trivial)⟩, ⟨bk_ ag⟩, ⟨bk_ ah⟩, ⟨bl_⟩⟩
end Go.Proofs.YtlghcbmkhdibdaaGreatDoor.PFnEnvelopes
