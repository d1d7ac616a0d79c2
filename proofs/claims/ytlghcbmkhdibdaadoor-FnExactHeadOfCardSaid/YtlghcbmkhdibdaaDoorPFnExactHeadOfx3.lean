-- printed by a program of this session (wip/xp/xprint.py) out of the translation; Lean checks it
import Derived.Test.YtlghcbmkhdibdaaDoorPFnExactHeadOfx0
import Derived.Test.YtlghcbmkhdibdaaDoorPFnExactHeadOfx2
namespace Go.Proofs.YtlghcbmkhdibdaaDoor.PFnExactHeadOf
open Go.RowKit Go.Proofs.YtlghcbmkhdibdaaDoorW.PrintWords Go.Proofs.YtlghcbmkhdibdaaDoorW.PrintLast Go.Proofs.YtlghcbmkhdibdaaDoorW.PrintMore
attribute [local go_sem] max2_int min2_int max_two min_two max_three min_three max_four min_four   -- for this text's walks alone
set_option linter.unusedVariables false
set_option linter.unusedSimpArgs false
set_option maxHeartbeats 8000000
set_option maxRecDepth 100000

theorem au3_0 {p : Prop} (h : p := by first | rfl | (simp [errW_none, errW_some] <;> rfl) | (simp [*, errW_none, errW_some] <;> rfl)) : p := h
theorem au3_1 {p : Prop} (h : p := by first | exact Kd.own_blk (Kd.R_ne HO219.out BK216.out (by decide)) | (rw [add_block]; exact Kd.own_blk (Kd.R_ne HO219.out BK216.out (by decide))) | (show (Addr.add _ _).block ≠ _; rw [add_block]; exact Kd.own_blk (Kd.R_ne HO219.out BK216.out (by decide))) | (dsimp only; exact Kd.own_blk (Kd.R_ne HO219.out BK216.out (by decide)))) : p := h
theorem au3_2 {p : Prop} (h : p := by repeat (first | exact (Kd.C_below HR0_1.out HB.out) | (with_reducible refine Kd.C_alloc ?_ _) | (with_reducible refine Kd.C_drewN ?_ _) | (with_reducible refine Kd.C_drew ?_))) : p := h
theorem au3_3 {p : Prop} (h : p := by repeat (first | exact (Kd.C_below HR0_3.out HB.out) | (with_reducible refine Kd.C_alloc ?_ _) | (with_reducible refine Kd.C_drewN ?_ _) | (with_reducible refine Kd.C_drew ?_))) : p := h
theorem au3_4 {p : Prop} (h : p := by repeat (first | exact (Kd.C_below HR1_3.out HB.out) | (with_reducible refine Kd.C_alloc ?_ _) | (with_reducible refine Kd.C_drewN ?_ _) | (with_reducible refine Kd.C_drew ?_))) : p := h
theorem au3_5 {p : Prop} (h : p := by first | exact Kd.S_nil _ _ _ _ _ | exact Kd.N_nil _ _ _ _ _ | exact Kd.V_nil _ _ _ _ _ | exact Kd.Q_nil _ _ _ _ _ | exact Kd.R_nil _ _ _ _ _) : p := h
theorem au3_6 {p : Prop} (h : p := by repeat (first | exact (Kd.C_below HR1_1.out HB.out) | (with_reducible refine Kd.C_alloc ?_ _) | (with_reducible refine Kd.C_drewN ?_ _) | (with_reducible refine Kd.C_drew ?_))) : p := h
theorem au3_7 {p : Prop} (h : p := by repeat (first | exact (Kd.C_below HR0.out HB.out) | (with_reducible refine Kd.C_alloc ?_ _) | (with_reducible refine Kd.C_drewN ?_ _) | (with_reducible refine Kd.C_drew ?_))) : p := h
theorem au3_8 {p : Prop} (h : p := by rintro w' ⟨s0, s1, s2, s3⟩; go_simp; with_reducible rfl) : p := h
theorem au3_9 {p : Prop} (h : p := by repeat (first | (with_reducible first | exact HK.out | apply Kept.alloc | apply Kept.drewN | apply Kept.drew) | exact HK.out)) : p := h
theorem au3_10 {p : Prop} (h : p := by rintro w' ⟨s0, s1⟩; go_simp; with_reducible rfl) : p := h
theorem au3_11 {p : Prop} (h : p := by rintro w' ⟨s0, s1, s2, s3, s4, s5⟩; go_simp; with_reducible rfl) : p := h
theorem au3_12 {p : Prop} (h : p := by repeat (first | exact (Kd.C_below HR232_1.out HB.out) | (with_reducible refine Kd.C_alloc ?_ _) | (with_reducible refine Kd.C_drewN ?_ _) | (with_reducible refine Kd.C_drew ?_))) : p := h
theorem au3_13 {p : Prop} (h : p := by repeat (first | exact (Kd.C_below HR246_0.out HB.out) | (with_reducible refine Kd.C_alloc ?_ _) | (with_reducible refine Kd.C_drewN ?_ _) | (with_reducible refine Kd.C_drew ?_))) : p := h
theorem au3_14 {p : Prop} (h : p := by repeat (first | exact (Kd.C_below HR247_0.out HB.out) | (with_reducible refine Kd.C_alloc ?_ _) | (with_reducible refine Kd.C_drewN ?_ _) | (with_reducible refine Kd.C_drew ?_))) : p := h
theorem au3_15 {p : Prop} (h : p := by repeat (first | exact (Kd.C_below HR252_1.out HB.out) | (with_reducible refine Kd.C_alloc ?_ _) | (with_reducible refine Kd.C_drewN ?_ _) | (with_reducible refine Kd.C_drew ?_))) : p := h
theorem au3_16 {p : Prop} (h : p := by repeat (first | exact (Kd.C_below HR253_1.out HB.out) | (with_reducible refine Kd.C_alloc ?_ _) | (with_reducible refine Kd.C_drewN ?_ _) | (with_reducible refine Kd.C_drew ?_))) : p := h
theorem au3_17 {p : Prop} (h : p := by repeat (first | exact (Kd.C_below HR258_1.out HB.out) | (with_reducible refine Kd.C_alloc ?_ _) | (with_reducible refine Kd.C_drewN ?_ _) | (with_reducible refine Kd.C_drew ?_))) : p := h
theorem au3_18 {p : Prop} (h : p := by repeat (first | exact (Kd.C_below HR259_1.out HB.out) | (with_reducible refine Kd.C_alloc ?_ _) | (with_reducible refine Kd.C_drewN ?_ _) | (with_reducible refine Kd.C_drew ?_))) : p := h
theorem au3_19 {p : Prop} (h : p := by repeat (first | exact (Kd.C_below HR264_2.out HB.out) | (with_reducible refine Kd.C_alloc ?_ _) | (with_reducible refine Kd.C_drewN ?_ _) | (with_reducible refine Kd.C_drew ?_))) : p := h
theorem au3_20 {p : Prop} (h : p := by repeat (first | exact (Kd.C_below HR265_2.out HB.out) | (with_reducible refine Kd.C_alloc ?_ _) | (with_reducible refine Kd.C_drewN ?_ _) | (with_reducible refine Kd.C_drew ?_))) : p := h
theorem au3_21 {p : Prop} (h : p := by repeat (first | exact (Kd.C_below HR0_0.out HB.out) | (with_reducible refine Kd.C_alloc ?_ _) | (with_reducible refine Kd.C_drewN ?_ _) | (with_reducible refine Kd.C_drew ?_))) : p := h
theorem au3_22 {p : Prop} (h : p := by repeat (first | exact (Kd.C_below HR1_0.out HB.out) | (with_reducible refine Kd.C_alloc ?_ _) | (with_reducible refine Kd.C_drewN ?_ _) | (with_reducible refine Kd.C_drew ?_))) : p := h
theorem au3_23 {p : Prop} (h : p := by repeat (first | exact (Kd.C_below HR0_2.out HB.out) | (with_reducible refine Kd.C_alloc ?_ _) | (with_reducible refine Kd.C_drewN ?_ _) | (with_reducible refine Kd.C_drew ?_))) : p := h
theorem au3_24 {p : Prop} (h : p := by repeat (first | exact (Kd.C_below HR1_2.out HB.out) | (with_reducible refine Kd.C_alloc ?_ _) | (with_reducible refine Kd.C_drewN ?_ _) | (with_reducible refine Kd.C_drew ?_))) : p := h
theorem au3_25 {p : Prop} (h : p := by repeat (first | (with_reducible first | exact HK.out | apply Kept.alloc | apply Kept.drewN | apply Kept.drew) | exact HK.out)) : p := h
theorem au3_26 {p : Prop} (h : p := by first | (with_reducible exact HZT.out) | exact HZT.out.below bl_) : p := h
theorem au3_27 {p : Prop} (h : p := by (with_reducible repeat (first | apply Kd.S_alloc | apply Kd.S_drewN | apply Kd.S_drew)); exact HO238.out) : p := h

/-! ### F61: function 61 -/
def F61.l0 : Nat → ByteArray → Int → Int → Option (Bool)
  | 0, _, _, _ => none
  | k + 1, x0, x5, x6 => if x6 < x5 then (if 0 ≤ x6 then (if x6 < (x0.size : Int) then ((F93.f (bt x0 x6)).bind fun t212 => (if t212 = true then (F61.l0 k x0 x5 (wrap64 (x6 + 1))) else (if x6 = 0 then (some false) else ((F94.f (bt x0 x6)).bind fun t213 => (if t213 = true then (F61.l0 k x0 x5 (wrap64 (x6 + 1))) else (if (bt x0 x6) = 45 then (F61.l0 k x0 x5 (wrap64 (x6 + 1))) else (some false))))))) else (none)) else (none)) else ((F83.f (x0.size : Int) 1 12).bind fun t211 => (some t211))
def F61.f (k : Nat) (a0 : ByteArray) : Option (Bool) := F61.l0 k a0 (a0.size : Int) 0
theorem F61.mono_l : ∀ k, (∀ y0 y1 y2, LeO (F61.l0 k y0 y1 y2) (F61.l0 (k + 1) y0 y1 y2))
 | 0 => fun _ _ _ r h => by simp [F61.l0] at h
 | k + 1 => by
  have ih0 := F61.mono_l k
  intro y0 y1 y2
  unfold F61.l0
  repeat' with_reducible first | exact ih0 _ _ _ | exact LeO.refl _ | exact LeO.none _ | refine LeO.ite ?_ ?_ | refine LeO.bind ?_ (fun _ => ?_)
theorem F61.mono : ∀ a0 k, LeO (F61.f k a0) (F61.f (k + 1) a0) := by
 intro a0 k
 have ih0 := F61.mono_l k
 unfold F61.f
 repeat' with_reducible first | exact ih0 _ _ _ | exact LeO.refl _ | exact LeO.none _ | refine LeO.ite ?_ ?_ | refine LeO.bind ?_ (fun _ => ?_)
theorem F61.calls (k : Nat) (a0 : ByteArray) (r : Bool) (w : World) (h : F61.f k a0 = some r) :
  Calls Tryd.prog 61 #[.string a0] w fun e w' => e = .returned (.bool r) ∧ Drawn0 w w' := by
 have H : (F61.l0 k a0 (a0.size : Int) 0) = some r := h
 clear h
 have H' := am_ H
 clear H
 go_enter Tryd.func61, Tryd.ntmps61
 go_wp2
 go_loopg [6] k (fun kq v6 w' => ∃ (x6_1 : Int), v6 = .int .i64 x6_1 ∧ Aside0 (F61.l0 kq a0 (a0.size : Int) x6_1 = some r) ∧ Aside0 (kq ≤ k) ∧ Drawn0 w w')
 case atStart => exact ⟨(0), er_, H', ⟨Nat.le_refl _⟩, dn_⟩
 case round =>
  clear H'
  obtain ⟨x6_1, rfl, HA, HK1, ⟨m1, rfl⟩⟩ := hrel
  cases gk with
  | zero => exact absurd HA.out (by simp [F61.l0])
  | succ k1 =>
   have H := HA.out
   clear HA
   simp only [F61.l0] at H
   replace H := it_ H; rcases H with ⟨c2b0, H⟩ | ⟨c2b0, H⟩
   rotate_left
   ·replace H := bi_ H; rcases H with ⟨t211, A14, H⟩
    obtain rfl := Option.some.inj H
    go_wp2_with (first | ((with_reducible refine gate_callee (f := 83) rfl ?_); refine gl_ 34 Tryd.func83 #[.int .i64 (a0.size : Int), .int .i64 1, .int .i64 12] ?_ rfl rfl rfl rfl; (with_reducible refine (F83.calls (a0.size : Int) 1 12 t211 _ A14.out).mono ?_); rintro e w' ⟨rfl, ⟨nd, rfl⟩⟩; refine ⟨_, rfl, ?_⟩))
    go_ret
    exact ⟨er_, dn_⟩

   replace H := itn_ H; rcases H with ⟨c3b0, H⟩
   replace H := itn_ H; rcases H with ⟨c4b0, H⟩
   replace H := bi_ H; rcases H with ⟨t212, A6, H⟩
   replace H := ib_ H; rcases H with ⟨rfl, H⟩ | ⟨rfl, H⟩
   ·have H' := am_ H
    clear H
    have p5 : 0 ≤ (x6_1 : Int) := od_
    have q5 : x6_1 < (a0.size : Int) := od_
    have hx5 := bt_at a0 x6_1
    replace p5 := eq_true p5
    replace q5 := eq_true q5
    go_wp2_with (first | ((with_reducible refine gate_callee (f := 93) rfl ?_); refine gl_ 12 Tryd.func93 #[.int .u8 (bt a0 x6_1)] ?_ rfl rfl rfl rfl; (with_reducible refine (F93.calls (bt a0 x6_1) true _ A6.out).mono ?_); rintro e w' ⟨rfl, ⟨nd, rfl⟩⟩; refine ⟨_, rfl, ?_⟩))
    go_roundg k1
    case measure => have := HK1.out; omega
    case rel => exact ⟨(wrap64 (x6_1 + 1)), er_, H', ⟨by have := HK1.out; omega⟩, dn_⟩
   by_cases c8 : x6_1 = 0
   ·rw [if_pos c8] at H
    have c8b0 : (x6_1 == 0) = true := beq_iff_eq.mpr c8
    have c8b1 : (x6_1 != 0) = false := bne_eq_false_iff_eq.mpr c8
    clear c8
    obtain rfl := Option.some.inj H
    have p5 : 0 ≤ (x6_1 : Int) := od_
    have q5 : x6_1 < (a0.size : Int) := od_
    have hx5 := bt_at a0 x6_1
    replace p5 := eq_true p5
    replace q5 := eq_true q5
    go_wp2_with (first | ((with_reducible refine gate_callee (f := 93) rfl ?_); refine gl_ 12 Tryd.func93 #[.int .u8 (bt a0 x6_1)] ?_ rfl rfl rfl rfl; (with_reducible refine (F93.calls (bt a0 x6_1) false _ A6.out).mono ?_); rintro e w' ⟨rfl, ⟨nd, rfl⟩⟩; refine ⟨_, rfl, ?_⟩))
    go_ret
    exact ⟨er_, dn_⟩
   rw [if_neg c8] at H
   have c8b0 : (x6_1 == 0) = false := beq_eq_false_iff_ne.mpr c8
   have c8b1 : (x6_1 != 0) = true := bne_iff_ne.mpr c8
   replace H := bi_ H; rcases H with ⟨t213, A10, H⟩
   replace H := ib_ H; rcases H with ⟨rfl, H⟩ | ⟨rfl, H⟩
   ·have H' := am_ H
    clear H
    have p5 : 0 ≤ (x6_1 : Int) := od_
    have q5 : x6_1 < (a0.size : Int) := od_
    have hx5 := bt_at a0 x6_1
    replace p5 := eq_true p5
    replace q5 := eq_true q5
    go_wp2_with (first | ((with_reducible refine gate_callee (f := 93) rfl ?_); refine gl_ 12 Tryd.func93 #[.int .u8 (bt a0 x6_1)] ?_ rfl rfl rfl rfl; (with_reducible refine (F93.calls (bt a0 x6_1) false _ A6.out).mono ?_); rintro e w' ⟨rfl, ⟨nd, rfl⟩⟩; refine ⟨_, rfl, ?_⟩; have p9 : 0 ≤ (x6_1 : Int) := od_; have q9 : x6_1 < (a0.size : Int) := od_; have hx9 := bt_at a0 x6_1; replace p9 := eq_true p9; replace q9 := eq_true q9) | (go_at_call 94; (with_reducible refine (F94.calls (bt a0 x6_1) true _ A10.out).mono ?_); rintro e w' ⟨rfl, ⟨nd, rfl⟩⟩))
    go_roundg k1
    case measure => have := HK1.out; omega
    case rel => exact ⟨(wrap64 (x6_1 + 1)), er_, H', ⟨by have := HK1.out; omega⟩, dn_⟩
   by_cases c13 : (bt a0 x6_1) = 45
   rotate_left
   ·rw [if_neg c13] at H
    have c13b0 : ((bt a0 x6_1) == 45) = false := beq_eq_false_iff_ne.mpr c13
    have c13b1 : ((bt a0 x6_1) != 45) = true := bne_iff_ne.mpr c13
    obtain rfl := Option.some.inj H
    have p5 : 0 ≤ (x6_1 : Int) := od_
    have q5 : x6_1 < (a0.size : Int) := od_
    have hx5 := bt_at a0 x6_1
    replace p5 := eq_true p5
    replace q5 := eq_true q5
    go_wp2_with (first | ((with_reducible refine gate_callee (f := 93) rfl ?_); refine gl_ 12 Tryd.func93 #[.int .u8 (bt a0 x6_1)] ?_ rfl rfl rfl rfl; (with_reducible refine (F93.calls (bt a0 x6_1) false _ A6.out).mono ?_); rintro e w' ⟨rfl, ⟨nd, rfl⟩⟩; refine ⟨_, rfl, ?_⟩; have p9 : 0 ≤ (x6_1 : Int) := od_; have q9 : x6_1 < (a0.size : Int) := od_; have hx9 := bt_at a0 x6_1; replace p9 := eq_true p9; replace q9 := eq_true q9) | (go_at_call 94; (with_reducible refine (F94.calls (bt a0 x6_1) false _ A10.out).mono ?_); rintro e w' ⟨rfl, ⟨nd, rfl⟩⟩; have p12 : 0 ≤ (x6_1 : Int) := od_; have q12 : x6_1 < (a0.size : Int) := od_; have hx12 := bt_at a0 x6_1; replace p12 := eq_true p12; replace q12 := eq_true q12))
    go_ret
    exact ⟨er_, dn_⟩
   rw [if_pos c13] at H
   have c13b0 : ((bt a0 x6_1) == 45) = true := beq_iff_eq.mpr c13
   have c13b1 : ((bt a0 x6_1) != 45) = false := bne_eq_false_iff_eq.mpr c13
   clear c13
   have H' := am_ H
   clear H
   have p5 : 0 ≤ (x6_1 : Int) := od_
   have q5 : x6_1 < (a0.size : Int) := od_
   have hx5 := bt_at a0 x6_1
   replace p5 := eq_true p5
   replace q5 := eq_true q5
   go_wp2_with (first | ((with_reducible refine gate_callee (f := 93) rfl ?_); refine gl_ 12 Tryd.func93 #[.int .u8 (bt a0 x6_1)] ?_ rfl rfl rfl rfl; (with_reducible refine (F93.calls (bt a0 x6_1) false _ A6.out).mono ?_); rintro e w' ⟨rfl, ⟨nd, rfl⟩⟩; refine ⟨_, rfl, ?_⟩; have p9 : 0 ≤ (x6_1 : Int) := od_; have q9 : x6_1 < (a0.size : Int) := od_; have hx9 := bt_at a0 x6_1; replace p9 := eq_true p9; replace q9 := eq_true q9) | (go_at_call 94; (with_reducible refine (F94.calls (bt a0 x6_1) false _ A10.out).mono ?_); rintro e w' ⟨rfl, ⟨nd, rfl⟩⟩; have p12 : 0 ≤ (x6_1 : Int) := od_; have q12 : x6_1 < (a0.size : Int) := od_; have hx12 := bt_at a0 x6_1; replace p12 := eq_true p12; replace q12 := eq_true q12))
   go_roundg k1
   case measure => have := HK1.out; omega
   case rel => exact ⟨(wrap64 (x6_1 + 1)), er_, H', ⟨by have := HK1.out; omega⟩, dn_⟩
/-! ### F96: function 96 -/
mutual
def F96.j0 : Nat → ByteArray → ByteArray → Bool → Option (Bool)
  | 0, _, _, _ => none
  | k + 1, x0, x3, x12 => if x12 = true then (if 1 ≤ (x0.size : Int) then (F96.j1 k x0 (x0.extract 1 x0.size)) else (none)) else (F96.j1 k x0 x3)
def F96.j1 : Nat → ByteArray → ByteArray → Option (Bool)
  | 0, _, _ => none
  | k + 1, x0, x3 => F96.l0 k x0 x3 (x3.size : Int) 0
def F96.l0 : Nat → ByteArray → ByteArray → Int → Int → Option (Bool)
  | 0, _, _, _, _ => none
  | k + 1, x0, x3, x16, x17 => if x17 < x16 then (if 0 ≤ x17 then (if x17 < (x3.size : Int) then ((F94.f (bt x3 x17)).bind fun t214 => (if t214 = true then (F96.l0 k x0 x3 x16 (wrap64 (x17 + 1))) else (some false))) else (none)) else (none)) else (if x3.toList = ([] : List UInt8) then (some false) else (if 0 < (x3.size : Int) then (if (bt x3 0) = 48 then (some (x0.toList == ([48] : List UInt8))) else (some true)) else (none)))
end
def F96.f (k : Nat) (a0 : ByteArray) : Option (Bool) := if a0.toList = ([] : List UInt8) then (F96.j0 k a0 a0 false) else (if 0 < (a0.size : Int) then (F96.j0 k a0 a0 ((bt a0 0) == 45)) else (none))
theorem F96.mono_l : ∀ k, (∀ y0 y1 y2, LeO (F96.j0 k y0 y1 y2) (F96.j0 (k + 1) y0 y1 y2)) ∧ (∀ y0 y1, LeO (F96.j1 k y0 y1) (F96.j1 (k + 1) y0 y1)) ∧ (∀ y0 y1 y2 y3, LeO (F96.l0 k y0 y1 y2 y3) (F96.l0 (k + 1) y0 y1 y2 y3))
 | 0 => ⟨fun _ _ _ r h => by simp [F96.j0] at h, fun _ _ r h => by simp [F96.j1] at h, fun _ _ _ _ r h => by simp [F96.l0] at h⟩
 | k + 1 => by
  obtain ⟨ih0, ih1, ih2⟩ := F96.mono_l k
  refine ⟨?_, ?_, ?_⟩
  rotate_left
  ·intro y0 y1
   unfold F96.j1
   repeat' with_reducible first | exact ih0 _ _ _ | exact ih1 _ _ | exact ih2 _ _ _ _ | exact LeO.refl _ | exact LeO.none _ | refine LeO.ite ?_ ?_ | refine LeO.bind ?_ (fun _ => ?_)
  ·intro y0 y1 y2 y3
   unfold F96.l0
   repeat' with_reducible first | exact ih0 _ _ _ | exact ih1 _ _ | exact ih2 _ _ _ _ | exact LeO.refl _ | exact LeO.none _ | refine LeO.ite ?_ ?_ | refine LeO.bind ?_ (fun _ => ?_)
  intro y0 y1 y2
  unfold F96.j0
  repeat' with_reducible first | exact ih0 _ _ _ | exact ih1 _ _ | exact ih2 _ _ _ _ | exact LeO.refl _ | exact LeO.none _ | refine LeO.ite ?_ ?_ | refine LeO.bind ?_ (fun _ => ?_)
theorem F96.mono : ∀ a0 k, LeO (F96.f k a0) (F96.f (k + 1) a0) := by
 intro a0 k
 obtain ⟨ih0, ih1, ih2⟩ := F96.mono_l k
 unfold F96.f
 repeat' with_reducible first | exact ih0 _ _ _ | exact ih1 _ _ | exact ih2 _ _ _ _ | exact LeO.refl _ | exact LeO.none _ | refine LeO.ite ?_ ?_ | refine LeO.bind ?_ (fun _ => ?_)
theorem F96.calls (k : Nat) (a0 : ByteArray) (r : Bool) (w : World) (h : F96.f k a0 = some r) :
  Calls Tryd.prog 96 #[.string a0] w fun e w' => e = .returned (.bool r) ∧ Drawn0 w w' := by
 have H : (if a0.toList = ([] : List UInt8) then (F96.j0 k a0 a0 false) else (if 0 < (a0.size : Int) then (F96.j0 k a0 a0 ((bt a0 0) == 45)) else (none))) = some r := h
 clear h
 have HC2 := am_ H
 clear H
 go_enter Tryd.func96, Tryd.ntmps96
 go_upto_region 2 with (fail)
 go_cut [12] (fun v12 wc => ∃ (kq : Nat) (x12_1 : Bool), v12 = .bool x12_1 ∧ Aside0 (F96.j0 kq a0 a0 x12_1 = some r) ∧ Aside0 (kq ≤ k) ∧ Drawn0 w wc)
 case first =>
  have H := HC2.out
  clear HC2
  by_cases c3 : a0.toList = ([] : List UInt8)
  ·rw [if_pos c3] at H
   have c3b0 : (a0.toList == ([] : List UInt8)) = true := beq_iff_eq.mpr c3
   have c3b1 : (a0.toList != ([] : List UInt8)) = false := bne_eq_false_iff_eq.mpr c3
   clear c3
   (first | rw [c3b0] | (simp only [i64_w, i32_w]; rw [c3b0]) | skip)
   have H' := am_ H
   clear H
   go_wp2
   go_meet
   case rel => exact ⟨_, (false), er_, H', ⟨by first | omega | exact Nat.le_refl _⟩, dn_⟩
  rw [if_neg c3] at H
  have c3b0 : (a0.toList == ([] : List UInt8)) = false := beq_eq_false_iff_ne.mpr c3
  have c3b1 : (a0.toList != ([] : List UInt8)) = true := bne_iff_ne.mpr c3
  (first | rw [c3b0] | (simp only [i64_w, i32_w]; rw [c3b0]) | skip)
  replace H := itn_ H; rcases H with ⟨c4b0, H⟩
  have c4b1 : decide (0 < a0.size) = true := n2_ c4b0
  have H' := am_ H
  clear H
  have p5 : 0 ≤ (0 : Int) := (by omega)
  have q5 : 0 < a0.size := (by have : (0 : Int) < (a0.size : Int) := od_; omega)
  have hx5 : ∀ h : 0 < a0.size, ((a0[0]'h).toNat : Int) = bt a0 0 := bt_at a0 0
  clear p5
  have qi5 : (0 < (a0.size : Int)) = True := eq_true (of_decide_eq_true as_)
  replace q5 := eq_true q5
  go_wp2
  go_meet
  case rel => exact ⟨_, (((bt a0 0) == 45)), er_, H', ⟨by first | omega | exact Nat.le_refl _⟩, dn_⟩
 case rest =>
  clear HC2
  try clear c3
  try clear c3b0
  try clear c3b1
  try clear c4b0
  try clear c4b1
  try clear p5
  try clear q5
  try clear hx5
  try clear qi5
  try clear p5
  try clear q5
  obtain ⟨kq, x12_1, rfl, HA, HJ1, ⟨mc1, rfl⟩⟩ := hcut
  cases kq with
  | zero => exact absurd HA.out (by simp [F96.j0])
  | succ kj1 =>
   have H := HA.out
   clear HA
   simp only [F96.j0] at H
   have HC6 := am_ H
   clear H
   go_upto_if 12 with (fail)
   go_cut [3] (fun v3 wc => ∃ (kq : Nat) (x3_5 : ByteArray), v3 = .string x3_5 ∧ Aside0 (F96.j1 kq a0 x3_5 = some r) ∧ Aside0 (kq ≤ kj1) ∧ Drawn0 w wc)
   case first =>
    have H := HC6.out
    clear HC6
    replace H := ib_ H; rcases H with ⟨rfl, H⟩ | ⟨rfl, H⟩
    rotate_left
    ·have H' := am_ H
     clear H
     go_wp2
     go_meet
     case rel => exact ⟨_, (a0), er_, H', ⟨by have := HJ1.out; first | omega | exact Nat.le_refl _⟩, dn_⟩
    by_cases c8 : 1 ≤ (a0.size : Int)
    rotate_left
    ·rw [if_neg c8] at H
     exact absurd H (by simp)
    rw [if_pos c8] at H
    have c8b0 := eq_true c8
    have c8b1 : decide (1 ≤ (a0.size : Int)) = true := decide_eq_true c8
    clear c8
    have H' := am_ H
    clear H
    go_wp2
    go_meet
    case rel => exact ⟨_, (a0.extract 1 a0.size), er_, H', ⟨by have := HJ1.out; first | omega | exact Nat.le_refl _⟩, dn_⟩
   case rest =>
    clear HC6
    try clear c3
    try clear c3b0
    try clear c3b1
    try clear c4b0
    try clear c4b1
    try clear p5
    try clear q5
    try clear hx5
    try clear qi5
    try clear c8
    try clear c8b0
    try clear c8b1
    try clear p5
    try clear q5
    obtain ⟨kq, x3_5, rfl, HA, HJ5, ⟨mc5, rfl⟩⟩ := hcut
    cases kq with
    | zero => exact absurd HA.out (by simp [F96.j1])
    | succ kj5 =>
     have H := HA.out
     clear HA
     simp only [F96.j1] at H
     have H' := am_ H
     clear H
     go_wp2
     go_loopg [17] kj5 (fun kq v17 w' => ∃ (x17_3 : Int), v17 = .int .i64 x17_3 ∧ Aside0 (F96.l0 kq a0 x3_5 (x3_5.size : Int) x17_3 = some r) ∧ Aside0 (kq ≤ kj5) ∧ Drawn0 w w')
     case atStart => exact ⟨(0), er_, H', ⟨Nat.le_refl _⟩, dn_⟩
     case round =>
      clear H'
      try clear c3
      try clear c3b0
      try clear c3b1
      try clear c4b0
      try clear c4b1
      try clear p5
      try clear q5
      try clear hx5
      try clear qi5
      try clear c8
      try clear c8b0
      try clear c8b1
      try clear p5
      try clear q5
      obtain ⟨x17_3, rfl, HA, HK3, ⟨m3, rfl⟩⟩ := hrel
      cases gk with
      | zero => exact absurd HA.out (by simp [F96.l0])
      | succ k3 =>
       have H := HA.out
       clear HA
       simp only [F96.l0] at H
       replace H := it_ H; rcases H with ⟨c9b0, H⟩ | ⟨c9b0, H⟩
       ·replace H := itn_ H; rcases H with ⟨c10b0, H⟩
        replace H := itn_ H; rcases H with ⟨c11b0, H⟩
        replace H := bi_ H; rcases H with ⟨t214, A13, H⟩
        replace H := ib_ H; rcases H with ⟨rfl, H⟩ | ⟨rfl, H⟩
        rotate_left
        ·obtain rfl := Option.some.inj H
         have p12 : 0 ≤ (x17_3 : Int) := od_
         have q12 : x17_3 < (x3_5.size : Int) := od_
         have hx12 := bt_at x3_5 x17_3
         replace p12 := eq_true p12
         replace q12 := eq_true q12
         go_wp2_with (first | ((with_reducible refine gate_callee (f := 94) rfl ?_); refine gl_ 23 Tryd.func94 #[.int .u8 (bt x3_5 x17_3)] ?_ rfl rfl rfl rfl; (with_reducible refine (F94.calls (bt x3_5 x17_3) false _ A13.out).mono ?_); rintro e w' ⟨rfl, ⟨nd, rfl⟩⟩; refine ⟨_, rfl, ?_⟩))
         go_ret
         exact ⟨er_, dn_⟩
        have H' := am_ H
        clear H
        have p12 : 0 ≤ (x17_3 : Int) := od_
        have q12 : x17_3 < (x3_5.size : Int) := od_
        have hx12 := bt_at x3_5 x17_3
        replace p12 := eq_true p12
        replace q12 := eq_true q12
        go_wp2_with (first | ((with_reducible refine gate_callee (f := 94) rfl ?_); refine gl_ 23 Tryd.func94 #[.int .u8 (bt x3_5 x17_3)] ?_ rfl rfl rfl rfl; (with_reducible refine (F94.calls (bt x3_5 x17_3) true _ A13.out).mono ?_); rintro e w' ⟨rfl, ⟨nd, rfl⟩⟩; refine ⟨_, rfl, ?_⟩))
        go_roundg k3
        case measure => have := HJ1.out; have := HJ5.out; have := HK3.out; omega
        case rel => exact ⟨(wrap64 (x17_3 + 1)), er_, H', ⟨by have := HJ1.out; have := HJ5.out; have := HK3.out; omega⟩, dn_⟩
       by_cases c15 : x3_5.toList = ([] : List UInt8)
       ·rw [if_pos c15] at H
        have c15b0 : (x3_5.toList == ([] : List UInt8)) = true := beq_iff_eq.mpr c15
        have c15b1 : (x3_5.toList != ([] : List UInt8)) = false := bne_eq_false_iff_eq.mpr c15
        clear c15
        obtain rfl := Option.some.inj H
        go_wp2
        go_ret
        exact ⟨er_, dn_⟩
       rw [if_neg c15] at H
       have c15b0 : (x3_5.toList == ([] : List UInt8)) = false := beq_eq_false_iff_ne.mpr c15
       have c15b1 : (x3_5.toList != ([] : List UInt8)) = true := bne_iff_ne.mpr c15
       by_cases c16 : 0 < (x3_5.size : Int)
       rotate_left
       ·rw [if_neg c16] at H
        exact absurd H (by simp)

       rw [if_pos c16] at H
       have c16b0 : decide (0 < (x3_5.size : Int)) = true := decide_eq_true c16
       have c16b1 : decide (0 < x3_5.size) = true := decide_eq_true (by omega)
       clear c16
       by_cases c18 : (bt x3_5 0) = 48
       rotate_left
       ·rw [if_neg c18] at H
        have c18b0 : ((bt x3_5 0) == 48) = false := beq_eq_false_iff_ne.mpr c18
        have c18b1 : ((bt x3_5 0) != 48) = true := bne_iff_ne.mpr c18
        obtain rfl := Option.some.inj H
        have p17 : 0 ≤ (0 : Int) := (by omega)
        have q17 : 0 < x3_5.size := (by have : (0 : Int) < (x3_5.size : Int) := od_; omega)
        have hx17 : ∀ h : 0 < x3_5.size, ((x3_5[0]'h).toNat : Int) = bt x3_5 0 := bt_at x3_5 0
        clear p17
        have qi17 : (0 < (x3_5.size : Int)) = True := eq_true (of_decide_eq_true as_)
        replace q17 := eq_true q17
        go_wp2
        go_ret
        exact ⟨er_, dn_⟩
       rw [if_pos c18] at H
       have c18b0 : ((bt x3_5 0) == 48) = true := beq_iff_eq.mpr c18
       have c18b1 : ((bt x3_5 0) != 48) = false := bne_eq_false_iff_eq.mpr c18
       clear c18
       obtain rfl := Option.some.inj H
       have p17 : 0 ≤ (0 : Int) := (by omega)
       have q17 : 0 < x3_5.size := (by have : (0 : Int) < (x3_5.size : Int) := od_; omega)
       have hx17 : ∀ h : 0 < x3_5.size, ((x3_5[0]'h).toNat : Int) = bt x3_5 0 := bt_at x3_5 0
       clear p17
       have qi17 : (0 < (x3_5.size : Int)) = True := eq_true (of_decide_eq_true as_)
       replace q17 := eq_true q17
       go_wp2
       go_ret
       exact ⟨er_, dn_⟩
/-! ### F62: function 62 -/
open Go.Shelf
def F62.ren : Go.Shelf.Ren := ⟨fun x => match x with | 174 => 95 | 247 => 117 | 245 => 118 | 287 => 130 | 279 => 131 | 280 => 132 | 281 => 133 | 282 => 134 | 321 => 143 | 322 => 144 | 316 => 145 | 171 => 147 | 205 => 146 | 243 => 154 | 246 => 129 | 283 => 139 | 284 => 140 | 285 => 141 | 286 => 142 | 129 => 150 | 317 => 149 | 318 => 151 | 319 => 152 | 320 => 153 | 337 => 155 | 338 => 156 | n => n, fun x => match x with | 9 => 9 | 3 => 3 | 2 => 2 | 75 => 133 | 85 => 134 | 4 => 4 | 167 => 163 | 5 => 5 | 53 => 109 | 175 => 164 | 46 => 138 | 168 => 166 | 37 => 45 | 0 => 0 | 210 => 179 | 21 => 21 | 127 => 188 | 145 => 191 | 143 => 189 | 171 => 171 | 173 => 174 | 212 => 183 | 51 => 184 | 20 => 20 | 213 => 185 | 232 => 193 | 233 => 194 | 80 => 195 | n => n, fun x => match x with | 15 => 0 | 16 => 1 | 17 => 2 | 18 => 3 | 19 => 4 | n => n⟩
theorem F62.lays : LaysC.n174 Tryd.prog F62.ren where
 mixed := by kernel_rfl
 f129 := Tryd.func150.trans (congrArg some (by kernel_rfl))
 f171 := Tryd.func147.trans (congrArg some (by kernel_rfl))
 f174 := Tryd.func95.trans (congrArg some (by kernel_rfl))
 f205 := Tryd.func146.trans (congrArg some (by kernel_rfl))
 f243 := Tryd.func154.trans (congrArg some (by kernel_rfl))
 f245 := Tryd.func118.trans (congrArg some (by kernel_rfl))
 f246 := Tryd.func129.trans (congrArg some (by kernel_rfl))
 f247 := Tryd.func117.trans (congrArg some (by kernel_rfl))
 f279 := Tryd.func131.trans (congrArg some (by kernel_rfl))
 f280 := Tryd.func132.trans (congrArg some (by kernel_rfl))
 f281 := Tryd.func133.trans (congrArg some (by kernel_rfl))
 f282 := Tryd.func134.trans (congrArg some (by kernel_rfl))
 f283 := Tryd.func139.trans (congrArg some (by kernel_rfl))
 f284 := Tryd.func140.trans (congrArg some (by kernel_rfl))
 f285 := Tryd.func141.trans (congrArg some (by kernel_rfl))
 f286 := Tryd.func142.trans (congrArg some (by kernel_rfl))
 f287 := Tryd.func130.trans (congrArg some (by kernel_rfl))
 f316 := Tryd.func145.trans (congrArg some (by kernel_rfl))
 f317 := Tryd.func149.trans (congrArg some (by kernel_rfl))
 f318 := Tryd.func151.trans (congrArg some (by kernel_rfl))
 f319 := Tryd.func152.trans (congrArg some (by kernel_rfl))
 f320 := Tryd.func153.trans (congrArg some (by kernel_rfl))
 f321 := Tryd.func143.trans (congrArg some (by kernel_rfl))
 f322 := Tryd.func144.trans (congrArg some (by kernel_rfl))
 f337 := Tryd.func155.trans (congrArg some (by kernel_rfl))
 f338 := Tryd.func156.trans (congrArg some (by kernel_rfl))
 t0 := Tryd.underlying0
 a0 := Tryd.isAgg0
 z0 := Tryd.sizeOf0
 v0 := Tryd.zeroValue0
 t2 := Tryd.underlying2
 a2 := Tryd.isAgg2
 z2 := Tryd.sizeOf2
 v2 := Tryd.zeroValue2
 t3 := Tryd.underlying3
 a3 := Tryd.isAgg3
 z3 := Tryd.sizeOf3
 v3 := Tryd.zeroValue3
 t4 := Tryd.underlying4
 a4 := Tryd.isAgg4
 z4 := Tryd.sizeOf4
 v4 := Tryd.zeroValue4
 t5 := Tryd.underlying5
 a5 := Tryd.isAgg5
 z5 := Tryd.sizeOf5
 v5 := Tryd.zeroValue5
 t9 := Tryd.underlying9
 a9 := Tryd.isAgg9
 z9 := Tryd.sizeOf9
 v9 := Tryd.zeroValue9
 t20 := Tryd.underlying20
 a20 := Tryd.isAgg20
 z20 := Tryd.sizeOf20
 v20 := Tryd.zeroValue20
 t21 := Tryd.underlying21
 a21 := Tryd.isAgg21
 z21 := Tryd.sizeOf21
 v21 := Tryd.zeroValue21
 t37 := Tryd.underlying45
 a37 := Tryd.isAgg45
 z37 := Tryd.sizeOf45
 v37 := Tryd.zeroValue45
 t46 := Tryd.underlying138
 a46 := Tryd.isAgg138
 z46 := Tryd.sizeOf138
 v46 := Tryd.zeroValue138
 t51 := Tryd.underlying184
 a51 := Tryd.isAgg184
 z51 := Tryd.sizeOf184
 v51 := Tryd.zeroValue184
 t53 := Tryd.underlying109
 a53 := Tryd.isAgg109
 z53 := Tryd.sizeOf109
 v53 := Tryd.zeroValue109
 t75 := Tryd.underlying133
 a75 := Tryd.isAgg133
 z75 := Tryd.sizeOf133
 v75 := Tryd.zeroValue133
 t85 := Tryd.underlying134
 a85 := Tryd.isAgg134
 z85 := Tryd.sizeOf134
 v85 := Tryd.zeroValue134
 t127 := Tryd.underlying188
 a127 := Tryd.isAgg188
 z127 := Tryd.sizeOf188
 v127 := Tryd.zeroValue188
 t143 := Tryd.underlying189
 a143 := Tryd.isAgg189
 z143 := Tryd.sizeOf189
 v143 := Tryd.zeroValue189
 t145 := Tryd.underlying191
 a145 := Tryd.isAgg191
 z145 := Tryd.sizeOf191
 v145 := Tryd.zeroValue191
 t167 := Tryd.underlying163
 a167 := Tryd.isAgg163
 z167 := Tryd.sizeOf163
 v167 := Tryd.zeroValue163
 t168 := Tryd.underlying166
 a168 := Tryd.isAgg166
 z168 := Tryd.sizeOf166
 v168 := Tryd.zeroValue166
 t171 := Tryd.underlying171
 a171 := Tryd.isAgg171
 z171 := Tryd.sizeOf171
 v171 := Tryd.zeroValue171
 t173 := Tryd.underlying174
 a173 := Tryd.isAgg174
 z173 := Tryd.sizeOf174
 v173 := Tryd.zeroValue174
 t175 := Tryd.underlying164
 a175 := Tryd.isAgg164
 z175 := Tryd.sizeOf164
 v175 := Tryd.zeroValue164
 t210 := Tryd.underlying179
 a210 := Tryd.isAgg179
 z210 := Tryd.sizeOf179
 v210 := Tryd.zeroValue179
 t212 := Tryd.underlying183
 a212 := Tryd.isAgg183
 z212 := Tryd.sizeOf183
 v212 := Tryd.zeroValue183
 t213 := Tryd.underlying185
 a213 := Tryd.isAgg185
 z213 := Tryd.sizeOf185
 t232 := Tryd.underlying193
 a232 := Tryd.isAgg193
 z232 := Tryd.sizeOf193
 v232 := Tryd.zeroValue193
 t233 := Tryd.underlying194
 a233 := Tryd.isAgg194
 z233 := Tryd.sizeOf194
 v233 := Tryd.zeroValue194
 g15 := by kernel_rfl
 g16 := by kernel_rfl
 g17 := by kernel_rfl
 g18 := by kernel_rfl
 g19 := by kernel_rfl
 t80 := Tryd.underlying195
 a80 := Tryd.isAgg195
 z80 := Tryd.sizeOf195
 v80 := Tryd.zeroValue195
 i0 := by kernel_rfl
 i2 := by kernel_rfl
 i3 := by kernel_rfl
 i4 := by kernel_rfl
 i5 := by kernel_rfl
 i9 := by kernel_rfl
 i20 := by kernel_rfl
 i21 := by kernel_rfl
 i37 := by kernel_rfl
 i46 := by kernel_rfl
 i51 := by kernel_rfl
 i53 := by kernel_rfl
 i75 := by kernel_rfl
 i80 := by kernel_rfl
 i85 := by kernel_rfl
 i127 := by kernel_rfl
 i143 := by kernel_rfl
 i145 := by kernel_rfl
 i167 := by kernel_rfl
 i168 := by kernel_rfl
 i171 := by kernel_rfl
 i173 := by kernel_rfl
 i175 := by kernel_rfl
 i210 := by kernel_rfl
 i212 := by kernel_rfl
 i232 := by kernel_rfl
 i233 := by kernel_rfl
 m15 := by kernel_rfl
 m16 := by kernel_rfl
 m17 := by kernel_rfl
 m18 := by kernel_rfl
 m19 := by kernel_rfl
 c0 := by kernel_rfl
 c2 := by kernel_rfl
 c3 := by kernel_rfl
 c4 := by kernel_rfl
 c5 := by kernel_rfl
 c9 := by kernel_rfl
 c20 := by kernel_rfl
 c21 := by kernel_rfl
 c37 := by kernel_rfl
 c46 := by kernel_rfl
 c51 := by kernel_rfl
 c53 := by kernel_rfl
 c75 := by kernel_rfl
 c80 := by kernel_rfl
 c85 := by kernel_rfl
 c127 := by kernel_rfl
 c143 := by kernel_rfl
 c145 := by kernel_rfl
 c167 := by kernel_rfl
 c168 := by kernel_rfl
 c171 := by kernel_rfl
 c173 := by kernel_rfl
 c175 := by kernel_rfl
 c210 := by kernel_rfl
 c212 := by kernel_rfl
 c213 := by kernel_rfl
 c232 := by kernel_rfl
 c233 := by kernel_rfl
def F62.g (k : Nat) (a0 : ByteArray) (a1 : Int) (a2 : Int) : Lib.NumEnd Int → Option (Int × Bool)
  | .ok v => (F96.f k a0).bind fun b => (if b = true then ((F83.f v a1 a2).bind fun c => some (v, c)) else (some (v, false)))
  | Lib.NumEnd.syntax => some (0, false)
  | .range => some (Lib.intSat 64 a0.data.toList, false)
def F62.f (k : Nat) (a0 : ByteArray) (a1 : Int) (a2 : Int) : Option (Int × Bool) := if a0.size ≤ 281474976710656 then (F62.g k a0 a1 a2 (Lib.parseIntB 64 a0.data.toList)) else (none)
theorem F62.mono : ∀ a0 a1 a2 k, LeO (F62.f k a0 a1 a2) (F62.f (k + 1) a0 a1 a2) := by
 intro a0 a1 a2 k
 unfold F62.f
 refine LeO.ite ?_ (LeO.none _)
 generalize Lib.parseIntB 64 a0.data.toList = p
 cases p with
 | ok v => exact LeO.bind (F96.mono _ _) (fun _ => LeO.refl _)
 | range => exact LeO.refl _
 | _ => exact LeO.refl _
theorem F62.calls (k : Nat) (a0 : ByteArray) (a1 : Int) (a2 : Int) (r1 : Int) (r2 : Bool) (w : World) (hT : LaidT true Tryd.prog w) (h : F62.f k a0 a1 a2 = some (r1, r2)) :
  Calls Tryd.prog 62 #[.string a0, .int .i64 a1, .int .i64 a2] w fun e w' => e = .returned (.tuple #[.int .i64 r1, .bool r2]) ∧ Below w.heap.size w w' := by
 unfold F62.f at h
 by_cases hz : a0.size ≤ 281474976710656
 rotate_left
 ·rw [if_neg hz] at h
  cases h

 rw [if_pos hz] at h
 have HZ := am_ hz
 have HT := am_ hT
 clear hz hT
 cases hp : Lib.parseIntB 64 a0.data.toList with
 | ok v =>
  rw [hp] at h
  have HP := am_ hp
  clear hp
  replace h := Option.bind_eq_some_iff.mp h
  obtain ⟨b, hb, h⟩ := h
  have H1 := am_ hb
  clear hb
  cases b with
  | true =>
   rw [if_pos rfl] at h
   replace h := Option.bind_eq_some_iff.mp h
   obtain ⟨c, hc, h⟩ := h
   have H2 := am_ hc
   clear hc
   simp only [Option.some.injEq, Prod.mk.injEq] at h
   obtain ⟨rfl, rfl⟩ := h
   go_enter Tryd.func62, Tryd.ntmps62
   go_wp2_with (first | (go_at_call 95; refine (Any.strconv_ParseInt_10_at64_ok F62.lays a0 (by have := HZ.out; omega) v HP.out _).mono ?_; rintro e w1 ⟨rfl, hw⟩; have HB := am_ (show Below w.heap.size w w1 from hw.elim (fun e_ => e_ ▸ Below.refl _ _) (fun ⟨_, e_⟩ => e_ ▸ Lib.bytesWorld_below _ _ _)); clear hw) | (go_at_call 96; refine (F96.calls k a0 true _ H1.out).mono ?_; rintro e w2 ⟨rfl, hd⟩; have HD := am_ hd; clear hd) | (go_at_call 83; refine (F83.calls v a1 a2 c _ H2.out).mono ?_; rintro e w3 ⟨rfl, hd⟩; have HD3 := am_ hd; clear hd))
   go_ret2
   exact ⟨rfl, (HB.out.trans (HD.out.below.mono HB.out.size)).trans (HD3.out.below.mono (Nat.le_trans HB.out.size HD.out.below.size))⟩
  | false =>
   rw [if_neg (by simp)] at h
   simp only [Option.some.injEq, Prod.mk.injEq] at h
   obtain ⟨rfl, rfl⟩ := h
   go_enter Tryd.func62, Tryd.ntmps62
   go_wp2_with (first | (go_at_call 95; refine (Any.strconv_ParseInt_10_at64_ok F62.lays a0 (by have := HZ.out; omega) v HP.out _).mono ?_; rintro e w1 ⟨rfl, hw⟩; have HB := am_ (show Below w.heap.size w w1 from hw.elim (fun e_ => e_ ▸ Below.refl _ _) (fun ⟨_, e_⟩ => e_ ▸ Lib.bytesWorld_below _ _ _)); clear hw) | (go_at_call 96; refine (F96.calls k a0 false _ H1.out).mono ?_; rintro e w2 ⟨rfl, hd⟩; have HD := am_ hd; clear hd))
   go_ret2
   exact ⟨rfl, HB.out.trans (HD.out.below.mono HB.out.size)⟩
 | range =>
  rw [hp] at h
  have HP := am_ hp
  clear hp
  replace h : some (Lib.intSat 64 a0.data.toList, false) = some (r1, r2) := h
  simp only [Option.some.injEq, Prod.mk.injEq] at h
  obtain ⟨hr, rfl⟩ := h
  obtain ⟨tp, p, hv⟩ := HT.out.er rfl
  have HV := am_ hv
  have HQ := am_ hr
  clear hv hr
  go_enter Tryd.func62, Tryd.ntmps62
  go_wp2_with (first | (go_at_call 95; refine (Any.strconv_ParseInt_10_at64_range_var F62.lays a0 HZ.out HP.out tp p _ HV.out).mono ?_; rintro e w1 ⟨N1, rfl, hn1, hn2, hb⟩; rw [HQ.out]; have HB := am_ hb; clear hb hn1 hn2))
  go_ret2
  exact ⟨rfl, HB.out⟩
 | _ =>
  rw [hp] at h
  have HP := am_ hp
  clear hp
  replace h : some ((0 : Int), false) = some (r1, r2) := h
  simp only [Option.some.injEq, Prod.mk.injEq] at h
  obtain ⟨rfl, rfl⟩ := h
  obtain ⟨tp, p, hv⟩ := HT.out.es rfl
  have HV := am_ hv
  clear hv
  go_enter Tryd.func62, Tryd.ntmps62
  go_wp2_with (first | (go_at_call 95; refine (Any.strconv_ParseInt_10_at64_syntax_var F62.lays a0 HZ.out HP.out tp p _ HV.out).mono ?_; rintro e w1 ⟨N1, rfl, hn1, hn2, hb⟩; have HB := am_ hb; clear hb hn1 hn2))
  go_ret2
  exact ⟨rfl, HB.out⟩
/-! ### F38: function 38 -/
def F38.f (k : Nat) (a0_0 : ByteArray) (l0_1 : List (S55)) : Option (ByteArray × ByteArray × Int × (List (S83)) × Bool) := (F60.f k a0_0 l0_1 (⟨#[73, 88, 72]⟩ : ByteArray) 3).bind fun bt217 => (if bt217.2 = true then (if 0 < (bt217.1.length : Int) then ((F61.f k (rdOf ByteArray.empty bt217.1 0)).bind fun t222 => (if t222 = true then (if 1 < (bt217.1.length : Int) then ((F61.f k (rdOf ByteArray.empty bt217.1 1)).bind fun t224 => (if t224 = true then (if 2 < (bt217.1.length : Int) then ((F62.f k (rdOf ByteArray.empty bt217.1 2) 1 999999).bind fun bt226 => (some (rdOf ByteArray.empty bt217.1 0, rdOf ByteArray.empty bt217.1 1, bt226.1, ([] : List (S83)), bt226.2))) else (none)) else (some ((⟨#[]⟩ : ByteArray), (⟨#[]⟩ : ByteArray), 0, ([] : List (S83)), false)))) else (none)) else (some ((⟨#[]⟩ : ByteArray), (⟨#[]⟩ : ByteArray), 0, ([] : List (S83)), false)))) else (none)) else (some ((⟨#[]⟩ : ByteArray), (⟨#[]⟩ : ByteArray), 0, ([] : List (S83)), false)))
theorem F38.mono : ∀ a0 a1 k, LeO (F38.f k a0 a1) (F38.f (k + 1) a0 a1) := by
 intro a0 a1 k
 unfold F38.f
 repeat' with_reducible first | exact F61.mono _ _ | exact F62.mono _ _ _ _ | exact F60.mono _ _ _ _ _ | exact LeO.refl _ | exact LeO.none _ | refine LeO.ite ?_ ?_ | refine LeO.bind ?_ (fun _ => ?_)
def F38.T5 : Bool × List (List Nat × List Nat) := (true, [([], []), ([0], [0]), ([1], [1]), ([], []), ([3], [3]), ([4], [4]), ([], []), ([2, 5, 6], [2, 5, 6]), ([], []), ([7, 0, 1, 2, 3, 4, 5, 6, 7], [7]), ([8, 9, 0, 1, 2, 3, 4, 5, 6, 7, 8, 9], [8])])
def F38.B5 : List Nat := [0, 1, 3, 0, 8, 24, 0, 127, 0, 255, 1023]
theorem F38.tab5 : rtab .any (opsOf Tryd.f38 5) = F38.T5 := by kernel_rfl
theorem F38.bits5 : waitsOk F38.T5.2 F38.B5 = true := by kernel_rfl
theorem F38.calls (k : Nat) (a0_0 : ByteArray) (A0_1 : Option Addr) (c0_1 : Nat) (l0_1 : List (S55)) (r1 : ByteArray) (r2 : ByteArray) (r3 : Int) (r4 : List (S83)) (r5 : Bool) (w : World) (hr0_1 : Kd.C k55 w A0_1 l0_1.length l0_1) (hc0_1 : l0_1.length ≤ c0_1) (hT : LaidT true Tryd.prog w) (h : F38.f k a0_0 l0_1 = some (r1, r2, r3, r4, r5)) :
  Calls Tryd.prog 38 #[.agg #[.string a0_0, .slice A0_1 l0_1.length c0_1]] w fun e w' => ∃ v3_ : Value, e = .returned (.tuple #[.agg #[.string r1, .string r2, .int .i64 r3, v3_], .bool r5]) ∧ Kd.S k83 83 w' w.heap.size (fun _ => True) v3_ r4 ∧ Below w.heap.size w w' := by
 have hu52 := Tryd.underlying52
 have hu29 := Tryd.underlying29
 have HR0_1 := am_ hr0_1
 have HC0_1 := am_ hc0_1
 clear hr0_1 hc0_1
 have HZT := am_ hT
 clear hT
 have HB := am_ (Below.refl w.heap.size w)
 have H : ((F60.f k a0_0 l0_1 (⟨#[73, 88, 72]⟩ : ByteArray) 3).bind fun bt217 => (if bt217.2 = true then (if 0 < (bt217.1.length : Int) then ((F61.f k (rdOf ByteArray.empty bt217.1 0)).bind fun t222 => (if t222 = true then (if 1 < (bt217.1.length : Int) then ((F61.f k (rdOf ByteArray.empty bt217.1 1)).bind fun t224 => (if t224 = true then (if 2 < (bt217.1.length : Int) then ((F62.f k (rdOf ByteArray.empty bt217.1 2) 1 999999).bind fun bt226 => (some (rdOf ByteArray.empty bt217.1 0, rdOf ByteArray.empty bt217.1 1, bt226.1, ([] : List (S83)), bt226.2))) else (none)) else (some ((⟨#[]⟩ : ByteArray), (⟨#[]⟩ : ByteArray), 0, ([] : List (S83)), false)))) else (none)) else (some ((⟨#[]⟩ : ByteArray), (⟨#[]⟩ : ByteArray), 0, ([] : List (S83)), false)))) else (none)) else (some ((⟨#[]⟩ : ByteArray), (⟨#[]⟩ : ByteArray), 0, ([] : List (S83)), false)))) = some (r1, r2, r3, r4, r5) := h
 clear h
 replace H := bi_ H; rcases H with ⟨⟨t217, t220⟩, A2, H⟩
 replace H := ib_ H; rcases H with ⟨rfl, H⟩ | ⟨rfl, H⟩
 rotate_left
 ·simp only [Option.some.injEq, Prod.mk.injEq] at H
  obtain ⟨rfl, rfl, rfl, rfl, rfl⟩ := H
  go_enter Tryd.func38, Tryd.ntmps38
  go_wp2_with (first | ((with_reducible refine gate_dst (N := 1) rfl ?_); refine be_ 1 #[.string a0_0, .slice A0_1 l0_1.length c0_1] 52 ?_; intro gb215 hg w38 hbox hb; have BK215 := am_ (hbox); have GW215 := am_ (gw_ hg bl_); have GE215 := GW215; replace HB := hs_ w hb; clear hb hbox hg) | ((with_reducible refine gate_dst (N := 2) rfl ?_); refine be_ 2 #[.string (⟨#[]⟩ : ByteArray), .string (⟨#[]⟩ : ByteArray), .int .i64 0, .slice none 0 0] 29 ?_; intro gb216 hg w39 hbox hb; have BK216 := am_ (hbox); have GW216 := am_ (gw_ hg bl_); have GE216 := GW216; replace HB := hs_ w hb; have NB215_216 := am_ (gn_ hg (blkl_ BK215)); have NB216_215 := am_ (gm_ hg (blkl_ BK215)); replace BK215 := bb_ BK215 hb; clear hb hbox hg; have hnb40 := NB215_216.out; have hnc40 := NB216_215.out; obtain ⟨hcz41_0, hcz41_1, hfz41_0, hfz41_1⟩ := cellsF2 BK215.out) | ((with_reducible refine gate_callee (f := 60) rfl ?_); refine gl_ 10 Tryd.func60 #[.agg #[.string a0_0, .slice A0_1 l0_1.length c0_1], .string (⟨#[73, 88, 72]⟩ : ByteArray), .int .i64 3] ?_ rfl rfl rfl rfl; (with_reducible refine (F60.calls k a0_0 _ _ l0_1 (⟨#[73, 88, 72]⟩ : ByteArray) 3 t217 false _ ?s1 ?s2 A2.out).mono ?_); (case s1 => exact au3_2); (case s2 => exact HC0_1.out); rintro e w42 ⟨v218, rfl, ho0, hb⟩; refine ⟨_, rfl, ?_⟩; have HO219 := am_ (Kd.R_lower ho0 (below_size bl_)); replace BK215 := bb_ BK215 hb; replace BK216 := bb_ BK216 hb; replace HB := hs_ w hb; (try clear hb); (try clear ho0); obtain ⟨hcz43_0, hcz43_1, hcz43_2, hcz43_3, hfz43_0, hfz43_1, hfz43_2, hfz43_3⟩ := cellsF4 BK216.out))
  refine bodyPost_ret (results_ct rfl _ _ gb216 29 #[.string (⟨#[]⟩ : ByteArray), .string (⟨#[]⟩ : ByteArray), .int .i64 0, .slice none 0 0] (0, 0) _ rfl (bq_ BK216) Tryd.underlying29 rfl (by kernel_rfl)) rfl ?_
  exact ⟨_, au3_0, au3_5, bl_⟩

 replace H := itn_ H; rcases H with ⟨c4b0, H⟩
 have c4b1 : decide (0 < t217.length) = true := n2_ c4b0
 replace H := bi_ H; rcases H with ⟨t222, A5, H⟩
 replace H := ib_ H; rcases H with ⟨rfl, H⟩ | ⟨rfl, H⟩
 rotate_left
 ·simp only [Option.some.injEq, Prod.mk.injEq] at H
  obtain ⟨rfl, rfl, rfl, rfl, rfl⟩ := H
  go_enter Tryd.func38, Tryd.ntmps38
  go_wp2_with (first | ((with_reducible refine gate_dst (N := 1) rfl ?_); refine be_ 1 #[.string a0_0, .slice A0_1 l0_1.length c0_1] 52 ?_; intro gb215 hg w31 hbox hb; have BK215 := am_ (hbox); have GW215 := am_ (gw_ hg bl_); have GE215 := GW215; replace HB := hs_ w hb; clear hb hbox hg) | ((with_reducible refine gate_dst (N := 2) rfl ?_); refine be_ 2 #[.string (⟨#[]⟩ : ByteArray), .string (⟨#[]⟩ : ByteArray), .int .i64 0, .slice none 0 0] 29 ?_; intro gb216 hg w32 hbox hb; have BK216 := am_ (hbox); have GW216 := am_ (gw_ hg bl_); have GE216 := GW216; replace HB := hs_ w hb; have NB215_216 := am_ (gn_ hg (blkl_ BK215)); have NB216_215 := am_ (gm_ hg (blkl_ BK215)); replace BK215 := bb_ BK215 hb; clear hb hbox hg; have hnb33 := NB215_216.out; have hnc33 := NB216_215.out; obtain ⟨hcz34_0, hcz34_1, hfz34_0, hfz34_1⟩ := cellsF2 BK215.out) | ((with_reducible refine gate_callee (f := 60) rfl ?_); refine gl_ 10 Tryd.func60 #[.agg #[.string a0_0, .slice A0_1 l0_1.length c0_1], .string (⟨#[73, 88, 72]⟩ : ByteArray), .int .i64 3] ?_ rfl rfl rfl rfl; (with_reducible refine (F60.calls k a0_0 _ _ l0_1 (⟨#[73, 88, 72]⟩ : ByteArray) 3 t217 true _ ?s1 ?s2 A2.out).mono ?_); (case s1 => exact au3_2); (case s2 => exact HC0_1.out); rintro e w35 ⟨v218, rfl, ho0, hb⟩; refine ⟨_, rfl, ?_⟩; have HO219 := am_ (Kd.R_lower ho0 (below_size bl_)); replace BK215 := bb_ BK215 hb; replace BK216 := bb_ BK216 hb; replace HB := hs_ w hb; (try clear hb); (try clear ho0); obtain ⟨Ao36, co36, eo36⟩ := Kd.R_slice HO219.out; subst eo36; have p221 : 0 ≤ (0 : Int) := (by omega); have q221 : 0 < (t217.length : Int) := od_; obtain ⟨ad221, e221, hx221_0⟩ := Kd.at_string (Kd.R_reads' HO219.out).2.2 0 p221 q221; cases e221; have qi221 : (0 < t217.length) = True := eq_true (by omega); (try rw [show ((0 : Int)).toNat = 0 from rfl] at hx221_0); (try rw [Addr.add_zero'] at hx221_0); replace p221 := eq_true p221; replace q221 := eq_true q221) | (go_at_call 61; (with_reducible refine (F61.calls k (rdOf ByteArray.empty t217 0) false _ A5.out).mono ?_); rintro e w' ⟨rfl, ⟨nd, rfl⟩⟩; (try (rw [drewN_self w35]; generalize hq_ : World.drewN w35 _ = w35; have n0_ : Aside0 (Kd.R Kd.string 9 w35 w.heap.size (fun _ => True) (.slice (some ad221) t217.length co36) t217) := ⟨by rw [← hq_]; exact (rk_ HO219)⟩; have n1_ : Aside0 (w35.heap[gb215]? = some (.cells #[.string a0_0, .slice A0_1 l0_1.length c0_1] 52 (0, 0))) := ⟨by rw [← hq_]; exact (bk_ BK215)⟩; have n2_ : Aside0 (w35.heap[gb216]? = some (.cells #[.string (⟨#[]⟩ : ByteArray), .string (⟨#[]⟩ : ByteArray), .int .i64 0, .slice none 0 0] 29 (0, 0))) := ⟨by rw [← hq_]; exact (bk_ BK216)⟩; have n3_ : Aside0 (Below w.heap.size w w35) := ⟨by rw [← hq_]; exact bl_⟩; clear HO219 BK215 BK216 HB hq_; have HO219 := n0_; have BK215 := n1_; have BK216 := n2_; have HB := n3_; clear n0_ n1_ n2_ n3_)); obtain ⟨hcz37_0, hcz37_1, hcz37_2, hcz37_3, hfz37_0, hfz37_1, hfz37_2, hfz37_3⟩ := cellsF4 BK216.out))
  refine bodyPost_ret (results_ct rfl _ _ gb216 29 #[.string (⟨#[]⟩ : ByteArray), .string (⟨#[]⟩ : ByteArray), .int .i64 0, .slice none 0 0] (0, 0) _ rfl (bq_ BK216) Tryd.underlying29 rfl (by kernel_rfl)) rfl ?_
  exact ⟨_, au3_0, au3_5, bl_⟩
 replace H := itn_ H; rcases H with ⟨c7b0, H⟩
 have c7b1 : decide (1 < t217.length) = true := n2_ c7b0
 replace H := bi_ H; rcases H with ⟨t224, A8, H⟩
 replace H := ib_ H; rcases H with ⟨rfl, H⟩ | ⟨rfl, H⟩
 rotate_left
 ·simp only [Option.some.injEq, Prod.mk.injEq] at H
  obtain ⟨rfl, rfl, rfl, rfl, rfl⟩ := H
  go_enter Tryd.func38, Tryd.ntmps38
  go_wp2_with (first | ((with_reducible refine gate_dst (N := 1) rfl ?_); refine be_ 1 #[.string a0_0, .slice A0_1 l0_1.length c0_1] 52 ?_; intro gb215 hg w24 hbox hb; have BK215 := am_ (hbox); have GW215 := am_ (gw_ hg bl_); have GE215 := GW215; replace HB := hs_ w hb; clear hb hbox hg) | ((with_reducible refine gate_dst (N := 2) rfl ?_); refine be_ 2 #[.string (⟨#[]⟩ : ByteArray), .string (⟨#[]⟩ : ByteArray), .int .i64 0, .slice none 0 0] 29 ?_; intro gb216 hg w25 hbox hb; have BK216 := am_ (hbox); have GW216 := am_ (gw_ hg bl_); have GE216 := GW216; replace HB := hs_ w hb; have NB215_216 := am_ (gn_ hg (blkl_ BK215)); have NB216_215 := am_ (gm_ hg (blkl_ BK215)); replace BK215 := bb_ BK215 hb; clear hb hbox hg; have hnb26 := NB215_216.out; have hnc26 := NB216_215.out; obtain ⟨hcz27_0, hcz27_1, hfz27_0, hfz27_1⟩ := cellsF2 BK215.out) | ((with_reducible refine gate_callee (f := 60) rfl ?_); refine gl_ 10 Tryd.func60 #[.agg #[.string a0_0, .slice A0_1 l0_1.length c0_1], .string (⟨#[73, 88, 72]⟩ : ByteArray), .int .i64 3] ?_ rfl rfl rfl rfl; (with_reducible refine (F60.calls k a0_0 _ _ l0_1 (⟨#[73, 88, 72]⟩ : ByteArray) 3 t217 true _ ?s1 ?s2 A2.out).mono ?_); (case s1 => exact au3_2); (case s2 => exact HC0_1.out); rintro e w28 ⟨v218, rfl, ho0, hb⟩; refine ⟨_, rfl, ?_⟩; have HO219 := am_ (Kd.R_lower ho0 (below_size bl_)); replace BK215 := bb_ BK215 hb; replace BK216 := bb_ BK216 hb; replace HB := hs_ w hb; (try clear hb); (try clear ho0); obtain ⟨Ao29, co29, eo29⟩ := Kd.R_slice HO219.out; subst eo29; have p221 : 0 ≤ (0 : Int) := (by omega); have q221 : 0 < (t217.length : Int) := od_; obtain ⟨ad221, e221, hx221_0⟩ := Kd.at_string (Kd.R_reads' HO219.out).2.2 0 p221 q221; cases e221; have qi221 : (0 < t217.length) = True := eq_true (by omega); (try rw [show ((0 : Int)).toNat = 0 from rfl] at hx221_0); (try rw [Addr.add_zero'] at hx221_0); replace p221 := eq_true p221; replace q221 := eq_true q221) | (go_at_call 61; (with_reducible refine (F61.calls k (rdOf ByteArray.empty t217 0) true _ A5.out).mono ?_); rintro e w' ⟨rfl, ⟨nd, rfl⟩⟩; (try (rw [drewN_self w28]; generalize hq_ : World.drewN w28 _ = w28; have n0_ : Aside0 (Kd.R Kd.string 9 w28 w.heap.size (fun _ => True) (.slice (some ad221) t217.length co29) t217) := ⟨by rw [← hq_]; exact (rk_ HO219)⟩; have n1_ : Aside0 (w28.heap[gb215]? = some (.cells #[.string a0_0, .slice A0_1 l0_1.length c0_1] 52 (0, 0))) := ⟨by rw [← hq_]; exact (bk_ BK215)⟩; have n2_ : Aside0 (w28.heap[gb216]? = some (.cells #[.string (⟨#[]⟩ : ByteArray), .string (⟨#[]⟩ : ByteArray), .int .i64 0, .slice none 0 0] 29 (0, 0))) := ⟨by rw [← hq_]; exact (bk_ BK216)⟩; have n3_ : Aside0 (Below w.heap.size w w28) := ⟨by rw [← hq_]; exact bl_⟩; clear HO219 BK215 BK216 HB hq_; have HO219 := n0_; have BK215 := n1_; have BK216 := n2_; have HB := n3_; clear n0_ n1_ n2_ n3_)); have p223 : 0 ≤ (1 : Int) := (by omega); have q223 : 1 < (t217.length : Int) := od_; obtain ⟨ad223, e223, hx223_0⟩ := Kd.at_string (Kd.R_reads' HO219.out).2.2 1 p223 q223; obtain rfl : ad221 = ad223 := (by injection e223); (try simp only [show (1 : Int).toNat = 1 from rfl, Nat.reduceMul, Nat.reduceEqDiff, Go.Addr.add, ↓reduceIte] at hx223_0); have qi223 : (1 < t217.length) = True := eq_true (by omega); (try rw [show ((1 : Int)).toNat = 1 from rfl] at hx223_0); replace p223 := eq_true p223; replace q223 := eq_true q223) | (go_at_call 61; (with_reducible refine (F61.calls k (rdOf ByteArray.empty t217 1) false _ A8.out).mono ?_); rintro e w' ⟨rfl, ⟨nd, rfl⟩⟩; (try (rw [drewN_self w28]; generalize hq_ : World.drewN w28 _ = w28; have n0_ : Aside0 (Kd.R Kd.string 9 w28 w.heap.size (fun _ => True) (.slice (some ad221) t217.length co29) t217) := ⟨by rw [← hq_]; exact (rk_ HO219)⟩; have n1_ : Aside0 (w28.heap[gb215]? = some (.cells #[.string a0_0, .slice A0_1 l0_1.length c0_1] 52 (0, 0))) := ⟨by rw [← hq_]; exact (bk_ BK215)⟩; have n2_ : Aside0 (w28.heap[gb216]? = some (.cells #[.string (⟨#[]⟩ : ByteArray), .string (⟨#[]⟩ : ByteArray), .int .i64 0, .slice none 0 0] 29 (0, 0))) := ⟨by rw [← hq_]; exact (bk_ BK216)⟩; have n3_ : Aside0 (Below w.heap.size w w28) := ⟨by rw [← hq_]; exact bl_⟩; clear HO219 BK215 BK216 HB hq_; have HO219 := n0_; have BK215 := n1_; have BK216 := n2_; have HB := n3_; clear n0_ n1_ n2_ n3_)); obtain ⟨hcz30_0, hcz30_1, hcz30_2, hcz30_3, hfz30_0, hfz30_1, hfz30_2, hfz30_3⟩ := cellsF4 BK216.out))
  refine bodyPost_ret (results_ct rfl _ _ gb216 29 #[.string (⟨#[]⟩ : ByteArray), .string (⟨#[]⟩ : ByteArray), .int .i64 0, .slice none 0 0] (0, 0) _ rfl (bq_ BK216) Tryd.underlying29 rfl (by kernel_rfl)) rfl ?_
  exact ⟨_, au3_0, au3_5, bl_⟩
 replace H := itn_ H; rcases H with ⟨c10b0, H⟩
 have c10b1 : decide (2 < t217.length) = true := n2_ c10b0
 replace H := bi_ H; rcases H with ⟨⟨t226, t227⟩, A11, H⟩
 simp only [Option.some.injEq, Prod.mk.injEq] at H
 obtain ⟨rfl, rfl, rfl, rfl, rfl⟩ := H
 go_enter Tryd.func38, Tryd.ntmps38
 try go_wp2_with (first | ((with_reducible refine gate_dst (N := 1) rfl ?_); refine be_ 1 #[.string a0_0, .slice A0_1 l0_1.length c0_1] 52 ?_; intro gb215 hg w12 hbox hb; have BK215 := am_ (hbox); have GW215 := am_ (gw_ hg bl_); have GE215 := GW215; replace HB := hs_ w hb; clear hb hbox hg) | ((with_reducible refine gate_dst (N := 2) rfl ?_); refine be_ 2 #[.string (⟨#[]⟩ : ByteArray), .string (⟨#[]⟩ : ByteArray), .int .i64 0, .slice none 0 0] 29 ?_; intro gb216 hg w13 hbox hb; have BK216 := am_ (hbox); have GW216 := am_ (gw_ hg bl_); have GE216 := GW216; replace HB := hs_ w hb; have NB215_216 := am_ (gn_ hg (blkl_ BK215)); have NB216_215 := am_ (gm_ hg (blkl_ BK215)); replace BK215 := bb_ BK215 hb; clear hb hbox hg; have hnb14 := NB215_216.out; have hnc14 := NB216_215.out; obtain ⟨hcz15_0, hcz15_1, hfz15_0, hfz15_1⟩ := cellsF2 BK215.out) | ((with_reducible refine gate_callee (f := 60) rfl ?_); refine gl_ 10 Tryd.func60 #[.agg #[.string a0_0, .slice A0_1 l0_1.length c0_1], .string (⟨#[73, 88, 72]⟩ : ByteArray), .int .i64 3] ?_ rfl rfl rfl rfl; (with_reducible refine (F60.calls k a0_0 _ _ l0_1 (⟨#[73, 88, 72]⟩ : ByteArray) 3 t217 true _ ?s1 ?s2 A2.out).mono ?_); (case s1 => exact au3_2); (case s2 => exact HC0_1.out); rintro e w16 ⟨v218, rfl, ho0, hb⟩; refine ⟨_, rfl, ?_⟩; have HO219 := am_ (Kd.R_lower ho0 (below_size bl_)); replace BK215 := bb_ BK215 hb; replace BK216 := bb_ BK216 hb; replace HB := hs_ w hb; (try clear hb); (try clear ho0); obtain ⟨Ao17, co17, eo17⟩ := Kd.R_slice HO219.out; subst eo17; have p221 : 0 ≤ (0 : Int) := (by omega); have q221 : 0 < (t217.length : Int) := od_; obtain ⟨ad221, e221, hx221_0⟩ := Kd.at_string (Kd.R_reads' HO219.out).2.2 0 p221 q221; cases e221; have qi221 : (0 < t217.length) = True := eq_true (by omega); (try rw [show ((0 : Int)).toNat = 0 from rfl] at hx221_0); (try rw [Addr.add_zero'] at hx221_0); replace p221 := eq_true p221; replace q221 := eq_true q221) | (go_at_call 61; (with_reducible refine (F61.calls k (rdOf ByteArray.empty t217 0) true _ A5.out).mono ?_); rintro e w' ⟨rfl, ⟨nd, rfl⟩⟩; (try (rw [drewN_self w16]; generalize hq_ : World.drewN w16 _ = w16; have n0_ : Aside0 (Kd.R Kd.string 9 w16 w.heap.size (fun _ => True) (.slice (some ad221) t217.length co17) t217) := ⟨by rw [← hq_]; exact (rk_ HO219)⟩; have n1_ : Aside0 (w16.heap[gb215]? = some (.cells #[.string a0_0, .slice A0_1 l0_1.length c0_1] 52 (0, 0))) := ⟨by rw [← hq_]; exact (bk_ BK215)⟩; have n2_ : Aside0 (w16.heap[gb216]? = some (.cells #[.string (⟨#[]⟩ : ByteArray), .string (⟨#[]⟩ : ByteArray), .int .i64 0, .slice none 0 0] 29 (0, 0))) := ⟨by rw [← hq_]; exact (bk_ BK216)⟩; have n3_ : Aside0 (Below w.heap.size w w16) := ⟨by rw [← hq_]; exact bl_⟩; clear HO219 BK215 BK216 HB hq_; have HO219 := n0_; have BK215 := n1_; have BK216 := n2_; have HB := n3_; clear n0_ n1_ n2_ n3_)); have p223 : 0 ≤ (1 : Int) := (by omega); have q223 : 1 < (t217.length : Int) := od_; obtain ⟨ad223, e223, hx223_0⟩ := Kd.at_string (Kd.R_reads' HO219.out).2.2 1 p223 q223; obtain rfl : ad221 = ad223 := (by injection e223); (try simp only [show (1 : Int).toNat = 1 from rfl, Nat.reduceMul, Nat.reduceEqDiff, Go.Addr.add, ↓reduceIte] at hx223_0); have qi223 : (1 < t217.length) = True := eq_true (by omega); (try rw [show ((1 : Int)).toNat = 1 from rfl] at hx223_0); replace p223 := eq_true p223; replace q223 := eq_true q223) | (go_at_call 61; (with_reducible refine (F61.calls k (rdOf ByteArray.empty t217 1) true _ A8.out).mono ?_); rintro e w' ⟨rfl, ⟨nd, rfl⟩⟩; (try (rw [drewN_self w16]; generalize hq_ : World.drewN w16 _ = w16; have n0_ : Aside0 (Kd.R Kd.string 9 w16 w.heap.size (fun _ => True) (.slice (some ad221) t217.length co17) t217) := ⟨by rw [← hq_]; exact (rk_ HO219)⟩; have n1_ : Aside0 (w16.heap[gb215]? = some (.cells #[.string a0_0, .slice A0_1 l0_1.length c0_1] 52 (0, 0))) := ⟨by rw [← hq_]; exact (bk_ BK215)⟩; have n2_ : Aside0 (w16.heap[gb216]? = some (.cells #[.string (⟨#[]⟩ : ByteArray), .string (⟨#[]⟩ : ByteArray), .int .i64 0, .slice none 0 0] 29 (0, 0))) := ⟨by rw [← hq_]; exact (bk_ BK216)⟩; have n3_ : Aside0 (Below w.heap.size w w16) := ⟨by rw [← hq_]; exact bl_⟩; clear HO219 BK215 BK216 HB hq_; have HO219 := n0_; have BK215 := n1_; have BK216 := n2_; have HB := n3_; clear n0_ n1_ n2_ n3_)); have p225 : 0 ≤ (2 : Int) := (by omega); have q225 : 2 < (t217.length : Int) := od_; obtain ⟨ad225, e225, hx225_0⟩ := Kd.at_string (Kd.R_reads' HO219.out).2.2 2 p225 q225; obtain rfl : ad221 = ad225 := (by injection e225); (try simp only [show (2 : Int).toNat = 2 from rfl, Nat.reduceMul, Nat.reduceEqDiff, Go.Addr.add, ↓reduceIte] at hx225_0); have qi225 : (2 < t217.length) = True := eq_true (by omega); (try rw [show ((2 : Int)).toNat = 2 from rfl] at hx225_0); replace p225 := eq_true p225; replace q225 := eq_true q225) | ((with_reducible refine gate_callee (f := 62) rfl ?_); refine gl_ 34 Tryd.func62 #[.string (rdOf ByteArray.empty t217 2), .int .i64 1, .int .i64 999999] ?_ rfl rfl rfl rfl; (with_reducible refine (F62.calls k (rdOf ByteArray.empty t217 2) 1 999999 t226 t227 _ ?s1 A11.out).mono ?_); (case s1 => exact au3_26); rintro e w18 ⟨rfl, hb⟩; refine ⟨_, rfl, ?_⟩; replace HO219 := am_ (Kd.R_below (rk_ HO219) hb); replace BK215 := bb_ BK215 hb; replace BK216 := bb_ BK216 hb; replace HB := hs_ w hb; (try clear hb)))
 replace HO219 := am_ (Kd.R_drew HO219.out)
 replace BK215 := bd_ BK215
 replace BK216 := bd_ BK216
 replace HB := am_ (below_drew1 HB.out)
 have p228 : 0 ≤ (0 : Int) := (by omega)
 have q228 : 0 < (t217.length : Int) := od_
 obtain ⟨ad228, e228, hx228_0⟩ := Kd.at_string (Kd.R_reads' HO219.out).2.2 0 p228 q228
 obtain rfl : ad221 = ad228 := (by injection e228)
 have qi228 : (0 < t217.length) = True := eq_true (by omega)
 (try rw [show ((0 : Int)).toNat = 0 from rfl] at hx228_0)
 (try rw [Addr.add_zero'] at hx228_0)
 replace p228 := eq_true p228
 replace q228 := eq_true q228
 have p229 : 0 ≤ (1 : Int) := (by omega)
 have q229 : 1 < (t217.length : Int) := od_
 obtain ⟨ad229, e229, hx229_0⟩ := Kd.at_string (Kd.R_reads' HO219.out).2.2 1 p229 q229
 obtain rfl : ad221 = ad229 := (by injection e229)
 (try simp only [show (1 : Int).toNat = 1 from rfl, Nat.reduceMul, Nat.reduceEqDiff, Go.Addr.add, ↓reduceIte] at hx229_0)
 have qi229 : (1 < t217.length) = True := eq_true (by omega)
 (try rw [show ((1 : Int)).toNat = 1 from rfl] at hx229_0)
 replace p229 := eq_true p229
 replace q229 := eq_true q229
 refine start_ (n := 11) (S := fun w' => w'.cell? ad221 = some (.string (rdOf ByteArray.empty t217 0)) ∧ w'.cell? ⟨ad221.block, ad221.off + 1, none⟩ = some (.string (rdOf ByteArray.empty t217 1))) (ds := []) (bs 11 0) (by kernel_rfl) rfl rfl ⟨hx228_0, hx229_0⟩ (fun hHeld => ?_); refine with_tabW F38.tab5 F38.bits5 (fun HT_ HW_ => ?_)
 generalize w18.drew = w19 at HO219 BK215 BK216 HB hx228_0 hx229_0 hHeld ⊢
 refine pu_ 0 37 (bs 11 1) HT_ ?_ rfl rfl
 refine pu_ 1 38 (bs 11 3) HT_ ?_ rfl rfl
 refine pu_ 3 40 (bs 11 11) HT_ ?_ rfl rfl
 refine pu_ 4 41 (bs 11 27) HT_ ?_ rfl rfl
 refine pu_ 6 43 (bs 11 91) HT_ ?_ rfl rfl
 refine pu_ 8 45 (bs 11 347) HT_ ?_ rfl rfl
 refine tk_ 2 39 (bs 11 351) HT_ HW_ hHeld au3_10 ?_ rfl rfl
 refine tk_ 5 42 (bs 11 383) HT_ HW_ hHeld au3_10 ?_ rfl rfl
 refine pu_ 7 44 (bs 11 511) HT_ ?_ rfl rfl
 refine one_ (i := 9) (N := none) (bs 11 1023) rfl rfl (one_of HT_.out (by kernel_rfl)) (by decide) (fun K hK => ?_)
 have hs20 : w19.cell? ⟨gb216, 0, none⟩ = some (.string (⟨#[]⟩ : ByteArray)) := (blk_cell BK216.out 0).trans rfl
 have hfs20 := blk_frozen BK216.out 0
 have hns20_0 := NB215_216.out
 have hms20_0 := NB216_215.out
 have hs21 : w19.cell? ⟨gb216, 1, none⟩ = some (.string (⟨#[]⟩ : ByteArray)) := (blk_cell BK216.out 1).trans rfl
 have hfs21 := blk_frozen BK216.out 1
 have hns21_0 := NB215_216.out
 have hms21_0 := NB216_215.out
 have hs22 : w19.cell? ⟨gb216, 2, none⟩ = some (.int .i64 0) := (blk_cell BK216.out 2).trans rfl
 have hfs22 := blk_frozen BK216.out 2
 have hns22_0 := NB215_216.out
 have hms22_0 := NB216_215.out
 have hs23 : w19.cell? ⟨gb216, 3, none⟩ = some (.slice none 0 0) := (blk_cell BK216.out 3).trans rfl
 have hfs23 := blk_frozen BK216.out 3
 have hns23_0 := NB215_216.out
 have hms23_0 := NB216_215.out
 refine skip_ (w1 := ?_) (by rfl) rfl ?_ ?_
 rotate_left
 ·go_simp
  rfl
 refine hK.out _ _ ⟨((cell_far (p := ⟨gb216, _, none⟩) au3_1 _).trans (((cell_far (p := ⟨gb216, _, none⟩) au3_1 _).trans (((cell_far (p := ⟨gb216, _, none⟩) au3_1 _).trans (((cell_far (p := ⟨gb216, _, none⟩) au3_1 _).trans (hHeld.1)))))))), ((cell_far (p := ⟨gb216, _, none⟩) au3_1 _).trans (((cell_far (p := ⟨gb216, _, none⟩) au3_1 _).trans (((cell_far (p := ⟨gb216, _, none⟩) au3_1 _).trans (((cell_far (p := ⟨gb216, _, none⟩) au3_1 _).trans (hHeld.2))))))))⟩ (fun hHeld => ?_)
 clear hK K
 refine pu_ 10 3 (bs 11 2047) HT_ ?_ rfl rfl
 refine done_ (done_of HT_.out (by kernel_rfl)) ?_
 try go_wp2
 refine bodyPost_ret (results_ct rfl _ _ gb216 29 #[.string (rdOf ByteArray.empty t217 0), .string (rdOf ByteArray.empty t217 1), .int .i64 t226, .slice none 0 0] (0, 0) _ rfl (bq_ BK216) Tryd.underlying29 rfl (by kernel_rfl)) rfl ?_
 exact ⟨_, au3_0, au3_5, bl_⟩
/-! ### F14: function 14 -/
def F14.f (k : Nat) (l0 : List (S52)) : Option (ByteArray × ByteArray × Int × (List (S83)) × Bool × Int × Int) := (F37.f l0).bind fun t231 => (if t231 = true then (some ((⟨#[]⟩ : ByteArray), (⟨#[]⟩ : ByteArray), 0, ([] : List (S83)), false, 0, 2)) else (if (l0.length : Int) = 0 then (some ((⟨#[]⟩ : ByteArray), (⟨#[]⟩ : ByteArray), 0, ([] : List (S83)), false, 0, 6)) else (if 0 < (l0.length : Int) then ((F38.f k ((rd_T52 l0 0).f0) ((rd_T52 l0 0).f1)).bind fun bt233 => (if bt233.2.2.2.2 = true then (some (bt233.1, bt233.2.1, bt233.2.2.1, bt233.2.2.2.1, true, 0, 0)) else (some ((⟨#[]⟩ : ByteArray), (⟨#[]⟩ : ByteArray), 0, ([] : List (S83)), false, 0, 3)))) else (none))))
theorem F14.mono : ∀ a0 k, LeO (F14.f k a0) (F14.f (k + 1) a0) := by
 intro a0 k
 unfold F14.f
 repeat' with_reducible first | exact F38.mono _ _ _ | exact LeO.refl _ | exact LeO.none _ | refine LeO.ite ?_ ?_ | refine LeO.bind ?_ (fun _ => ?_)
theorem F14.calls (k : Nat) (A0 : Option Addr) (c0 : Nat) (l0 : List (S52)) (r1 : ByteArray) (r2 : ByteArray) (r3 : Int) (r4 : List (S83)) (r5 : Bool) (r6 : Int) (r7 : Int) (w : World) (hr0 : Kd.C k52 w A0 l0.length l0) (hc0 : l0.length ≤ c0) (hT : LaidT true Tryd.prog w) (h : F14.f k l0 = some (r1, r2, r3, r4, r5, r6, r7)) :
  Calls Tryd.prog 14 #[.slice A0 l0.length c0] w fun e w' => ∃ v3_ : Value, e = .returned (.agg #[.string r1, .string r2, .int .i64 r3, v3_, .bool r5, .int .i64 r6, .int .i64 r7]) ∧ Kd.S k83 83 w' w.heap.size (fun _ => True) v3_ r4 ∧ Below w.heap.size w w' := by
 have hu36 := Tryd.underlying36
 have hu52 := Tryd.underlying52
 have hu29 := Tryd.underlying29
 have HR0 := am_ hr0
 have HC0 := am_ hc0
 clear hr0 hc0
 have HZT := am_ hT
 clear hT
 have HB := am_ (Below.refl w.heap.size w)
 have H : ((F37.f l0).bind fun t231 => (if t231 = true then (some ((⟨#[]⟩ : ByteArray), (⟨#[]⟩ : ByteArray), 0, ([] : List (S83)), false, 0, 2)) else (if (l0.length : Int) = 0 then (some ((⟨#[]⟩ : ByteArray), (⟨#[]⟩ : ByteArray), 0, ([] : List (S83)), false, 0, 6)) else (if 0 < (l0.length : Int) then ((F38.f k ((rd_T52 l0 0).f0) ((rd_T52 l0 0).f1)).bind fun bt233 => (if bt233.2.2.2.2 = true then (some (bt233.1, bt233.2.1, bt233.2.2.1, bt233.2.2.2.1, true, 0, 0)) else (some ((⟨#[]⟩ : ByteArray), (⟨#[]⟩ : ByteArray), 0, ([] : List (S83)), false, 0, 3)))) else (none))))) = some (r1, r2, r3, r4, r5, r6, r7) := h
 clear h
 replace H := bi_ H; rcases H with ⟨t231, A2, H⟩
 replace H := ib_ H; rcases H with ⟨rfl, H⟩ | ⟨rfl, H⟩
 ·simp only [Option.some.injEq, Prod.mk.injEq] at H
  obtain ⟨rfl, rfl, rfl, rfl, rfl, rfl, rfl⟩ := H
  go_enter Tryd.func14, Tryd.ntmps14
  go_wp2_with (first | ((with_reducible refine gate_dst (N := 2) rfl ?_); refine be_ 2 #[.string (⟨#[]⟩ : ByteArray), .string (⟨#[]⟩ : ByteArray), .int .i64 0, .slice none 0 0, .bool false, .int .i64 0, .int .i64 0] 36 ?_; intro gb230 hg w4 hbox hb; have BK230 := am_ (hbox); have GW230 := am_ (gw_ hg bl_); have GE230 := GW230; replace HB := hs_ w hb; clear hb hbox hg) | ((with_reducible refine gate_callee (f := 37) rfl ?_); refine gl_ 7 Tryd.func37 #[.slice A0 l0.length c0] ?_ rfl rfl rfl rfl; (with_reducible refine (F37.calls _ _ l0 true _ ?s1 ?s2 A2.out).mono ?_); (case s1 => exact au3_7); (case s2 => exact HC0.out); rintro e w' ⟨rfl, ⟨nd, rfl⟩⟩; refine ⟨_, rfl, ?_⟩; (try (rw [drewN_self w4]; generalize hq_ : World.drewN w4 _ = w4; have n0_ : Aside0 (w4.heap[gb230]? = some (.cells #[.string (⟨#[]⟩ : ByteArray), .string (⟨#[]⟩ : ByteArray), .int .i64 0, .slice none 0 0, .bool false, .int .i64 0, .int .i64 0] 36 (0, 0))) := ⟨by rw [← hq_]; exact (bk_ BK230)⟩; have n1_ : Aside0 (Below w.heap.size w w4) := ⟨by rw [← hq_]; exact bl_⟩; clear BK230 HB hq_; have BK230 := n0_; have HB := n1_; clear n0_ n1_)); obtain ⟨hcz5_0, hcz5_1, hcz5_2, hcz5_3, hcz5_4, hcz5_5, hcz5_6, hfz5_0, hfz5_1, hfz5_2, hfz5_3, hfz5_4, hfz5_5, hfz5_6⟩ := cellsF7 BK230.out))
  refine bodyPost_ret (results_cell_row rfl _ _ gb230 36 #[.string (⟨#[]⟩ : ByteArray), .string (⟨#[]⟩ : ByteArray), .int .i64 0, .slice none 0 0, .bool false, .int .i64 0, .int .i64 2] (0, 0) _ rfl (bq_ BK230) Tryd.underlying36 rfl (by kernel_rfl)) rfl ?_
  exact ⟨_, au3_0, au3_5, bl_⟩
 by_cases c6 : (l0.length : Int) = 0
 ·rw [if_pos c6] at H
  have c6b0 : ((l0.length : Int) == 0) = true := beq_iff_eq.mpr c6
  have c6b1 : ((l0.length : Int) != 0) = false := bne_eq_false_iff_eq.mpr c6
  clear c6
  simp only [Option.some.injEq, Prod.mk.injEq] at H
  obtain ⟨rfl, rfl, rfl, rfl, rfl, rfl, rfl⟩ := H
  go_enter Tryd.func14, Tryd.ntmps14
  go_wp2_with (first | ((with_reducible refine gate_dst (N := 2) rfl ?_); refine be_ 2 #[.string (⟨#[]⟩ : ByteArray), .string (⟨#[]⟩ : ByteArray), .int .i64 0, .slice none 0 0, .bool false, .int .i64 0, .int .i64 0] 36 ?_; intro gb230 hg w7 hbox hb; have BK230 := am_ (hbox); have GW230 := am_ (gw_ hg bl_); have GE230 := GW230; replace HB := hs_ w hb; clear hb hbox hg) | ((with_reducible refine gate_callee (f := 37) rfl ?_); refine gl_ 7 Tryd.func37 #[.slice A0 l0.length c0] ?_ rfl rfl rfl rfl; (with_reducible refine (F37.calls _ _ l0 false _ ?s1 ?s2 A2.out).mono ?_); (case s1 => exact au3_7); (case s2 => exact HC0.out); rintro e w' ⟨rfl, ⟨nd, rfl⟩⟩; refine ⟨_, rfl, ?_⟩; (try (rw [drewN_self w7]; generalize hq_ : World.drewN w7 _ = w7; have n0_ : Aside0 (w7.heap[gb230]? = some (.cells #[.string (⟨#[]⟩ : ByteArray), .string (⟨#[]⟩ : ByteArray), .int .i64 0, .slice none 0 0, .bool false, .int .i64 0, .int .i64 0] 36 (0, 0))) := ⟨by rw [← hq_]; exact (bk_ BK230)⟩; have n1_ : Aside0 (Below w.heap.size w w7) := ⟨by rw [← hq_]; exact bl_⟩; clear BK230 HB hq_; have BK230 := n0_; have HB := n1_; clear n0_ n1_)); obtain ⟨hcz8_0, hcz8_1, hcz8_2, hcz8_3, hcz8_4, hcz8_5, hcz8_6, hfz8_0, hfz8_1, hfz8_2, hfz8_3, hfz8_4, hfz8_5, hfz8_6⟩ := cellsF7 BK230.out))
  refine bodyPost_ret (results_cell_row rfl _ _ gb230 36 #[.string (⟨#[]⟩ : ByteArray), .string (⟨#[]⟩ : ByteArray), .int .i64 0, .slice none 0 0, .bool false, .int .i64 0, .int .i64 6] (0, 0) _ rfl (bq_ BK230) Tryd.underlying36 rfl (by kernel_rfl)) rfl ?_
  exact ⟨_, au3_0, au3_5, bl_⟩
 rw [if_neg c6] at H
 have c6b0 : ((l0.length : Int) == 0) = false := beq_eq_false_iff_ne.mpr c6
 have c6b1 : ((l0.length : Int) != 0) = true := bne_iff_ne.mpr c6
 have c6b2 : ¬ (l0 = []) := fun h_ => c6 (by rw [h_]; rfl)
 by_cases c9 : 0 < (l0.length : Int)
 rotate_left
 ·rw [if_neg c9] at H
  exact absurd H (by simp)

 rw [if_pos c9] at H
 have c9b0 : decide (0 < (l0.length : Int)) = true := decide_eq_true c9
 have c9b1 : decide (0 < l0.length) = true := decide_eq_true (by omega)
 clear c9
 replace H := bi_ H; rcases H with ⟨⟨t233, t234, t235, t236, t239⟩, A10, H⟩
 replace H := ib_ H; rcases H with ⟨rfl, H⟩ | ⟨rfl, H⟩
 rotate_left
 ·simp only [Option.some.injEq, Prod.mk.injEq] at H
  obtain ⟨rfl, rfl, rfl, rfl, rfl, rfl, rfl⟩ := H
  go_enter Tryd.func14, Tryd.ntmps14
  go_wp2_with (first | ((with_reducible refine gate_dst (N := 2) rfl ?_); refine be_ 2 #[.string (⟨#[]⟩ : ByteArray), .string (⟨#[]⟩ : ByteArray), .int .i64 0, .slice none 0 0, .bool false, .int .i64 0, .int .i64 0] 36 ?_; intro gb230 hg w19 hbox hb; have BK230 := am_ (hbox); have GW230 := am_ (gw_ hg bl_); have GE230 := GW230; replace HB := hs_ w hb; clear hb hbox hg) | ((with_reducible refine gate_callee (f := 37) rfl ?_); refine gl_ 7 Tryd.func37 #[.slice A0 l0.length c0] ?_ rfl rfl rfl rfl; (with_reducible refine (F37.calls _ _ l0 false _ ?s1 ?s2 A2.out).mono ?_); (case s1 => exact au3_7); (case s2 => exact HC0.out); rintro e w' ⟨rfl, ⟨nd, rfl⟩⟩; refine ⟨_, rfl, ?_⟩; (try (rw [drewN_self w19]; generalize hq_ : World.drewN w19 _ = w19; have n0_ : Aside0 (w19.heap[gb230]? = some (.cells #[.string (⟨#[]⟩ : ByteArray), .string (⟨#[]⟩ : ByteArray), .int .i64 0, .slice none 0 0, .bool false, .int .i64 0, .int .i64 0] 36 (0, 0))) := ⟨by rw [← hq_]; exact (bk_ BK230)⟩; have n1_ : Aside0 (Below w.heap.size w w19) := ⟨by rw [← hq_]; exact bl_⟩; clear BK230 HB hq_; have BK230 := n0_; have HB := n1_; clear n0_ n1_)); have p232 : 0 ≤ (0 : Int) := (by omega); have q232 : 0 < (l0.length : Int) := od_; obtain ⟨ad232, A232_1, c232_1, e232, hx232_0, hx232_1, hl232_1, hi232_1⟩ := at_T52 HR0.out 0 p232 q232; cases e232; have qi232 : (0 < l0.length) = True := eq_true (by omega); (try rw [show ((0 : Int)).toNat = 0 from rfl] at hx232_0); (try rw [show 0 * 2 = 0 from rfl] at hx232_0); (try rw [Addr.add_zero'] at hx232_0); (try rw [show ((0 : Int)).toNat = 0 from rfl] at hx232_1); (try rw [show 0 * 2 = 0 from rfl] at hx232_1); (try rw [Addr.add_zero'] at hx232_1); replace hx232_0 := (HB.out.cell (World.block_lt_of_cell? _ _ hx232_0)).trans hx232_0; replace hx232_1 := (HB.out.cell (World.block_lt_of_cell? _ _ hx232_1)).trans hx232_1; have HR232_1 := am_ hi232_1; have HC232_1 := am_ hl232_1; clear hi232_1 hl232_1; replace p232 := eq_true p232; replace q232 := eq_true q232) | ((with_reducible refine gate_callee (f := 38) rfl ?_); refine gl_ 18 Tryd.func38 #[.agg #[.string ((rd_T52 l0 0).f0), .slice A232_1 ((rd_T52 l0 0).f1).length c232_1]] ?_ rfl rfl rfl rfl; (with_reducible refine (F38.calls k ((rd_T52 l0 0).f0) _ _ ((rd_T52 l0 0).f1) t233 t234 t235 t236 false _ ?s1 ?s2 ?s3 A10.out).mono ?_); (case s1 => exact au3_12); (case s2 => exact HC232_1.out); (case s3 => exact au3_26); rintro e w20 ⟨v237, rfl, ho0, hb⟩; refine ⟨_, rfl, ?_⟩; have HO238 := am_ (Kd.S_lower ho0 (below_size bl_)); replace BK230 := bb_ BK230 hb; replace HB := hs_ w hb; (try clear hb); (try clear ho0)) | ((with_reducible refine gate_dst (N := 3) rfl ?_); refine be_ 3 #[.string (⟨#[]⟩ : ByteArray), .string (⟨#[]⟩ : ByteArray), .int .i64 0, .slice none 0 0] 29 ?_; intro gb240 hg w21 hbox hb; replace HO238 := am_ (Kd.S_below au3_27 hb); have BK240 := am_ (hbox); have GW240 := am_ (gw_ hg bl_); have GE240 := GW240; replace HB := hs_ w hb; have NB230_240 := am_ (gn_ hg (blkl_ BK230)); have NB240_230 := am_ (gm_ hg (blkl_ BK230)); replace BK230 := bb_ BK230 hb; clear hb hbox hg; have hnb22 := NB240_230.out; have hnc22 := NB230_240.out; obtain ⟨hcz23_0, hcz23_1, hcz23_2, hcz23_3, hfz23_0, hfz23_1, hfz23_2, hfz23_3⟩ := cellsF4 BK240.out; obtain ⟨Ao24, co24, eo24⟩ := Kd.S_slice HO238.out; subst eo24; obtain ⟨hcz25_0, hcz25_1, hcz25_2, hcz25_3, hcz25_4, hcz25_5, hcz25_6, hfz25_0, hfz25_1, hfz25_2, hfz25_3, hfz25_4, hfz25_5, hfz25_6⟩ := cellsF7 BK230.out))
  refine bodyPost_ret (results_cell_row rfl _ _ gb230 36 #[.string (⟨#[]⟩ : ByteArray), .string (⟨#[]⟩ : ByteArray), .int .i64 0, .slice none 0 0, .bool false, .int .i64 0, .int .i64 3] (0, 0) _ rfl (bq_ BK230) Tryd.underlying36 rfl (by kernel_rfl)) rfl ?_
  exact ⟨_, au3_0, au3_5, bl_⟩
 simp only [Option.some.injEq, Prod.mk.injEq] at H
 obtain ⟨rfl, rfl, rfl, rfl, rfl, rfl, rfl⟩ := H
 go_enter Tryd.func14, Tryd.ntmps14
 go_wp2_with (first | ((with_reducible refine gate_dst (N := 2) rfl ?_); refine be_ 2 #[.string (⟨#[]⟩ : ByteArray), .string (⟨#[]⟩ : ByteArray), .int .i64 0, .slice none 0 0, .bool false, .int .i64 0, .int .i64 0] 36 ?_; intro gb230 hg w12 hbox hb; have BK230 := am_ (hbox); have GW230 := am_ (gw_ hg bl_); have GE230 := GW230; replace HB := hs_ w hb; clear hb hbox hg) | ((with_reducible refine gate_callee (f := 37) rfl ?_); refine gl_ 7 Tryd.func37 #[.slice A0 l0.length c0] ?_ rfl rfl rfl rfl; (with_reducible refine (F37.calls _ _ l0 false _ ?s1 ?s2 A2.out).mono ?_); (case s1 => exact au3_7); (case s2 => exact HC0.out); rintro e w' ⟨rfl, ⟨nd, rfl⟩⟩; refine ⟨_, rfl, ?_⟩; (try (rw [drewN_self w12]; generalize hq_ : World.drewN w12 _ = w12; have n0_ : Aside0 (w12.heap[gb230]? = some (.cells #[.string (⟨#[]⟩ : ByteArray), .string (⟨#[]⟩ : ByteArray), .int .i64 0, .slice none 0 0, .bool false, .int .i64 0, .int .i64 0] 36 (0, 0))) := ⟨by rw [← hq_]; exact (bk_ BK230)⟩; have n1_ : Aside0 (Below w.heap.size w w12) := ⟨by rw [← hq_]; exact bl_⟩; clear BK230 HB hq_; have BK230 := n0_; have HB := n1_; clear n0_ n1_)); have p232 : 0 ≤ (0 : Int) := (by omega); have q232 : 0 < (l0.length : Int) := od_; obtain ⟨ad232, A232_1, c232_1, e232, hx232_0, hx232_1, hl232_1, hi232_1⟩ := at_T52 HR0.out 0 p232 q232; cases e232; have qi232 : (0 < l0.length) = True := eq_true (by omega); (try rw [show ((0 : Int)).toNat = 0 from rfl] at hx232_0); (try rw [show 0 * 2 = 0 from rfl] at hx232_0); (try rw [Addr.add_zero'] at hx232_0); (try rw [show ((0 : Int)).toNat = 0 from rfl] at hx232_1); (try rw [show 0 * 2 = 0 from rfl] at hx232_1); (try rw [Addr.add_zero'] at hx232_1); replace hx232_0 := (HB.out.cell (World.block_lt_of_cell? _ _ hx232_0)).trans hx232_0; replace hx232_1 := (HB.out.cell (World.block_lt_of_cell? _ _ hx232_1)).trans hx232_1; have HR232_1 := am_ hi232_1; have HC232_1 := am_ hl232_1; clear hi232_1 hl232_1; replace p232 := eq_true p232; replace q232 := eq_true q232) | ((with_reducible refine gate_callee (f := 38) rfl ?_); refine gl_ 18 Tryd.func38 #[.agg #[.string ((rd_T52 l0 0).f0), .slice A232_1 ((rd_T52 l0 0).f1).length c232_1]] ?_ rfl rfl rfl rfl; (with_reducible refine (F38.calls k ((rd_T52 l0 0).f0) _ _ ((rd_T52 l0 0).f1) t233 t234 t235 t236 true _ ?s1 ?s2 ?s3 A10.out).mono ?_); (case s1 => exact au3_12); (case s2 => exact HC232_1.out); (case s3 => exact au3_26); rintro e w13 ⟨v237, rfl, ho0, hb⟩; refine ⟨_, rfl, ?_⟩; have HO238 := am_ (Kd.S_lower ho0 (below_size bl_)); replace BK230 := bb_ BK230 hb; replace HB := hs_ w hb; (try clear hb); (try clear ho0)) | ((with_reducible refine gate_dst (N := 3) rfl ?_); refine be_ 3 #[.string (⟨#[]⟩ : ByteArray), .string (⟨#[]⟩ : ByteArray), .int .i64 0, .slice none 0 0] 29 ?_; intro gb240 hg w14 hbox hb; replace HO238 := am_ (Kd.S_below au3_27 hb); have BK240 := am_ (hbox); have GW240 := am_ (gw_ hg bl_); have GE240 := GW240; replace HB := hs_ w hb; have NB230_240 := am_ (gn_ hg (blkl_ BK230)); have NB240_230 := am_ (gm_ hg (blkl_ BK230)); replace BK230 := bb_ BK230 hb; clear hb hbox hg; have hnb15 := NB240_230.out; have hnc15 := NB230_240.out; obtain ⟨hcz16_0, hcz16_1, hcz16_2, hcz16_3, hfz16_0, hfz16_1, hfz16_2, hfz16_3⟩ := cellsF4 BK240.out; obtain ⟨Ao17, co17, eo17⟩ := Kd.S_slice HO238.out; subst eo17; obtain ⟨hcz18_0, hcz18_1, hcz18_2, hcz18_3, hcz18_4, hcz18_5, hcz18_6, hfz18_0, hfz18_1, hfz18_2, hfz18_3, hfz18_4, hfz18_5, hfz18_6⟩ := cellsF7 BK230.out))
 refine bodyPost_ret (results_cell_row rfl _ _ gb230 36 #[.string t233, .string t234, .int .i64 t235, .slice Ao17 t236.length co17, .bool true, .int .i64 0, .int .i64 0] (0, 0) _ rfl (bq_ BK230) Tryd.underlying36 rfl (by kernel_rfl)) rfl ?_
 exact ⟨_, au3_0, by (with_reducible repeat (first | apply Kd.S_alloc | apply Kd.S_drewN | apply Kd.S_drew)); exact Kd.S_mono (Kd.S_far (p := ⟨gb230, 6, none⟩) (Kd.S_far (p := ⟨gb230, 5, none⟩) (Kd.S_far (p := ⟨gb230, 4, none⟩) (Kd.S_far (p := ⟨gb230, 3, none⟩) (Kd.S_far (p := ⟨gb230, 2, none⟩) (Kd.S_far (p := ⟨gb230, 1, none⟩) (Kd.S_far (p := ⟨gb230, 0, none⟩) (Kd.S_far (p := ⟨gb240, 3, none⟩) (Kd.S_far (p := ⟨gb240, 2, none⟩) (Kd.S_far (p := ⟨gb240, 1, none⟩) (Kd.S_far (p := ⟨gb240, 0, none⟩) (Kd.S_types (Kd.S_types HO238.out BK240.out (by decide)) BK230.out (by decide)) (fun _ hk => hk.1.2) (.string t233)) (fun _ hk => hk.1.2) (.string t234)) (fun _ hk => hk.1.2) (.int .i64 t235)) (fun _ hk => hk.1.2) (.slice Ao17 t236.length co17)) (fun _ hk => hk.2) (.string t233)) (fun _ hk => hk.2) (.string t234)) (fun _ hk => hk.2) (.int .i64 t235)) (fun _ hk => hk.2) (.slice Ao17 t236.length co17)) (fun _ hk => hk.2) (.bool true)) (fun _ hk => hk.2) (.int .i64 0)) (fun _ hk => hk.2) (.int .i64 0)) (fun _ hk => trivial), bl_⟩
/-! ### F119: function 119 -/
def F119.l0 : Nat → List ByteArray → List ByteArray → Int → Option (Bool)
  | 0, _, _, _ => none
  | k + 1, x0, x1, x5 => if x5 < (x0.length : Int) then (if 0 ≤ x5 then (if x5 < (x1.length : Int) then (if (rdOf ByteArray.empty x0 x5).toList = (rdOf ByteArray.empty x1 x5).toList then (F119.l0 k x0 x1 (wrap64 (x5 + 1))) else (some false)) else (none)) else (none)) else (some true)
def F119.f (k : Nat) (l0 : List ByteArray) (l1 : List ByteArray) : Option (Bool) := if (l0.length : Int) = (l1.length : Int) then (F119.l0 k l0 l1 0) else (some false)
theorem F119.mono_l : ∀ k, (∀ y0 y1 y2, LeO (F119.l0 k y0 y1 y2) (F119.l0 (k + 1) y0 y1 y2))
 | 0 => fun _ _ _ r h => by simp [F119.l0] at h
 | k + 1 => by
  have ih0 := F119.mono_l k
  intro y0 y1 y2
  unfold F119.l0
  repeat' with_reducible first | exact ih0 _ _ _ | exact LeO.refl _ | exact LeO.none _ | refine LeO.ite ?_ ?_ | refine LeO.bind ?_ (fun _ => ?_)
theorem F119.mono : ∀ a0 a1 k, LeO (F119.f k a0 a1) (F119.f (k + 1) a0 a1) := by
 intro a0 a1 k
 have ih0 := F119.mono_l k
 unfold F119.f
 repeat' with_reducible first | exact ih0 _ _ _ | exact LeO.refl _ | exact LeO.none _ | refine LeO.ite ?_ ?_ | refine LeO.bind ?_ (fun _ => ?_)
theorem F119.calls (k : Nat) (A0 : Option Addr) (c0 : Nat) (l0 : List ByteArray) (A1 : Option Addr) (c1 : Nat) (l1 : List ByteArray) (r : Bool) (w : World) (hr0 : Kd.C Kd.string w A0 l0.length l0) (hc0 : l0.length ≤ c0) (hr1 : Kd.C Kd.string w A1 l1.length l1) (hc1 : l1.length ≤ c1) (h : F119.f k l0 l1 = some r) :
  Calls Tryd.prog 119 #[.slice A0 l0.length c0, .slice A1 l1.length c1] w fun e w' => e = .returned (.bool r) ∧ Drawn0 w w' := by
 have HR0 := am_ hr0
 have HC0 := am_ hc0
 clear hr0 hc0
 have HR1 := am_ hr1
 have HC1 := am_ hc1
 clear hr1 hc1
 have H : (if (l0.length : Int) = (l1.length : Int) then (F119.l0 k l0 l1 0) else (some false)) = some r := h
 clear h
 by_cases c3 : (l0.length : Int) = (l1.length : Int)
 rotate_left
 ·rw [if_neg c3] at H
  have c3b0 : ((l0.length : Int) == (l1.length : Int)) = false := beq_eq_false_iff_ne.mpr c3
  have c3b1 : ((l0.length : Int) != (l1.length : Int)) = true := bne_iff_ne.mpr c3
  have c3b2 : (l0.length == l1.length) = false := by first | simpa using c3 | (simp at c3 ⊢; omega)
  obtain rfl := Option.some.inj H
  go_enter Tryd.func119, Tryd.ntmps119
  go_wp2
  repeat (go_quiet (fail); try go_wp2)
  go_ret
  exact ⟨er_, dn_⟩

 rw [if_pos c3] at H
 have c3b0 : ((l0.length : Int) == (l1.length : Int)) = true := beq_iff_eq.mpr c3
 have c3b1 : ((l0.length : Int) != (l1.length : Int)) = false := bne_eq_false_iff_eq.mpr c3
 have c3b2 : (l0.length == l1.length) = true := by first | simpa using c3 | (simp at c3 ⊢; omega)
 clear c3
 have H' := am_ H
 clear H
 go_enter Tryd.func119, Tryd.ntmps119
 go_wp2
 repeat (go_quiet (fail); try go_wp2)
 go_loopg [5] k (fun kq v5 w' => ∃ (x5_1 : Int), v5 = .int .i64 x5_1 ∧ Aside0 (F119.l0 kq l0 l1 x5_1 = some r) ∧ Aside0 (kq ≤ k) ∧ Drawn0 w w')
 case atStart => exact ⟨(0), er_, H', ⟨Nat.le_refl _⟩, dn_⟩
 case round =>
  clear H'
  try clear c1
  try clear c3
  try clear c3b0
  try clear c3b1
  try clear c3b2
  obtain ⟨x5_1, rfl, HA, HK1, ⟨m1, rfl⟩⟩ := hrel
  cases gk with
  | zero => exact absurd HA.out (by simp [F119.l0])
  | succ k1 =>
   have H := HA.out
   clear HA
   simp only [F119.l0] at H
   replace H := it_ H; rcases H with ⟨c4b0, H⟩ | ⟨c4b0, H⟩
   rotate_left
   ·obtain rfl := Option.some.inj H
    go_wp2
    repeat (go_quiet (fail); try go_wp2)
    go_ret
    exact ⟨er_, dn_⟩
   replace H := itn_ H; rcases H with ⟨c5b0, H⟩
   replace H := itn_ H; rcases H with ⟨c6b0, H⟩
   by_cases c7 : (rdOf ByteArray.empty l0 x5_1).toList = (rdOf ByteArray.empty l1 x5_1).toList
   rotate_left
   ·rw [if_neg c7] at H
    have c7b0 : ((rdOf ByteArray.empty l0 x5_1).toList == (rdOf ByteArray.empty l1 x5_1).toList) = false := beq_eq_false_iff_ne.mpr c7
    have c7b1 : ((rdOf ByteArray.empty l0 x5_1).toList != (rdOf ByteArray.empty l1 x5_1).toList) = true := bne_iff_ne.mpr c7
    obtain rfl := Option.some.inj H
    have p241 : 0 ≤ (x5_1 : Int) := od_
    have q241 : x5_1 < (l0.length : Int) := od_
    obtain ⟨ad241, e241, hx241_0⟩ := Kd.at_string HR0.out x5_1 p241 q241
    cases e241
    replace p241 := eq_true p241
    replace q241 := eq_true q241
    have p242 : 0 ≤ (x5_1 : Int) := od_
    have q242 : x5_1 < (l1.length : Int) := od_
    obtain ⟨ad242, e242, hx242_0⟩ := Kd.at_string HR1.out x5_1 p242 q242
    cases e242
    replace p242 := eq_true p242
    replace q242 := eq_true q242
    go_wp2
    repeat (go_quiet (fail); try go_wp2)
    go_ret
    exact ⟨er_, dn_⟩
   rw [if_pos c7] at H
   have c7b0 : ((rdOf ByteArray.empty l0 x5_1).toList == (rdOf ByteArray.empty l1 x5_1).toList) = true := beq_iff_eq.mpr c7
   have c7b1 : ((rdOf ByteArray.empty l0 x5_1).toList != (rdOf ByteArray.empty l1 x5_1).toList) = false := bne_eq_false_iff_eq.mpr c7
   clear c7
   have H' := am_ H
   clear H
   have p241 : 0 ≤ (x5_1 : Int) := od_
   have q241 : x5_1 < (l0.length : Int) := od_
   obtain ⟨ad241, e241, hx241_0⟩ := Kd.at_string HR0.out x5_1 p241 q241
   cases e241
   replace p241 := eq_true p241
   replace q241 := eq_true q241
   have p242 : 0 ≤ (x5_1 : Int) := od_
   have q242 : x5_1 < (l1.length : Int) := od_
   obtain ⟨ad242, e242, hx242_0⟩ := Kd.at_string HR1.out x5_1 p242 q242
   cases e242
   replace p242 := eq_true p242
   replace q242 := eq_true q242
   go_wp2
   repeat (go_quiet (fail); try go_wp2)
   go_roundg k1
   case measure => have := HK1.out; omega
   case rel => exact ⟨(wrap64 (x5_1 + 1)), er_, H', ⟨by have := HK1.out; omega⟩, dn_⟩
/-! ### F97: function 97 -/
def F97.f (k : Nat) (l0_0 : List ByteArray) (l1_0 : List ByteArray) : Option (Bool) := (F119.f k l0_0 l1_0).bind fun t245 => (if t245 = true then (some true) else (some false))
theorem F97.mono : ∀ a0 a1 k, LeO (F97.f k a0 a1) (F97.f (k + 1) a0 a1) := by
 intro a0 a1 k
 unfold F97.f
 repeat' with_reducible first | exact F119.mono _ _ _ | exact LeO.refl _ | exact LeO.none _ | refine LeO.ite ?_ ?_ | refine LeO.bind ?_ (fun _ => ?_)
theorem F97.calls (k : Nat) (A0_0 : Option Addr) (c0_0 : Nat) (l0_0 : List ByteArray) (A1_0 : Option Addr) (c1_0 : Nat) (l1_0 : List ByteArray) (r : Bool) (w : World) (hr0_0 : Kd.C Kd.string w A0_0 l0_0.length l0_0) (hc0_0 : l0_0.length ≤ c0_0) (hr1_0 : Kd.C Kd.string w A1_0 l1_0.length l1_0) (hc1_0 : l1_0.length ≤ c1_0) (h : F97.f k l0_0 l1_0 = some r) :
  Calls Tryd.prog 97 #[.agg #[.slice A0_0 l0_0.length c0_0], .agg #[.slice A1_0 l1_0.length c1_0]] w fun e w' => e = .returned (.bool r) ∧ Below w.heap.size w w' := by
 have hu55 := Tryd.underlying55
 have HR0_0 := am_ hr0_0
 have HC0_0 := am_ hc0_0
 clear hr0_0 hc0_0
 have HR1_0 := am_ hr1_0
 have HC1_0 := am_ hc1_0
 clear hr1_0 hc1_0
 have HB := am_ (Below.refl w.heap.size w)
 have H : ((F119.f k l0_0 l1_0).bind fun t245 => (if t245 = true then (some true) else (some false))) = some r := h
 clear h
 replace H := bi_ H; rcases H with ⟨t245, A3, H⟩
 replace H := ib_ H; rcases H with ⟨rfl, H⟩ | ⟨rfl, H⟩
 ·obtain rfl := Option.some.inj H
  go_enter Tryd.func97, Tryd.ntmps97
  go_wp2_with (first | ((with_reducible refine gate_dst (N := 2) rfl ?_); refine be_ 2 #[.slice A0_0 l0_0.length c0_0] 55 ?_; intro gb243 hg w5 hbox hb; have BK243 := am_ (hbox); have GW243 := am_ (gw_ hg bl_); have GE243 := GW243; replace HB := hs_ w hb; clear hb hbox hg) | ((with_reducible refine gate_dst (N := 3) rfl ?_); refine be_ 3 #[.slice A1_0 l1_0.length c1_0] 55 ?_; intro gb244 hg w6 hbox hb; have BK244 := am_ (hbox); have GW244 := am_ (gw_ hg bl_); have GE244 := GW244; replace HB := hs_ w hb; have NB243_244 := am_ (gn_ hg (blkl_ BK243)); have NB244_243 := am_ (gm_ hg (blkl_ BK243)); replace BK243 := bb_ BK243 hb; clear hb hbox hg; have hnb7 := NB243_244.out; have hnc7 := NB244_243.out; have hcz8_0 : w6.cell? ⟨gb243, 0, none⟩ = some (.slice A0_0 l0_0.length c0_0) := (blk_cell BK243.out 0).trans rfl; have hfz8_0 := blk_frozen BK243.out 0; have hcz9_0 : w6.cell? ⟨gb244, 0, none⟩ = some (.slice A1_0 l1_0.length c1_0) := (blk_cell BK244.out 0).trans rfl; have hfz9_0 := blk_frozen BK244.out 0) | ((with_reducible refine gate_callee (f := 119) rfl ?_); refine gl_ 9 Tryd.func119 #[.slice A0_0 l0_0.length c0_0, .slice A1_0 l1_0.length c1_0] ?_ rfl rfl rfl rfl; (with_reducible refine (F119.calls k _ _ l0_0 _ _ l1_0 true _ ?s1 ?s2 ?s3 ?s4 A3.out).mono ?_); (case s1 => exact au3_21); (case s2 => exact HC0_0.out); (case s3 => exact au3_22); (case s4 => exact HC1_0.out); rintro e w' ⟨rfl, ⟨nd, rfl⟩⟩; refine ⟨_, rfl, ?_⟩))
  go_ret
  exact ⟨au3_0, bl_⟩
 obtain rfl := Option.some.inj H
 go_enter Tryd.func97, Tryd.ntmps97
 go_wp2_with (first | ((with_reducible refine gate_dst (N := 2) rfl ?_); refine be_ 2 #[.slice A0_0 l0_0.length c0_0] 55 ?_; intro gb243 hg w10 hbox hb; have BK243 := am_ (hbox); have GW243 := am_ (gw_ hg bl_); have GE243 := GW243; replace HB := hs_ w hb; clear hb hbox hg) | ((with_reducible refine gate_dst (N := 3) rfl ?_); refine be_ 3 #[.slice A1_0 l1_0.length c1_0] 55 ?_; intro gb244 hg w11 hbox hb; have BK244 := am_ (hbox); have GW244 := am_ (gw_ hg bl_); have GE244 := GW244; replace HB := hs_ w hb; have NB243_244 := am_ (gn_ hg (blkl_ BK243)); have NB244_243 := am_ (gm_ hg (blkl_ BK243)); replace BK243 := bb_ BK243 hb; clear hb hbox hg; have hnb12 := NB243_244.out; have hnc12 := NB244_243.out; have hcz13_0 : w11.cell? ⟨gb243, 0, none⟩ = some (.slice A0_0 l0_0.length c0_0) := (blk_cell BK243.out 0).trans rfl; have hfz13_0 := blk_frozen BK243.out 0; have hcz14_0 : w11.cell? ⟨gb244, 0, none⟩ = some (.slice A1_0 l1_0.length c1_0) := (blk_cell BK244.out 0).trans rfl; have hfz14_0 := blk_frozen BK244.out 0) | ((with_reducible refine gate_callee (f := 119) rfl ?_); refine gl_ 9 Tryd.func119 #[.slice A0_0 l0_0.length c0_0, .slice A1_0 l1_0.length c1_0] ?_ rfl rfl rfl rfl; (with_reducible refine (F119.calls k _ _ l0_0 _ _ l1_0 false _ ?s1 ?s2 ?s3 ?s4 A3.out).mono ?_); (case s1 => exact au3_21); (case s2 => exact HC0_0.out); (case s3 => exact au3_22); (case s4 => exact HC1_0.out); rintro e w' ⟨rfl, ⟨nd, rfl⟩⟩; refine ⟨_, rfl, ?_⟩))
 go_ret
 exact ⟨au3_0, bl_⟩

/-! ### F63: function 63 -/
def F63.l0 : Nat → List (S55) → List (S55) → Int → Option (Bool)
  | 0, _, _, _ => none
  | k + 1, x0, x1, x5 => if x5 < (x0.length : Int) then (if 0 ≤ x5 then (if x5 < (x1.length : Int) then ((F97.f k ((rd_T55 x0 x5).f0) ((rd_T55 x1 x5).f0)).bind fun t248 => (if t248 = true then (F63.l0 k x0 x1 (wrap64 (x5 + 1))) else (some false))) else (none)) else (none)) else (some true)
def F63.f (k : Nat) (l0 : List (S55)) (l1 : List (S55)) : Option (Bool) := if (l0.length : Int) = (l1.length : Int) then (F63.l0 k l0 l1 0) else (some false)
theorem F63.mono_l : ∀ k, (∀ y0 y1 y2, LeO (F63.l0 k y0 y1 y2) (F63.l0 (k + 1) y0 y1 y2))
 | 0 => fun _ _ _ r h => by simp [F63.l0] at h
 | k + 1 => by
  have ih0 := F63.mono_l k
  intro y0 y1 y2
  unfold F63.l0
  repeat' with_reducible first | exact ih0 _ _ _ | exact F97.mono _ _ _ | exact LeO.refl _ | exact LeO.none _ | refine LeO.ite ?_ ?_ | refine LeO.bind ?_ (fun _ => ?_)
theorem F63.mono : ∀ a0 a1 k, LeO (F63.f k a0 a1) (F63.f (k + 1) a0 a1) := by
 intro a0 a1 k
 have ih0 := F63.mono_l k
 unfold F63.f
 repeat' with_reducible first | exact ih0 _ _ _ | exact F97.mono _ _ _ | exact LeO.refl _ | exact LeO.none _ | refine LeO.ite ?_ ?_ | refine LeO.bind ?_ (fun _ => ?_)
def F63.T6 : Bool × List (List Nat × List Nat) := (true, [([], []), ([], []), ([0, 1], [0, 1]), ([2], [2]), ([], []), ([], []), ([4, 5], [4, 5]), ([6], [6]), ([3, 7], [3, 7]), ([8], [8])])
def F63.B6 : List Nat := [0, 0, 3, 7, 0, 0, 48, 112, 255, 511]
theorem F63.tab6 : rtab .any (opsOf Tryd.f63 6) = F63.T6 := by kernel_rfl
theorem F63.bits6 : waitsOk F63.T6.2 F63.B6 = true := by kernel_rfl
theorem F63.calls (k : Nat) (A0 : Option Addr) (c0 : Nat) (l0 : List (S55)) (A1 : Option Addr) (c1 : Nat) (l1 : List (S55)) (r : Bool) (w : World) (hr0 : Kd.C k55 w A0 l0.length l0) (hc0 : l0.length ≤ c0) (hr1 : Kd.C k55 w A1 l1.length l1) (hc1 : l1.length ≤ c1) (h : F63.f k l0 l1 = some r) :
  Calls Tryd.prog 63 #[.slice A0 l0.length c0, .slice A1 l1.length c1] w fun e w' => e = .returned (.bool r) ∧ Below w.heap.size w w' := by
 have hu55 := Tryd.underlying55
 have HR0 := am_ hr0
 have HC0 := am_ hc0
 clear hr0 hc0
 have HR1 := am_ hr1
 have HC1 := am_ hc1
 clear hr1 hc1
 have HB := am_ (Below.refl w.heap.size w)
 have H : (if (l0.length : Int) = (l1.length : Int) then (F63.l0 k l0 l1 0) else (some false)) = some r := h
 clear h
 by_cases c3 : (l0.length : Int) = (l1.length : Int)
 rotate_left
 ·rw [if_neg c3] at H
  have c3b0 : ((l0.length : Int) == (l1.length : Int)) = false := beq_eq_false_iff_ne.mpr c3
  have c3b1 : ((l0.length : Int) != (l1.length : Int)) = true := bne_iff_ne.mpr c3
  have c3b2 : (l0.length == l1.length) = false := by first | simpa using c3 | (simp at c3 ⊢; omega)
  obtain rfl := Option.some.inj H
  go_enter Tryd.func63, Tryd.ntmps63
  go_wp2
  go_ret
  exact ⟨au3_0, bl_⟩

 rw [if_pos c3] at H
 have c3b0 : ((l0.length : Int) == (l1.length : Int)) = true := beq_iff_eq.mpr c3
 have c3b1 : ((l0.length : Int) != (l1.length : Int)) = false := bne_eq_false_iff_eq.mpr c3
 have c3b2 : (l0.length == l1.length) = true := by first | simpa using c3 | (simp at c3 ⊢; omega)
 clear c3
 have H' := am_ H
 clear H
 go_enter Tryd.func63, Tryd.ntmps63
 go_wp2
 go_loopg [5] k (fun kq v5 w' => ∃ (x5_1 : Int), v5 = .int .i64 x5_1 ∧ Aside0 (F63.l0 kq l0 l1 x5_1 = some r) ∧ Aside0 (kq ≤ k) ∧ Aside0 (Below w.heap.size w w'))
 case atStart => exact ⟨(0), er_, H', ⟨Nat.le_refl _⟩, ⟨bl_⟩⟩
 case round =>
  clear H'
  try clear c1
  try clear c3
  try clear c3b0
  try clear c3b1
  try clear c3b2
  obtain ⟨x5_1, rfl, HA, HK1, HB⟩ := hrel
  cases gk with
  | zero => exact absurd HA.out (by simp [F63.l0])
  | succ k1 =>
   have H := HA.out
   clear HA
   simp only [F63.l0] at H
   replace H := it_ H; rcases H with ⟨c4b0, H⟩ | ⟨c4b0, H⟩
   rotate_left
   ·obtain rfl := Option.some.inj H
    go_wp2
    go_ret
    exact ⟨au3_0, bl_⟩
   replace H := itn_ H; rcases H with ⟨c5b0, H⟩
   replace H := itn_ H; rcases H with ⟨c6b0, H⟩
   replace H := bi_ H; rcases H with ⟨t248, A7, H⟩
   replace H := ib_ H; rcases H with ⟨rfl, H⟩ | ⟨rfl, H⟩
   rotate_left
   ·obtain rfl := Option.some.inj H
    try go_wp2
    replace HB := am_ (below_drew1 HB.out)
    have p246 : 0 ≤ (x5_1 : Int) := od_
    have q246 : x5_1 < (l0.length : Int) := od_
    obtain ⟨ad246, A246_0, c246_0, e246, hx246_0, hl246_0, hi246_0⟩ := at_T55 HR0.out x5_1 p246 q246
    have hw246_0 := hx246_0
    cases e246
    replace hx246_0 := (HB.out.cell (World.block_lt_of_cell? _ _ hx246_0)).trans hx246_0
    have HR246_0 := am_ hi246_0
    have HC246_0 := am_ hl246_0
    clear hi246_0 hl246_0
    replace p246 := eq_true p246
    replace q246 := eq_true q246
    have p247 : 0 ≤ (x5_1 : Int) := od_
    have q247 : x5_1 < (l1.length : Int) := od_
    obtain ⟨ad247, A247_0, c247_0, e247, hx247_0, hl247_0, hi247_0⟩ := at_T55 HR1.out x5_1 p247 q247
    have hw247_0 := hx247_0
    cases e247
    replace hx247_0 := (HB.out.cell (World.block_lt_of_cell? _ _ hx247_0)).trans hx247_0
    have HR247_0 := am_ hi247_0
    have HC247_0 := am_ hl247_0
    clear hi247_0 hl247_0
    replace p247 := eq_true p247
    replace q247 := eq_true q247
    refine start_ (n := 10) (S := fun w' => w'.cell? (ad246.add (x5_1).toNat) = some (.slice A246_0 ((rd_T55 l0 x5_1).f0).length c246_0) ∧ w'.cell? (ad247.add (x5_1).toNat) = some (.slice A247_0 ((rd_T55 l1 x5_1).f0).length c247_0)) (ds := []) (bs 10 0) (by kernel_rfl) rfl rfl ⟨((HB.out.cell (World.block_lt_of_cell? _ _ hw246_0)).trans hw246_0), ((HB.out.cell (World.block_lt_of_cell? _ _ hw247_0)).trans hw247_0)⟩ (fun hHeld => ?_); refine with_tabW F63.tab6 F63.bits6 (fun HT_ HW_ => ?_)
    generalize wr.drew = w11 at HB HR246_0 HR247_0 hx246_0 hx247_0 hHeld ⊢
    refine pu_ 0 17 (bs 10 1) HT_ ?_ rfl rfl
    refine pu_ 1 18 (bs 10 3) HT_ ?_ rfl rfl
    refine pu_ 2 19 (bs 10 7) HT_ ?_ rfl rfl
    refine pu_ 4 21 (bs 10 23) HT_ ?_ rfl rfl
    refine pu_ 5 22 (bs 10 55) HT_ ?_ rfl rfl
    refine pu_ 6 23 (bs 10 119) HT_ ?_ rfl rfl
    refine tk_ 3 20 (bs 10 127) HT_ HW_ hHeld au3_10 ?_ rfl rfl
    refine tk_ 7 24 (bs 10 255) HT_ HW_ hHeld au3_10 ?_ rfl rfl
    refine one_ (i := 8) (N := some 25) (bs 10 511) rfl rfl (one_of HT_.out (by kernel_rfl)) (by decide) (fun K hK => ?_)
    refine gr_ Tryd.func97 #[.agg #[.slice A246_0 ((rd_T55 l0 x5_1).f0).length c246_0], .agg #[.slice A247_0 ((rd_T55 l1 x5_1).f0).length c247_0]] (by rfl) ?_ rfl rfl rfl
    with_reducible refine (F97.calls k1 _ _ ((rd_T55 l0 x5_1).f0) _ _ ((rd_T55 l1 x5_1).f0) false _ ?s1 ?s2 ?s3 ?s4 A7.out).mono ?_
    (case s1 => exact au3_13)
    (case s2 => exact HC246_0.out)
    (case s3 => exact au3_14)
    (case s4 => exact HC247_0.out)
    rintro e w12 ⟨rfl, hb⟩
    refine ⟨_, rfl, ?_⟩
    replace HB := hs_ w hb
    (try clear hb)
    (try clear hb2)
    (try clear hk)
    (try clear hi)
    refine hK.out _ _ ⟨((HB.out.cell (World.block_lt_of_cell? _ _ hw246_0)).trans hw246_0), ((HB.out.cell (World.block_lt_of_cell? _ _ hw247_0)).trans hw247_0)⟩ (fun hHeld => ?_)
    clear hK K
    refine no_ 25 ?_
    refine pu_ 9 26 (bs 10 1023) HT_ ?_ rfl rfl
    refine done_ (done_of HT_.out (by kernel_rfl)) ?_
    try go_wp2
    go_ret
    exact ⟨au3_0, bl_⟩
   have H' := am_ H
   clear H
   try go_wp2
   replace HB := am_ (below_drew1 HB.out)
   have p246 : 0 ≤ (x5_1 : Int) := od_
   have q246 : x5_1 < (l0.length : Int) := od_
   obtain ⟨ad246, A246_0, c246_0, e246, hx246_0, hl246_0, hi246_0⟩ := at_T55 HR0.out x5_1 p246 q246
   have hw246_0 := hx246_0
   cases e246
   replace hx246_0 := (HB.out.cell (World.block_lt_of_cell? _ _ hx246_0)).trans hx246_0
   have HR246_0 := am_ hi246_0
   have HC246_0 := am_ hl246_0
   clear hi246_0 hl246_0
   replace p246 := eq_true p246
   replace q246 := eq_true q246
   have p247 : 0 ≤ (x5_1 : Int) := od_
   have q247 : x5_1 < (l1.length : Int) := od_
   obtain ⟨ad247, A247_0, c247_0, e247, hx247_0, hl247_0, hi247_0⟩ := at_T55 HR1.out x5_1 p247 q247
   have hw247_0 := hx247_0
   cases e247
   replace hx247_0 := (HB.out.cell (World.block_lt_of_cell? _ _ hx247_0)).trans hx247_0
   have HR247_0 := am_ hi247_0
   have HC247_0 := am_ hl247_0
   clear hi247_0 hl247_0
   replace p247 := eq_true p247
   replace q247 := eq_true q247
   refine start_ (n := 10) (S := fun w' => w'.cell? (ad246.add (x5_1).toNat) = some (.slice A246_0 ((rd_T55 l0 x5_1).f0).length c246_0) ∧ w'.cell? (ad247.add (x5_1).toNat) = some (.slice A247_0 ((rd_T55 l1 x5_1).f0).length c247_0)) (ds := []) (bs 10 0) (by kernel_rfl) rfl rfl ⟨((HB.out.cell (World.block_lt_of_cell? _ _ hw246_0)).trans hw246_0), ((HB.out.cell (World.block_lt_of_cell? _ _ hw247_0)).trans hw247_0)⟩ (fun hHeld => ?_); refine with_tabW F63.tab6 F63.bits6 (fun HT_ HW_ => ?_)
   generalize wr.drew = w9 at HB HR246_0 HR247_0 hx246_0 hx247_0 hHeld ⊢
   refine pu_ 0 17 (bs 10 1) HT_ ?_ rfl rfl
   refine pu_ 1 18 (bs 10 3) HT_ ?_ rfl rfl
   refine pu_ 2 19 (bs 10 7) HT_ ?_ rfl rfl
   refine pu_ 4 21 (bs 10 23) HT_ ?_ rfl rfl
   refine pu_ 5 22 (bs 10 55) HT_ ?_ rfl rfl
   refine pu_ 6 23 (bs 10 119) HT_ ?_ rfl rfl
   refine tk_ 3 20 (bs 10 127) HT_ HW_ hHeld au3_10 ?_ rfl rfl
   refine tk_ 7 24 (bs 10 255) HT_ HW_ hHeld au3_10 ?_ rfl rfl
   refine one_ (i := 8) (N := some 25) (bs 10 511) rfl rfl (one_of HT_.out (by kernel_rfl)) (by decide) (fun K hK => ?_)
   refine gr_ Tryd.func97 #[.agg #[.slice A246_0 ((rd_T55 l0 x5_1).f0).length c246_0], .agg #[.slice A247_0 ((rd_T55 l1 x5_1).f0).length c247_0]] (by rfl) ?_ rfl rfl rfl
   with_reducible refine (F97.calls k1 _ _ ((rd_T55 l0 x5_1).f0) _ _ ((rd_T55 l1 x5_1).f0) true _ ?s1 ?s2 ?s3 ?s4 A7.out).mono ?_
   (case s1 => exact au3_13)
   (case s2 => exact HC246_0.out)
   (case s3 => exact au3_14)
   (case s4 => exact HC247_0.out)
   rintro e w10 ⟨rfl, hb⟩
   refine ⟨_, rfl, ?_⟩
   replace HB := hs_ w hb
   (try clear hb)
   (try clear hb2)
   (try clear hk)
   (try clear hi)
   refine hK.out _ _ ⟨((HB.out.cell (World.block_lt_of_cell? _ _ hw246_0)).trans hw246_0), ((HB.out.cell (World.block_lt_of_cell? _ _ hw247_0)).trans hw247_0)⟩ (fun hHeld => ?_)
   clear hK K
   refine no_ 25 ?_
   refine pu_ 9 26 (bs 10 1023) HT_ ?_ rfl rfl
   refine done_ (done_of HT_.out (by kernel_rfl)) ?_
   try go_wp2
   go_roundg k1
   case measure => have := HK1.out; omega
   case rel => exact ⟨(wrap64 (x5_1 + 1)), er_, H', ⟨by have := HK1.out; omega⟩, ⟨bl_⟩⟩
/-! ### F39: function 39 -/
def F39.f (k : Nat) (a0_0 : ByteArray) (l0_1 : List (S55)) (a1_0 : ByteArray) (l1_1 : List (S55)) : Option (Bool) := if a0_0.toList = a1_0.toList then ((F63.f k l0_1 l1_1).bind fun t251 => (if t251 = true then (some true) else (some false))) else (some false)
theorem F39.mono : ∀ a0 a1 a2 a3 k, LeO (F39.f k a0 a1 a2 a3) (F39.f (k + 1) a0 a1 a2 a3) := by
 intro a0 a1 a2 a3 k
 unfold F39.f
 repeat' with_reducible first | exact F63.mono _ _ _ | exact LeO.refl _ | exact LeO.none _ | refine LeO.ite ?_ ?_ | refine LeO.bind ?_ (fun _ => ?_)
theorem F39.calls (k : Nat) (a0_0 : ByteArray) (A0_1 : Option Addr) (c0_1 : Nat) (l0_1 : List (S55)) (a1_0 : ByteArray) (A1_1 : Option Addr) (c1_1 : Nat) (l1_1 : List (S55)) (r : Bool) (w : World) (hr0_1 : Kd.C k55 w A0_1 l0_1.length l0_1) (hc0_1 : l0_1.length ≤ c0_1) (hr1_1 : Kd.C k55 w A1_1 l1_1.length l1_1) (hc1_1 : l1_1.length ≤ c1_1) (h : F39.f k a0_0 l0_1 a1_0 l1_1 = some r) :
  Calls Tryd.prog 39 #[.agg #[.string a0_0, .slice A0_1 l0_1.length c0_1], .agg #[.string a1_0, .slice A1_1 l1_1.length c1_1]] w fun e w' => e = .returned (.bool r) ∧ Below w.heap.size w w' := by
 have hu52 := Tryd.underlying52
 have HR0_1 := am_ hr0_1
 have HC0_1 := am_ hc0_1
 clear hr0_1 hc0_1
 have HR1_1 := am_ hr1_1
 have HC1_1 := am_ hc1_1
 clear hr1_1 hc1_1
 have HB := am_ (Below.refl w.heap.size w)
 have H : (if a0_0.toList = a1_0.toList then ((F63.f k l0_1 l1_1).bind fun t251 => (if t251 = true then (some true) else (some false))) else (some false)) = some r := h
 clear h
 by_cases c3 : a0_0.toList = a1_0.toList
 rotate_left
 ·rw [if_neg c3] at H
  have c3b0 : (a0_0.toList == a1_0.toList) = false := beq_eq_false_iff_ne.mpr c3
  have c3b1 : (a0_0.toList != a1_0.toList) = true := bne_iff_ne.mpr c3
  obtain rfl := Option.some.inj H
  go_enter Tryd.func39, Tryd.ntmps39
  go_wp2_with (first | ((with_reducible refine gate_dst (N := 2) rfl ?_); refine be_ 2 #[.string a0_0, .slice A0_1 l0_1.length c0_1] 52 ?_; intro gb249 hg w18 hbox hb; have BK249 := am_ (hbox); have GW249 := am_ (gw_ hg bl_); have GE249 := GW249; replace HB := hs_ w hb; clear hb hbox hg) | ((with_reducible refine gate_dst (N := 3) rfl ?_); refine be_ 3 #[.string a1_0, .slice A1_1 l1_1.length c1_1] 52 ?_; intro gb250 hg w19 hbox hb; have BK250 := am_ (hbox); have GW250 := am_ (gw_ hg bl_); have GE250 := GW250; replace HB := hs_ w hb; have NB249_250 := am_ (gn_ hg (blkl_ BK249)); have NB250_249 := am_ (gm_ hg (blkl_ BK249)); replace BK249 := bb_ BK249 hb; clear hb hbox hg; have hnb20 := NB249_250.out; have hnc20 := NB250_249.out; obtain ⟨hcz21_0, hcz21_1, hfz21_0, hfz21_1⟩ := cellsF2 BK249.out; obtain ⟨hcz22_0, hcz22_1, hfz22_0, hfz22_1⟩ := cellsF2 BK250.out))
  go_ret
  exact ⟨au3_0, bl_⟩

 rw [if_pos c3] at H
 have c3b0 : (a0_0.toList == a1_0.toList) = true := beq_iff_eq.mpr c3
 have c3b1 : (a0_0.toList != a1_0.toList) = false := bne_eq_false_iff_eq.mpr c3
 clear c3
 replace H := bi_ H; rcases H with ⟨t251, A4, H⟩
 replace H := ib_ H; rcases H with ⟨rfl, H⟩ | ⟨rfl, H⟩
 rotate_left
 ·obtain rfl := Option.some.inj H
  go_enter Tryd.func39, Tryd.ntmps39
  go_wp2_with (first | ((with_reducible refine gate_dst (N := 2) rfl ?_); refine be_ 2 #[.string a0_0, .slice A0_1 l0_1.length c0_1] 52 ?_; intro gb249 hg w12 hbox hb; have BK249 := am_ (hbox); have GW249 := am_ (gw_ hg bl_); have GE249 := GW249; replace HB := hs_ w hb; clear hb hbox hg) | ((with_reducible refine gate_dst (N := 3) rfl ?_); refine be_ 3 #[.string a1_0, .slice A1_1 l1_1.length c1_1] 52 ?_; intro gb250 hg w13 hbox hb; have BK250 := am_ (hbox); have GW250 := am_ (gw_ hg bl_); have GE250 := GW250; replace HB := hs_ w hb; have NB249_250 := am_ (gn_ hg (blkl_ BK249)); have NB250_249 := am_ (gm_ hg (blkl_ BK249)); replace BK249 := bb_ BK249 hb; clear hb hbox hg; have hnb14 := NB249_250.out; have hnc14 := NB250_249.out; obtain ⟨hcz15_0, hcz15_1, hfz15_0, hfz15_1⟩ := cellsF2 BK249.out; obtain ⟨hcz16_0, hcz16_1, hfz16_0, hfz16_1⟩ := cellsF2 BK250.out) | ((with_reducible refine gate_callee (f := 63) rfl ?_); refine gl_ 14 Tryd.func63 #[.slice A0_1 l0_1.length c0_1, .slice A1_1 l1_1.length c1_1] ?_ rfl rfl rfl rfl; (with_reducible refine (F63.calls k _ _ l0_1 _ _ l1_1 false _ ?s1 ?s2 ?s3 ?s4 A4.out).mono ?_); (case s1 => exact au3_2); (case s2 => exact HC0_1.out); (case s3 => exact au3_6); (case s4 => exact HC1_1.out); rintro e w17 ⟨rfl, hb⟩; refine ⟨_, rfl, ?_⟩; replace BK249 := bb_ BK249 hb; replace BK250 := bb_ BK250 hb; replace HB := hs_ w hb; (try clear hb)))
  go_ret
  exact ⟨au3_0, bl_⟩
 obtain rfl := Option.some.inj H
 go_enter Tryd.func39, Tryd.ntmps39
 go_wp2_with (first | ((with_reducible refine gate_dst (N := 2) rfl ?_); refine be_ 2 #[.string a0_0, .slice A0_1 l0_1.length c0_1] 52 ?_; intro gb249 hg w6 hbox hb; have BK249 := am_ (hbox); have GW249 := am_ (gw_ hg bl_); have GE249 := GW249; replace HB := hs_ w hb; clear hb hbox hg) | ((with_reducible refine gate_dst (N := 3) rfl ?_); refine be_ 3 #[.string a1_0, .slice A1_1 l1_1.length c1_1] 52 ?_; intro gb250 hg w7 hbox hb; have BK250 := am_ (hbox); have GW250 := am_ (gw_ hg bl_); have GE250 := GW250; replace HB := hs_ w hb; have NB249_250 := am_ (gn_ hg (blkl_ BK249)); have NB250_249 := am_ (gm_ hg (blkl_ BK249)); replace BK249 := bb_ BK249 hb; clear hb hbox hg; have hnb8 := NB249_250.out; have hnc8 := NB250_249.out; obtain ⟨hcz9_0, hcz9_1, hfz9_0, hfz9_1⟩ := cellsF2 BK249.out; obtain ⟨hcz10_0, hcz10_1, hfz10_0, hfz10_1⟩ := cellsF2 BK250.out) | ((with_reducible refine gate_callee (f := 63) rfl ?_); refine gl_ 14 Tryd.func63 #[.slice A0_1 l0_1.length c0_1, .slice A1_1 l1_1.length c1_1] ?_ rfl rfl rfl rfl; (with_reducible refine (F63.calls k _ _ l0_1 _ _ l1_1 true _ ?s1 ?s2 ?s3 ?s4 A4.out).mono ?_); (case s1 => exact au3_2); (case s2 => exact HC0_1.out); (case s3 => exact au3_6); (case s4 => exact HC1_1.out); rintro e w11 ⟨rfl, hb⟩; refine ⟨_, rfl, ?_⟩; replace BK249 := bb_ BK249 hb; replace BK250 := bb_ BK250 hb; replace HB := hs_ w hb; (try clear hb)))
 go_ret
 exact ⟨au3_0, bl_⟩
/-! ### F16: function 16 -/
def F16.l0 : Nat → List (S52) → List (S52) → Int → Option (Bool)
  | 0, _, _, _ => none
  | k + 1, x0, x1, x5 => if x5 < (x0.length : Int) then (if 0 ≤ x5 then (if x5 < (x1.length : Int) then ((F39.f k ((rd_T52 x0 x5).f0) ((rd_T52 x0 x5).f1) ((rd_T52 x1 x5).f0) ((rd_T52 x1 x5).f1)).bind fun t254 => (if t254 = true then (F16.l0 k x0 x1 (wrap64 (x5 + 1))) else (some false))) else (none)) else (none)) else (some true)
def F16.f (k : Nat) (l0 : List (S52)) (l1 : List (S52)) : Option (Bool) := if (l0.length : Int) = (l1.length : Int) then (F16.l0 k l0 l1 0) else (some false)
theorem F16.mono_l : ∀ k, (∀ y0 y1 y2, LeO (F16.l0 k y0 y1 y2) (F16.l0 (k + 1) y0 y1 y2))
 | 0 => fun _ _ _ r h => by simp [F16.l0] at h
 | k + 1 => by
  have ih0 := F16.mono_l k
  intro y0 y1 y2
  unfold F16.l0
  repeat' with_reducible first | exact ih0 _ _ _ | exact F39.mono _ _ _ _ _ | exact LeO.refl _ | exact LeO.none _ | refine LeO.ite ?_ ?_ | refine LeO.bind ?_ (fun _ => ?_)
theorem F16.mono : ∀ a0 a1 k, LeO (F16.f k a0 a1) (F16.f (k + 1) a0 a1) := by
 intro a0 a1 k
 have ih0 := F16.mono_l k
 unfold F16.f
 repeat' with_reducible first | exact ih0 _ _ _ | exact F39.mono _ _ _ _ _ | exact LeO.refl _ | exact LeO.none _ | refine LeO.ite ?_ ?_ | refine LeO.bind ?_ (fun _ => ?_)
def F16.T6 : Bool × List (List Nat × List Nat) := (true, [([], []), ([], []), ([0, 1], [0, 1]), ([2], [2]), ([], []), ([], []), ([4, 5], [4, 5]), ([6], [6]), ([3, 7], [3, 7]), ([8], [8])])
def F16.B6 : List Nat := [0, 0, 3, 7, 0, 0, 48, 112, 255, 511]
theorem F16.tab6 : rtab .any (opsOf Tryd.f16 6) = F16.T6 := by kernel_rfl
theorem F16.bits6 : waitsOk F16.T6.2 F16.B6 = true := by kernel_rfl
theorem F16.calls (k : Nat) (A0 : Option Addr) (c0 : Nat) (l0 : List (S52)) (A1 : Option Addr) (c1 : Nat) (l1 : List (S52)) (r : Bool) (w : World) (hr0 : Kd.C k52 w A0 l0.length l0) (hc0 : l0.length ≤ c0) (hr1 : Kd.C k52 w A1 l1.length l1) (hc1 : l1.length ≤ c1) (h : F16.f k l0 l1 = some r) :
  Calls Tryd.prog 16 #[.slice A0 l0.length c0, .slice A1 l1.length c1] w fun e w' => e = .returned (.bool r) ∧ Below w.heap.size w w' := by
 have hu52 := Tryd.underlying52
 have HR0 := am_ hr0
 have HC0 := am_ hc0
 clear hr0 hc0
 have HR1 := am_ hr1
 have HC1 := am_ hc1
 clear hr1 hc1
 have HB := am_ (Below.refl w.heap.size w)
 have H : (if (l0.length : Int) = (l1.length : Int) then (F16.l0 k l0 l1 0) else (some false)) = some r := h
 clear h
 by_cases c3 : (l0.length : Int) = (l1.length : Int)
 rotate_left
 ·rw [if_neg c3] at H
  have c3b0 : ((l0.length : Int) == (l1.length : Int)) = false := beq_eq_false_iff_ne.mpr c3
  have c3b1 : ((l0.length : Int) != (l1.length : Int)) = true := bne_iff_ne.mpr c3
  have c3b2 : (l0.length == l1.length) = false := by first | simpa using c3 | (simp at c3 ⊢; omega)
  obtain rfl := Option.some.inj H
  go_enter Tryd.func16, Tryd.ntmps16
  go_wp2
  go_ret
  exact ⟨au3_0, bl_⟩

 rw [if_pos c3] at H
 have c3b0 : ((l0.length : Int) == (l1.length : Int)) = true := beq_iff_eq.mpr c3
 have c3b1 : ((l0.length : Int) != (l1.length : Int)) = false := bne_eq_false_iff_eq.mpr c3
 have c3b2 : (l0.length == l1.length) = true := by first | simpa using c3 | (simp at c3 ⊢; omega)
 clear c3
 have H' := am_ H
 clear H
 go_enter Tryd.func16, Tryd.ntmps16
 go_wp2
 go_loopg [5] k (fun kq v5 w' => ∃ (x5_1 : Int), v5 = .int .i64 x5_1 ∧ Aside0 (F16.l0 kq l0 l1 x5_1 = some r) ∧ Aside0 (kq ≤ k) ∧ Aside0 (Below w.heap.size w w'))
 case atStart => exact ⟨(0), er_, H', ⟨Nat.le_refl _⟩, ⟨bl_⟩⟩
 case round =>
  clear H'
  try clear c1
  try clear c3
  try clear c3b0
  try clear c3b1
  try clear c3b2
  obtain ⟨x5_1, rfl, HA, HK1, HB⟩ := hrel
  cases gk with
  | zero => exact absurd HA.out (by simp [F16.l0])
  | succ k1 =>
   have H := HA.out
   clear HA
   simp only [F16.l0] at H
   replace H := it_ H; rcases H with ⟨c4b0, H⟩ | ⟨c4b0, H⟩
   rotate_left
   ·obtain rfl := Option.some.inj H
    go_wp2
    go_ret
    exact ⟨au3_0, bl_⟩
   replace H := itn_ H; rcases H with ⟨c5b0, H⟩
   replace H := itn_ H; rcases H with ⟨c6b0, H⟩
   replace H := bi_ H; rcases H with ⟨t254, A7, H⟩
   replace H := ib_ H; rcases H with ⟨rfl, H⟩ | ⟨rfl, H⟩
   rotate_left
   ·obtain rfl := Option.some.inj H
    try go_wp2
    replace HB := am_ (below_drew1 HB.out)
    have p252 : 0 ≤ (x5_1 : Int) := od_
    have q252 : x5_1 < (l0.length : Int) := od_
    obtain ⟨ad252, A252_1, c252_1, e252, hx252_0, hx252_1, hl252_1, hi252_1⟩ := at_T52 HR0.out x5_1 p252 q252
    have hw252_1 := hx252_1
    have hw252_0 := hx252_0
    cases e252
    replace hx252_0 := (HB.out.cell (World.block_lt_of_cell? _ _ hx252_0)).trans hx252_0
    replace hx252_1 := (HB.out.cell (World.block_lt_of_cell? _ _ hx252_1)).trans hx252_1
    have HR252_1 := am_ hi252_1
    have HC252_1 := am_ hl252_1
    clear hi252_1 hl252_1
    replace p252 := eq_true p252
    replace q252 := eq_true q252
    have p253 : 0 ≤ (x5_1 : Int) := od_
    have q253 : x5_1 < (l1.length : Int) := od_
    obtain ⟨ad253, A253_1, c253_1, e253, hx253_0, hx253_1, hl253_1, hi253_1⟩ := at_T52 HR1.out x5_1 p253 q253
    have hw253_1 := hx253_1
    have hw253_0 := hx253_0
    cases e253
    replace hx253_0 := (HB.out.cell (World.block_lt_of_cell? _ _ hx253_0)).trans hx253_0
    replace hx253_1 := (HB.out.cell (World.block_lt_of_cell? _ _ hx253_1)).trans hx253_1
    have HR253_1 := am_ hi253_1
    have HC253_1 := am_ hl253_1
    clear hi253_1 hl253_1
    replace p253 := eq_true p253
    replace q253 := eq_true q253
    refine start_ (n := 10) (S := fun w' => w'.cell? (ad252.add ((x5_1).toNat * 2)) = some (.string ((rd_T52 l0 x5_1).f0)) ∧ w'.cell? ⟨(ad252.add ((x5_1).toNat * 2)).block, (ad252.add ((x5_1).toNat * 2)).off + 1, none⟩ = some (.slice A252_1 ((rd_T52 l0 x5_1).f1).length c252_1) ∧ w'.cell? (ad253.add ((x5_1).toNat * 2)) = some (.string ((rd_T52 l1 x5_1).f0)) ∧ w'.cell? ⟨(ad253.add ((x5_1).toNat * 2)).block, (ad253.add ((x5_1).toNat * 2)).off + 1, none⟩ = some (.slice A253_1 ((rd_T52 l1 x5_1).f1).length c253_1)) (ds := []) (bs 10 0) (by kernel_rfl) rfl rfl ⟨((HB.out.cell (World.block_lt_of_cell? _ _ hw252_0)).trans hw252_0), ((HB.out.cell (World.block_lt_of_cell? _ _ hw252_1)).trans hw252_1), ((HB.out.cell (World.block_lt_of_cell? _ _ hw253_0)).trans hw253_0), ((HB.out.cell (World.block_lt_of_cell? _ _ hw253_1)).trans hw253_1)⟩ (fun hHeld => ?_); refine with_tabW F16.tab6 F16.bits6 (fun HT_ HW_ => ?_)
    generalize wr.drew = w11 at HB HR252_1 HR253_1 hx252_0 hx252_1 hx253_0 hx253_1 hHeld ⊢
    refine pu_ 0 17 (bs 10 1) HT_ ?_ rfl rfl
    refine pu_ 1 18 (bs 10 3) HT_ ?_ rfl rfl
    refine pu_ 2 19 (bs 10 7) HT_ ?_ rfl rfl
    refine pu_ 4 21 (bs 10 23) HT_ ?_ rfl rfl
    refine pu_ 5 22 (bs 10 55) HT_ ?_ rfl rfl
    refine pu_ 6 23 (bs 10 119) HT_ ?_ rfl rfl
    refine tk_ 3 20 (bs 10 127) HT_ HW_ hHeld au3_8 ?_ rfl rfl
    refine tk_ 7 24 (bs 10 255) HT_ HW_ hHeld au3_8 ?_ rfl rfl
    refine one_ (i := 8) (N := some 25) (bs 10 511) rfl rfl (one_of HT_.out (by kernel_rfl)) (by decide) (fun K hK => ?_)
    refine gr_ Tryd.func39 #[.agg #[.string ((rd_T52 l0 x5_1).f0), .slice A252_1 ((rd_T52 l0 x5_1).f1).length c252_1], .agg #[.string ((rd_T52 l1 x5_1).f0), .slice A253_1 ((rd_T52 l1 x5_1).f1).length c253_1]] (by rfl) ?_ rfl rfl rfl
    with_reducible refine (F39.calls k1 ((rd_T52 l0 x5_1).f0) _ _ ((rd_T52 l0 x5_1).f1) ((rd_T52 l1 x5_1).f0) _ _ ((rd_T52 l1 x5_1).f1) false _ ?s1 ?s2 ?s3 ?s4 A7.out).mono ?_
    (case s1 => exact au3_15)
    (case s2 => exact HC252_1.out)
    (case s3 => exact au3_16)
    (case s4 => exact HC253_1.out)
    rintro e w12 ⟨rfl, hb⟩
    refine ⟨_, rfl, ?_⟩
    replace HB := hs_ w hb
    (try clear hb)
    (try clear hb2)
    (try clear hk)
    (try clear hi)
    refine hK.out _ _ ⟨((HB.out.cell (World.block_lt_of_cell? _ _ hw252_0)).trans hw252_0), ((HB.out.cell (World.block_lt_of_cell? _ _ hw252_1)).trans hw252_1), ((HB.out.cell (World.block_lt_of_cell? _ _ hw253_0)).trans hw253_0), ((HB.out.cell (World.block_lt_of_cell? _ _ hw253_1)).trans hw253_1)⟩ (fun hHeld => ?_)
    clear hK K
    refine no_ 25 ?_
    refine pu_ 9 26 (bs 10 1023) HT_ ?_ rfl rfl
    refine done_ (done_of HT_.out (by kernel_rfl)) ?_
    try go_wp2
    go_ret
    exact ⟨au3_0, bl_⟩
   have H' := am_ H
   clear H
   try go_wp2
   replace HB := am_ (below_drew1 HB.out)
   have p252 : 0 ≤ (x5_1 : Int) := od_
   have q252 : x5_1 < (l0.length : Int) := od_
   obtain ⟨ad252, A252_1, c252_1, e252, hx252_0, hx252_1, hl252_1, hi252_1⟩ := at_T52 HR0.out x5_1 p252 q252
   have hw252_1 := hx252_1
   have hw252_0 := hx252_0
   cases e252
   replace hx252_0 := (HB.out.cell (World.block_lt_of_cell? _ _ hx252_0)).trans hx252_0
   replace hx252_1 := (HB.out.cell (World.block_lt_of_cell? _ _ hx252_1)).trans hx252_1
   have HR252_1 := am_ hi252_1
   have HC252_1 := am_ hl252_1
   clear hi252_1 hl252_1
   replace p252 := eq_true p252
   replace q252 := eq_true q252
   have p253 : 0 ≤ (x5_1 : Int) := od_
   have q253 : x5_1 < (l1.length : Int) := od_
   obtain ⟨ad253, A253_1, c253_1, e253, hx253_0, hx253_1, hl253_1, hi253_1⟩ := at_T52 HR1.out x5_1 p253 q253
   have hw253_1 := hx253_1
   have hw253_0 := hx253_0
   cases e253
   replace hx253_0 := (HB.out.cell (World.block_lt_of_cell? _ _ hx253_0)).trans hx253_0
   replace hx253_1 := (HB.out.cell (World.block_lt_of_cell? _ _ hx253_1)).trans hx253_1
   have HR253_1 := am_ hi253_1
   have HC253_1 := am_ hl253_1
   clear hi253_1 hl253_1
   replace p253 := eq_true p253
   replace q253 := eq_true q253
   refine start_ (n := 10) (S := fun w' => w'.cell? (ad252.add ((x5_1).toNat * 2)) = some (.string ((rd_T52 l0 x5_1).f0)) ∧ w'.cell? ⟨(ad252.add ((x5_1).toNat * 2)).block, (ad252.add ((x5_1).toNat * 2)).off + 1, none⟩ = some (.slice A252_1 ((rd_T52 l0 x5_1).f1).length c252_1) ∧ w'.cell? (ad253.add ((x5_1).toNat * 2)) = some (.string ((rd_T52 l1 x5_1).f0)) ∧ w'.cell? ⟨(ad253.add ((x5_1).toNat * 2)).block, (ad253.add ((x5_1).toNat * 2)).off + 1, none⟩ = some (.slice A253_1 ((rd_T52 l1 x5_1).f1).length c253_1)) (ds := []) (bs 10 0) (by kernel_rfl) rfl rfl ⟨((HB.out.cell (World.block_lt_of_cell? _ _ hw252_0)).trans hw252_0), ((HB.out.cell (World.block_lt_of_cell? _ _ hw252_1)).trans hw252_1), ((HB.out.cell (World.block_lt_of_cell? _ _ hw253_0)).trans hw253_0), ((HB.out.cell (World.block_lt_of_cell? _ _ hw253_1)).trans hw253_1)⟩ (fun hHeld => ?_); refine with_tabW F16.tab6 F16.bits6 (fun HT_ HW_ => ?_)
   generalize wr.drew = w9 at HB HR252_1 HR253_1 hx252_0 hx252_1 hx253_0 hx253_1 hHeld ⊢
   refine pu_ 0 17 (bs 10 1) HT_ ?_ rfl rfl
   refine pu_ 1 18 (bs 10 3) HT_ ?_ rfl rfl
   refine pu_ 2 19 (bs 10 7) HT_ ?_ rfl rfl
   refine pu_ 4 21 (bs 10 23) HT_ ?_ rfl rfl
   refine pu_ 5 22 (bs 10 55) HT_ ?_ rfl rfl
   refine pu_ 6 23 (bs 10 119) HT_ ?_ rfl rfl
   refine tk_ 3 20 (bs 10 127) HT_ HW_ hHeld au3_8 ?_ rfl rfl
   refine tk_ 7 24 (bs 10 255) HT_ HW_ hHeld au3_8 ?_ rfl rfl
   refine one_ (i := 8) (N := some 25) (bs 10 511) rfl rfl (one_of HT_.out (by kernel_rfl)) (by decide) (fun K hK => ?_)
   refine gr_ Tryd.func39 #[.agg #[.string ((rd_T52 l0 x5_1).f0), .slice A252_1 ((rd_T52 l0 x5_1).f1).length c252_1], .agg #[.string ((rd_T52 l1 x5_1).f0), .slice A253_1 ((rd_T52 l1 x5_1).f1).length c253_1]] (by rfl) ?_ rfl rfl rfl
   with_reducible refine (F39.calls k1 ((rd_T52 l0 x5_1).f0) _ _ ((rd_T52 l0 x5_1).f1) ((rd_T52 l1 x5_1).f0) _ _ ((rd_T52 l1 x5_1).f1) true _ ?s1 ?s2 ?s3 ?s4 A7.out).mono ?_
   (case s1 => exact au3_15)
   (case s2 => exact HC252_1.out)
   (case s3 => exact au3_16)
   (case s4 => exact HC253_1.out)
   rintro e w10 ⟨rfl, hb⟩
   refine ⟨_, rfl, ?_⟩
   replace HB := hs_ w hb
   (try clear hb)
   (try clear hb2)
   (try clear hk)
   (try clear hi)
   refine hK.out _ _ ⟨((HB.out.cell (World.block_lt_of_cell? _ _ hw252_0)).trans hw252_0), ((HB.out.cell (World.block_lt_of_cell? _ _ hw252_1)).trans hw252_1), ((HB.out.cell (World.block_lt_of_cell? _ _ hw253_0)).trans hw253_0), ((HB.out.cell (World.block_lt_of_cell? _ _ hw253_1)).trans hw253_1)⟩ (fun hHeld => ?_)
   clear hK K
   refine no_ 25 ?_
   refine pu_ 9 26 (bs 10 1023) HT_ ?_ rfl rfl
   refine done_ (done_of HT_.out (by kernel_rfl)) ?_
   try go_wp2
   go_roundg k1
   case measure => have := HK1.out; omega
   case rel => exact ⟨(wrap64 (x5_1 + 1)), er_, H', ⟨by have := HK1.out; omega⟩, ⟨bl_⟩⟩
/-! ### F114: function 114 -/
def F114.f (k : Nat) (a0_0 : Int) (l0_1 : List (S52)) (a1_0 : Int) (l1_1 : List (S52)) : Option (Bool) := if a0_0 = a1_0 then ((F16.f k l0_1 l1_1).bind fun t257 => (if t257 = true then (some true) else (some false))) else (some false)
theorem F114.mono : ∀ a0 a1 a2 a3 k, LeO (F114.f k a0 a1 a2 a3) (F114.f (k + 1) a0 a1 a2 a3) := by
 intro a0 a1 a2 a3 k
 unfold F114.f
 repeat' with_reducible first | exact F16.mono _ _ _ | exact LeO.refl _ | exact LeO.none _ | refine LeO.ite ?_ ?_ | refine LeO.bind ?_ (fun _ => ?_)
theorem F114.calls (k : Nat) (a0_0 : Int) (A0_1 : Option Addr) (c0_1 : Nat) (l0_1 : List (S52)) (a1_0 : Int) (A1_1 : Option Addr) (c1_1 : Nat) (l1_1 : List (S52)) (r : Bool) (w : World) (hr0_1 : Kd.C k52 w A0_1 l0_1.length l0_1) (hc0_1 : l0_1.length ≤ c0_1) (hr1_1 : Kd.C k52 w A1_1 l1_1.length l1_1) (hc1_1 : l1_1.length ≤ c1_1) (h : F114.f k a0_0 l0_1 a1_0 l1_1 = some r) :
  Calls Tryd.prog 114 #[.agg #[.int .i64 a0_0, .slice A0_1 l0_1.length c0_1], .agg #[.int .i64 a1_0, .slice A1_1 l1_1.length c1_1]] w fun e w' => e = .returned (.bool r) ∧ Below w.heap.size w w' := by
 have hu85 := Tryd.underlying85
 have HR0_1 := am_ hr0_1
 have HC0_1 := am_ hc0_1
 clear hr0_1 hc0_1
 have HR1_1 := am_ hr1_1
 have HC1_1 := am_ hc1_1
 clear hr1_1 hc1_1
 have HB := am_ (Below.refl w.heap.size w)
 have H : (if a0_0 = a1_0 then ((F16.f k l0_1 l1_1).bind fun t257 => (if t257 = true then (some true) else (some false))) else (some false)) = some r := h
 clear h
 by_cases c3 : a0_0 = a1_0
 rotate_left
 ·rw [if_neg c3] at H
  have c3b0 : (a0_0 == a1_0) = false := beq_eq_false_iff_ne.mpr c3
  have c3b1 : (a0_0 != a1_0) = true := bne_iff_ne.mpr c3
  obtain rfl := Option.some.inj H
  go_enter Tryd.func114, Tryd.ntmps114
  go_wp2_with (first | ((with_reducible refine gate_dst (N := 2) rfl ?_); refine be_ 2 #[.int .i64 a0_0, .slice A0_1 l0_1.length c0_1] 85 ?_; intro gb255 hg w18 hbox hb; have BK255 := am_ (hbox); have GW255 := am_ (gw_ hg bl_); have GE255 := GW255; replace HB := hs_ w hb; clear hb hbox hg) | ((with_reducible refine gate_dst (N := 3) rfl ?_); refine be_ 3 #[.int .i64 a1_0, .slice A1_1 l1_1.length c1_1] 85 ?_; intro gb256 hg w19 hbox hb; have BK256 := am_ (hbox); have GW256 := am_ (gw_ hg bl_); have GE256 := GW256; replace HB := hs_ w hb; have NB255_256 := am_ (gn_ hg (blkl_ BK255)); have NB256_255 := am_ (gm_ hg (blkl_ BK255)); replace BK255 := bb_ BK255 hb; clear hb hbox hg; have hnb20 := NB255_256.out; have hnc20 := NB256_255.out; obtain ⟨hcz21_0, hcz21_1, hfz21_0, hfz21_1⟩ := cellsF2 BK255.out; obtain ⟨hcz22_0, hcz22_1, hfz22_0, hfz22_1⟩ := cellsF2 BK256.out))
  go_ret
  exact ⟨au3_0, bl_⟩

 rw [if_pos c3] at H
 have c3b0 : (a0_0 == a1_0) = true := beq_iff_eq.mpr c3
 have c3b1 : (a0_0 != a1_0) = false := bne_eq_false_iff_eq.mpr c3
 clear c3
 replace H := bi_ H; rcases H with ⟨t257, A4, H⟩
 replace H := ib_ H; rcases H with ⟨rfl, H⟩ | ⟨rfl, H⟩
 rotate_left
 ·obtain rfl := Option.some.inj H
  go_enter Tryd.func114, Tryd.ntmps114
  go_wp2_with (first | ((with_reducible refine gate_dst (N := 2) rfl ?_); refine be_ 2 #[.int .i64 a0_0, .slice A0_1 l0_1.length c0_1] 85 ?_; intro gb255 hg w12 hbox hb; have BK255 := am_ (hbox); have GW255 := am_ (gw_ hg bl_); have GE255 := GW255; replace HB := hs_ w hb; clear hb hbox hg) | ((with_reducible refine gate_dst (N := 3) rfl ?_); refine be_ 3 #[.int .i64 a1_0, .slice A1_1 l1_1.length c1_1] 85 ?_; intro gb256 hg w13 hbox hb; have BK256 := am_ (hbox); have GW256 := am_ (gw_ hg bl_); have GE256 := GW256; replace HB := hs_ w hb; have NB255_256 := am_ (gn_ hg (blkl_ BK255)); have NB256_255 := am_ (gm_ hg (blkl_ BK255)); replace BK255 := bb_ BK255 hb; clear hb hbox hg; have hnb14 := NB255_256.out; have hnc14 := NB256_255.out; obtain ⟨hcz15_0, hcz15_1, hfz15_0, hfz15_1⟩ := cellsF2 BK255.out; obtain ⟨hcz16_0, hcz16_1, hfz16_0, hfz16_1⟩ := cellsF2 BK256.out) | ((with_reducible refine gate_callee (f := 16) rfl ?_); refine gl_ 14 Tryd.func16 #[.slice A0_1 l0_1.length c0_1, .slice A1_1 l1_1.length c1_1] ?_ rfl rfl rfl rfl; (with_reducible refine (F16.calls k _ _ l0_1 _ _ l1_1 false _ ?s1 ?s2 ?s3 ?s4 A4.out).mono ?_); (case s1 => exact au3_2); (case s2 => exact HC0_1.out); (case s3 => exact au3_6); (case s4 => exact HC1_1.out); rintro e w17 ⟨rfl, hb⟩; refine ⟨_, rfl, ?_⟩; replace BK255 := bb_ BK255 hb; replace BK256 := bb_ BK256 hb; replace HB := hs_ w hb; (try clear hb)))
  go_ret
  exact ⟨au3_0, bl_⟩
 obtain rfl := Option.some.inj H
 go_enter Tryd.func114, Tryd.ntmps114
 go_wp2_with (first | ((with_reducible refine gate_dst (N := 2) rfl ?_); refine be_ 2 #[.int .i64 a0_0, .slice A0_1 l0_1.length c0_1] 85 ?_; intro gb255 hg w6 hbox hb; have BK255 := am_ (hbox); have GW255 := am_ (gw_ hg bl_); have GE255 := GW255; replace HB := hs_ w hb; clear hb hbox hg) | ((with_reducible refine gate_dst (N := 3) rfl ?_); refine be_ 3 #[.int .i64 a1_0, .slice A1_1 l1_1.length c1_1] 85 ?_; intro gb256 hg w7 hbox hb; have BK256 := am_ (hbox); have GW256 := am_ (gw_ hg bl_); have GE256 := GW256; replace HB := hs_ w hb; have NB255_256 := am_ (gn_ hg (blkl_ BK255)); have NB256_255 := am_ (gm_ hg (blkl_ BK255)); replace BK255 := bb_ BK255 hb; clear hb hbox hg; have hnb8 := NB255_256.out; have hnc8 := NB256_255.out; obtain ⟨hcz9_0, hcz9_1, hfz9_0, hfz9_1⟩ := cellsF2 BK255.out; obtain ⟨hcz10_0, hcz10_1, hfz10_0, hfz10_1⟩ := cellsF2 BK256.out) | ((with_reducible refine gate_callee (f := 16) rfl ?_); refine gl_ 14 Tryd.func16 #[.slice A0_1 l0_1.length c0_1, .slice A1_1 l1_1.length c1_1] ?_ rfl rfl rfl rfl; (with_reducible refine (F16.calls k _ _ l0_1 _ _ l1_1 true _ ?s1 ?s2 ?s3 ?s4 A4.out).mono ?_); (case s1 => exact au3_2); (case s2 => exact HC0_1.out); (case s3 => exact au3_6); (case s4 => exact HC1_1.out); rintro e w11 ⟨rfl, hb⟩; refine ⟨_, rfl, ?_⟩; replace BK255 := bb_ BK255 hb; replace BK256 := bb_ BK256 hb; replace HB := hs_ w hb; (try clear hb)))
 go_ret
 exact ⟨au3_0, bl_⟩
/-! ### F90: function 90 -/
def F90.l0 : Nat → List (S85) → List (S85) → Int → Option (Bool)
  | 0, _, _, _ => none
  | k + 1, x0, x1, x5 => if x5 < (x0.length : Int) then (if 0 ≤ x5 then (if x5 < (x1.length : Int) then ((F114.f k ((rd_T85 x0 x5).f0) ((rd_T85 x0 x5).f1) ((rd_T85 x1 x5).f0) ((rd_T85 x1 x5).f1)).bind fun t260 => (if t260 = true then (F90.l0 k x0 x1 (wrap64 (x5 + 1))) else (some false))) else (none)) else (none)) else (some true)
def F90.f (k : Nat) (l0 : List (S85)) (l1 : List (S85)) : Option (Bool) := if (l0.length : Int) = (l1.length : Int) then (F90.l0 k l0 l1 0) else (some false)
theorem F90.mono_l : ∀ k, (∀ y0 y1 y2, LeO (F90.l0 k y0 y1 y2) (F90.l0 (k + 1) y0 y1 y2))
 | 0 => fun _ _ _ r h => by simp [F90.l0] at h
 | k + 1 => by
  have ih0 := F90.mono_l k
  intro y0 y1 y2
  unfold F90.l0
  repeat' with_reducible first | exact ih0 _ _ _ | exact F114.mono _ _ _ _ _ | exact LeO.refl _ | exact LeO.none _ | refine LeO.ite ?_ ?_ | refine LeO.bind ?_ (fun _ => ?_)
theorem F90.mono : ∀ a0 a1 k, LeO (F90.f k a0 a1) (F90.f (k + 1) a0 a1) := by
 intro a0 a1 k
 have ih0 := F90.mono_l k
 unfold F90.f
 repeat' with_reducible first | exact ih0 _ _ _ | exact F114.mono _ _ _ _ _ | exact LeO.refl _ | exact LeO.none _ | refine LeO.ite ?_ ?_ | refine LeO.bind ?_ (fun _ => ?_)
def F90.T6 : Bool × List (List Nat × List Nat) := (true, [([], []), ([], []), ([0, 1], [0, 1]), ([2], [2]), ([], []), ([], []), ([4, 5], [4, 5]), ([6], [6]), ([3, 7], [3, 7]), ([8], [8])])
def F90.B6 : List Nat := [0, 0, 3, 7, 0, 0, 48, 112, 255, 511]
theorem F90.tab6 : rtab .any (opsOf Tryd.f90 6) = F90.T6 := by kernel_rfl
theorem F90.bits6 : waitsOk F90.T6.2 F90.B6 = true := by kernel_rfl
theorem F90.calls (k : Nat) (A0 : Option Addr) (c0 : Nat) (l0 : List (S85)) (A1 : Option Addr) (c1 : Nat) (l1 : List (S85)) (r : Bool) (w : World) (hr0 : Kd.C k85 w A0 l0.length l0) (hc0 : l0.length ≤ c0) (hr1 : Kd.C k85 w A1 l1.length l1) (hc1 : l1.length ≤ c1) (h : F90.f k l0 l1 = some r) :
  Calls Tryd.prog 90 #[.slice A0 l0.length c0, .slice A1 l1.length c1] w fun e w' => e = .returned (.bool r) ∧ Below w.heap.size w w' := by
 have hu85 := Tryd.underlying85
 have HR0 := am_ hr0
 have HC0 := am_ hc0
 clear hr0 hc0
 have HR1 := am_ hr1
 have HC1 := am_ hc1
 clear hr1 hc1
 have HB := am_ (Below.refl w.heap.size w)
 have H : (if (l0.length : Int) = (l1.length : Int) then (F90.l0 k l0 l1 0) else (some false)) = some r := h
 clear h
 by_cases c3 : (l0.length : Int) = (l1.length : Int)
 rotate_left
 ·rw [if_neg c3] at H
  have c3b0 : ((l0.length : Int) == (l1.length : Int)) = false := beq_eq_false_iff_ne.mpr c3
  have c3b1 : ((l0.length : Int) != (l1.length : Int)) = true := bne_iff_ne.mpr c3
  have c3b2 : (l0.length == l1.length) = false := by first | simpa using c3 | (simp at c3 ⊢; omega)
  obtain rfl := Option.some.inj H
  go_enter Tryd.func90, Tryd.ntmps90
  go_wp2
  go_ret
  exact ⟨au3_0, bl_⟩

 rw [if_pos c3] at H
 have c3b0 : ((l0.length : Int) == (l1.length : Int)) = true := beq_iff_eq.mpr c3
 have c3b1 : ((l0.length : Int) != (l1.length : Int)) = false := bne_eq_false_iff_eq.mpr c3
 have c3b2 : (l0.length == l1.length) = true := by first | simpa using c3 | (simp at c3 ⊢; omega)
 clear c3
 have H' := am_ H
 clear H
 go_enter Tryd.func90, Tryd.ntmps90
 go_wp2
 go_loopg [5] k (fun kq v5 w' => ∃ (x5_1 : Int), v5 = .int .i64 x5_1 ∧ Aside0 (F90.l0 kq l0 l1 x5_1 = some r) ∧ Aside0 (kq ≤ k) ∧ Aside0 (Below w.heap.size w w'))
 case atStart => exact ⟨(0), er_, H', ⟨Nat.le_refl _⟩, ⟨bl_⟩⟩
 case round =>
  clear H'
  try clear c1
  try clear c3
  try clear c3b0
  try clear c3b1
  try clear c3b2
  obtain ⟨x5_1, rfl, HA, HK1, HB⟩ := hrel
  cases gk with
  | zero => exact absurd HA.out (by simp [F90.l0])
  | succ k1 =>
   have H := HA.out
   clear HA
   simp only [F90.l0] at H
   replace H := it_ H; rcases H with ⟨c4b0, H⟩ | ⟨c4b0, H⟩
   rotate_left
   ·obtain rfl := Option.some.inj H
    go_wp2
    go_ret
    exact ⟨au3_0, bl_⟩
   replace H := itn_ H; rcases H with ⟨c5b0, H⟩
   replace H := itn_ H; rcases H with ⟨c6b0, H⟩
   replace H := bi_ H; rcases H with ⟨t260, A7, H⟩
   replace H := ib_ H; rcases H with ⟨rfl, H⟩ | ⟨rfl, H⟩
   rotate_left
   ·obtain rfl := Option.some.inj H
    try go_wp2
    replace HB := am_ (below_drew1 HB.out)
    have p258 : 0 ≤ (x5_1 : Int) := od_
    have q258 : x5_1 < (l0.length : Int) := od_
    obtain ⟨ad258, A258_1, c258_1, e258, hx258_0, hx258_1, hl258_1, hi258_1⟩ := at_T85 HR0.out x5_1 p258 q258
    have hw258_1 := hx258_1
    have hw258_0 := hx258_0
    cases e258
    replace hx258_0 := (HB.out.cell (World.block_lt_of_cell? _ _ hx258_0)).trans hx258_0
    replace hx258_1 := (HB.out.cell (World.block_lt_of_cell? _ _ hx258_1)).trans hx258_1
    have HR258_1 := am_ hi258_1
    have HC258_1 := am_ hl258_1
    clear hi258_1 hl258_1
    replace p258 := eq_true p258
    replace q258 := eq_true q258
    have p259 : 0 ≤ (x5_1 : Int) := od_
    have q259 : x5_1 < (l1.length : Int) := od_
    obtain ⟨ad259, A259_1, c259_1, e259, hx259_0, hx259_1, hl259_1, hi259_1⟩ := at_T85 HR1.out x5_1 p259 q259
    have hw259_1 := hx259_1
    have hw259_0 := hx259_0
    cases e259
    replace hx259_0 := (HB.out.cell (World.block_lt_of_cell? _ _ hx259_0)).trans hx259_0
    replace hx259_1 := (HB.out.cell (World.block_lt_of_cell? _ _ hx259_1)).trans hx259_1
    have HR259_1 := am_ hi259_1
    have HC259_1 := am_ hl259_1
    clear hi259_1 hl259_1
    replace p259 := eq_true p259
    replace q259 := eq_true q259
    refine start_ (n := 10) (S := fun w' => w'.cell? (ad258.add ((x5_1).toNat * 2)) = some (.int .i64 ((rd_T85 l0 x5_1).f0)) ∧ w'.cell? ⟨(ad258.add ((x5_1).toNat * 2)).block, (ad258.add ((x5_1).toNat * 2)).off + 1, none⟩ = some (.slice A258_1 ((rd_T85 l0 x5_1).f1).length c258_1) ∧ w'.cell? (ad259.add ((x5_1).toNat * 2)) = some (.int .i64 ((rd_T85 l1 x5_1).f0)) ∧ w'.cell? ⟨(ad259.add ((x5_1).toNat * 2)).block, (ad259.add ((x5_1).toNat * 2)).off + 1, none⟩ = some (.slice A259_1 ((rd_T85 l1 x5_1).f1).length c259_1)) (ds := []) (bs 10 0) (by kernel_rfl) rfl rfl ⟨((HB.out.cell (World.block_lt_of_cell? _ _ hw258_0)).trans hw258_0), ((HB.out.cell (World.block_lt_of_cell? _ _ hw258_1)).trans hw258_1), ((HB.out.cell (World.block_lt_of_cell? _ _ hw259_0)).trans hw259_0), ((HB.out.cell (World.block_lt_of_cell? _ _ hw259_1)).trans hw259_1)⟩ (fun hHeld => ?_); refine with_tabW F90.tab6 F90.bits6 (fun HT_ HW_ => ?_)
    generalize wr.drew = w11 at HB HR258_1 HR259_1 hx258_0 hx258_1 hx259_0 hx259_1 hHeld ⊢
    refine pu_ 0 17 (bs 10 1) HT_ ?_ rfl rfl
    refine pu_ 1 18 (bs 10 3) HT_ ?_ rfl rfl
    refine pu_ 2 19 (bs 10 7) HT_ ?_ rfl rfl
    refine pu_ 4 21 (bs 10 23) HT_ ?_ rfl rfl
    refine pu_ 5 22 (bs 10 55) HT_ ?_ rfl rfl
    refine pu_ 6 23 (bs 10 119) HT_ ?_ rfl rfl
    refine tk_ 3 20 (bs 10 127) HT_ HW_ hHeld au3_8 ?_ rfl rfl
    refine tk_ 7 24 (bs 10 255) HT_ HW_ hHeld au3_8 ?_ rfl rfl
    refine one_ (i := 8) (N := some 25) (bs 10 511) rfl rfl (one_of HT_.out (by kernel_rfl)) (by decide) (fun K hK => ?_)
    refine gr_ Tryd.func114 #[.agg #[.int .i64 ((rd_T85 l0 x5_1).f0), .slice A258_1 ((rd_T85 l0 x5_1).f1).length c258_1], .agg #[.int .i64 ((rd_T85 l1 x5_1).f0), .slice A259_1 ((rd_T85 l1 x5_1).f1).length c259_1]] (by rfl) ?_ rfl rfl rfl
    with_reducible refine (F114.calls k1 ((rd_T85 l0 x5_1).f0) _ _ ((rd_T85 l0 x5_1).f1) ((rd_T85 l1 x5_1).f0) _ _ ((rd_T85 l1 x5_1).f1) false _ ?s1 ?s2 ?s3 ?s4 A7.out).mono ?_
    (case s1 => exact au3_17)
    (case s2 => exact HC258_1.out)
    (case s3 => exact au3_18)
    (case s4 => exact HC259_1.out)
    rintro e w12 ⟨rfl, hb⟩
    refine ⟨_, rfl, ?_⟩
    replace HB := hs_ w hb
    (try clear hb)
    (try clear hb2)
    (try clear hk)
    (try clear hi)
    refine hK.out _ _ ⟨((HB.out.cell (World.block_lt_of_cell? _ _ hw258_0)).trans hw258_0), ((HB.out.cell (World.block_lt_of_cell? _ _ hw258_1)).trans hw258_1), ((HB.out.cell (World.block_lt_of_cell? _ _ hw259_0)).trans hw259_0), ((HB.out.cell (World.block_lt_of_cell? _ _ hw259_1)).trans hw259_1)⟩ (fun hHeld => ?_)
    clear hK K
    refine no_ 25 ?_
    refine pu_ 9 26 (bs 10 1023) HT_ ?_ rfl rfl
    refine done_ (done_of HT_.out (by kernel_rfl)) ?_
    try go_wp2
    go_ret
    exact ⟨au3_0, bl_⟩
   have H' := am_ H
   clear H
   try go_wp2
   replace HB := am_ (below_drew1 HB.out)
   have p258 : 0 ≤ (x5_1 : Int) := od_
   have q258 : x5_1 < (l0.length : Int) := od_
   obtain ⟨ad258, A258_1, c258_1, e258, hx258_0, hx258_1, hl258_1, hi258_1⟩ := at_T85 HR0.out x5_1 p258 q258
   have hw258_1 := hx258_1
   have hw258_0 := hx258_0
   cases e258
   replace hx258_0 := (HB.out.cell (World.block_lt_of_cell? _ _ hx258_0)).trans hx258_0
   replace hx258_1 := (HB.out.cell (World.block_lt_of_cell? _ _ hx258_1)).trans hx258_1
   have HR258_1 := am_ hi258_1
   have HC258_1 := am_ hl258_1
   clear hi258_1 hl258_1
   replace p258 := eq_true p258
   replace q258 := eq_true q258
   have p259 : 0 ≤ (x5_1 : Int) := od_
   have q259 : x5_1 < (l1.length : Int) := od_
   obtain ⟨ad259, A259_1, c259_1, e259, hx259_0, hx259_1, hl259_1, hi259_1⟩ := at_T85 HR1.out x5_1 p259 q259
   have hw259_1 := hx259_1
   have hw259_0 := hx259_0
   cases e259
   replace hx259_0 := (HB.out.cell (World.block_lt_of_cell? _ _ hx259_0)).trans hx259_0
   replace hx259_1 := (HB.out.cell (World.block_lt_of_cell? _ _ hx259_1)).trans hx259_1
   have HR259_1 := am_ hi259_1
   have HC259_1 := am_ hl259_1
   clear hi259_1 hl259_1
   replace p259 := eq_true p259
   replace q259 := eq_true q259
   refine start_ (n := 10) (S := fun w' => w'.cell? (ad258.add ((x5_1).toNat * 2)) = some (.int .i64 ((rd_T85 l0 x5_1).f0)) ∧ w'.cell? ⟨(ad258.add ((x5_1).toNat * 2)).block, (ad258.add ((x5_1).toNat * 2)).off + 1, none⟩ = some (.slice A258_1 ((rd_T85 l0 x5_1).f1).length c258_1) ∧ w'.cell? (ad259.add ((x5_1).toNat * 2)) = some (.int .i64 ((rd_T85 l1 x5_1).f0)) ∧ w'.cell? ⟨(ad259.add ((x5_1).toNat * 2)).block, (ad259.add ((x5_1).toNat * 2)).off + 1, none⟩ = some (.slice A259_1 ((rd_T85 l1 x5_1).f1).length c259_1)) (ds := []) (bs 10 0) (by kernel_rfl) rfl rfl ⟨((HB.out.cell (World.block_lt_of_cell? _ _ hw258_0)).trans hw258_0), ((HB.out.cell (World.block_lt_of_cell? _ _ hw258_1)).trans hw258_1), ((HB.out.cell (World.block_lt_of_cell? _ _ hw259_0)).trans hw259_0), ((HB.out.cell (World.block_lt_of_cell? _ _ hw259_1)).trans hw259_1)⟩ (fun hHeld => ?_); refine with_tabW F90.tab6 F90.bits6 (fun HT_ HW_ => ?_)
   generalize wr.drew = w9 at HB HR258_1 HR259_1 hx258_0 hx258_1 hx259_0 hx259_1 hHeld ⊢
   refine pu_ 0 17 (bs 10 1) HT_ ?_ rfl rfl
   refine pu_ 1 18 (bs 10 3) HT_ ?_ rfl rfl
   refine pu_ 2 19 (bs 10 7) HT_ ?_ rfl rfl
   refine pu_ 4 21 (bs 10 23) HT_ ?_ rfl rfl
   refine pu_ 5 22 (bs 10 55) HT_ ?_ rfl rfl
   refine pu_ 6 23 (bs 10 119) HT_ ?_ rfl rfl
   refine tk_ 3 20 (bs 10 127) HT_ HW_ hHeld au3_8 ?_ rfl rfl
   refine tk_ 7 24 (bs 10 255) HT_ HW_ hHeld au3_8 ?_ rfl rfl
   refine one_ (i := 8) (N := some 25) (bs 10 511) rfl rfl (one_of HT_.out (by kernel_rfl)) (by decide) (fun K hK => ?_)
   refine gr_ Tryd.func114 #[.agg #[.int .i64 ((rd_T85 l0 x5_1).f0), .slice A258_1 ((rd_T85 l0 x5_1).f1).length c258_1], .agg #[.int .i64 ((rd_T85 l1 x5_1).f0), .slice A259_1 ((rd_T85 l1 x5_1).f1).length c259_1]] (by rfl) ?_ rfl rfl rfl
   with_reducible refine (F114.calls k1 ((rd_T85 l0 x5_1).f0) _ _ ((rd_T85 l0 x5_1).f1) ((rd_T85 l1 x5_1).f0) _ _ ((rd_T85 l1 x5_1).f1) true _ ?s1 ?s2 ?s3 ?s4 A7.out).mono ?_
   (case s1 => exact au3_17)
   (case s2 => exact HC258_1.out)
   (case s3 => exact au3_18)
   (case s4 => exact HC259_1.out)
   rintro e w10 ⟨rfl, hb⟩
   refine ⟨_, rfl, ?_⟩
   replace HB := hs_ w hb
   (try clear hb)
   (try clear hb2)
   (try clear hk)
   (try clear hi)
   refine hK.out _ _ ⟨((HB.out.cell (World.block_lt_of_cell? _ _ hw258_0)).trans hw258_0), ((HB.out.cell (World.block_lt_of_cell? _ _ hw258_1)).trans hw258_1), ((HB.out.cell (World.block_lt_of_cell? _ _ hw259_0)).trans hw259_0), ((HB.out.cell (World.block_lt_of_cell? _ _ hw259_1)).trans hw259_1)⟩ (fun hHeld => ?_)
   clear hK K
   refine no_ 25 ?_
   refine pu_ 9 26 (bs 10 1023) HT_ ?_ rfl rfl
   refine done_ (done_of HT_.out (by kernel_rfl)) ?_
   try go_wp2
   go_roundg k1
   case measure => have := HK1.out; omega
   case rel => exact ⟨(wrap64 (x5_1 + 1)), er_, H', ⟨by have := HK1.out; omega⟩, ⟨bl_⟩⟩
/-! ### F57: function 57 -/
def F57.f (k : Nat) (a0_0 : Int) (a0_1 : Int) (l0_2 : List (S85)) (a1_0 : Int) (a1_1 : Int) (l1_2 : List (S85)) : Option (Bool) := if a0_0 = a1_0 then (if a0_1 = a1_1 then ((F90.f k l0_2 l1_2).bind fun t263 => (if t263 = true then (some true) else (some false))) else (some false)) else (some false)
theorem F57.mono : ∀ a0 a1 a2 a3 a4 a5 k, LeO (F57.f k a0 a1 a2 a3 a4 a5) (F57.f (k + 1) a0 a1 a2 a3 a4 a5) := by
 intro a0 a1 a2 a3 a4 a5 k
 unfold F57.f
 repeat' with_reducible first | exact F90.mono _ _ _ | exact LeO.refl _ | exact LeO.none _ | refine LeO.ite ?_ ?_ | refine LeO.bind ?_ (fun _ => ?_)
theorem F57.calls (k : Nat) (a0_0 : Int) (a0_1 : Int) (A0_2 : Option Addr) (c0_2 : Nat) (l0_2 : List (S85)) (a1_0 : Int) (a1_1 : Int) (A1_2 : Option Addr) (c1_2 : Nat) (l1_2 : List (S85)) (r : Bool) (w : World) (hr0_2 : Kd.C k85 w A0_2 l0_2.length l0_2) (hc0_2 : l0_2.length ≤ c0_2) (hr1_2 : Kd.C k85 w A1_2 l1_2.length l1_2) (hc1_2 : l1_2.length ≤ c1_2) (h : F57.f k a0_0 a0_1 l0_2 a1_0 a1_1 l1_2 = some r) :
  Calls Tryd.prog 57 #[.agg #[.int .i64 a0_0, .int .i64 a0_1, .slice A0_2 l0_2.length c0_2], .agg #[.int .i64 a1_0, .int .i64 a1_1, .slice A1_2 l1_2.length c1_2]] w fun e w' => e = .returned (.bool r) ∧ Below w.heap.size w w' := by
 have hu83 := Tryd.underlying83
 have HR0_2 := am_ hr0_2
 have HC0_2 := am_ hc0_2
 clear hr0_2 hc0_2
 have HR1_2 := am_ hr1_2
 have HC1_2 := am_ hc1_2
 clear hr1_2 hc1_2
 have HB := am_ (Below.refl w.heap.size w)
 have H : (if a0_0 = a1_0 then (if a0_1 = a1_1 then ((F90.f k l0_2 l1_2).bind fun t263 => (if t263 = true then (some true) else (some false))) else (some false)) else (some false)) = some r := h
 clear h
 by_cases c3 : a0_0 = a1_0
 rotate_left
 ·rw [if_neg c3] at H
  have c3b0 : (a0_0 == a1_0) = false := beq_eq_false_iff_ne.mpr c3
  have c3b1 : (a0_0 != a1_0) = true := bne_iff_ne.mpr c3
  obtain rfl := Option.some.inj H
  go_enter Tryd.func57, Tryd.ntmps57
  go_wp2_with (first | ((with_reducible refine gate_dst (N := 2) rfl ?_); refine be_ 2 #[.int .i64 a0_0, .int .i64 a0_1, .slice A0_2 l0_2.length c0_2] 83 ?_; intro gb261 hg w24 hbox hb; have BK261 := am_ (hbox); have GW261 := am_ (gw_ hg bl_); have GE261 := GW261; replace HB := hs_ w hb; clear hb hbox hg) | ((with_reducible refine gate_dst (N := 3) rfl ?_); refine be_ 3 #[.int .i64 a1_0, .int .i64 a1_1, .slice A1_2 l1_2.length c1_2] 83 ?_; intro gb262 hg w25 hbox hb; have BK262 := am_ (hbox); have GW262 := am_ (gw_ hg bl_); have GE262 := GW262; replace HB := hs_ w hb; have NB261_262 := am_ (gn_ hg (blkl_ BK261)); have NB262_261 := am_ (gm_ hg (blkl_ BK261)); replace BK261 := bb_ BK261 hb; clear hb hbox hg; have hnb26 := NB261_262.out; have hnc26 := NB262_261.out; obtain ⟨hcz27_0, hcz27_1, hcz27_2, hfz27_0, hfz27_1, hfz27_2⟩ := cellsF3 BK261.out; obtain ⟨hcz28_0, hcz28_1, hcz28_2, hfz28_0, hfz28_1, hfz28_2⟩ := cellsF3 BK262.out))
  go_ret
  exact ⟨au3_0, bl_⟩

 rw [if_pos c3] at H
 have c3b0 : (a0_0 == a1_0) = true := beq_iff_eq.mpr c3
 have c3b1 : (a0_0 != a1_0) = false := bne_eq_false_iff_eq.mpr c3
 clear c3
 by_cases c4 : a0_1 = a1_1
 rotate_left
 ·rw [if_neg c4] at H
  have c4b0 : (a0_1 == a1_1) = false := beq_eq_false_iff_ne.mpr c4
  have c4b1 : (a0_1 != a1_1) = true := bne_iff_ne.mpr c4
  obtain rfl := Option.some.inj H
  go_enter Tryd.func57, Tryd.ntmps57
  go_wp2_with (first | ((with_reducible refine gate_dst (N := 2) rfl ?_); refine be_ 2 #[.int .i64 a0_0, .int .i64 a0_1, .slice A0_2 l0_2.length c0_2] 83 ?_; intro gb261 hg w19 hbox hb; have BK261 := am_ (hbox); have GW261 := am_ (gw_ hg bl_); have GE261 := GW261; replace HB := hs_ w hb; clear hb hbox hg) | ((with_reducible refine gate_dst (N := 3) rfl ?_); refine be_ 3 #[.int .i64 a1_0, .int .i64 a1_1, .slice A1_2 l1_2.length c1_2] 83 ?_; intro gb262 hg w20 hbox hb; have BK262 := am_ (hbox); have GW262 := am_ (gw_ hg bl_); have GE262 := GW262; replace HB := hs_ w hb; have NB261_262 := am_ (gn_ hg (blkl_ BK261)); have NB262_261 := am_ (gm_ hg (blkl_ BK261)); replace BK261 := bb_ BK261 hb; clear hb hbox hg; have hnb21 := NB261_262.out; have hnc21 := NB262_261.out; obtain ⟨hcz22_0, hcz22_1, hcz22_2, hfz22_0, hfz22_1, hfz22_2⟩ := cellsF3 BK261.out; obtain ⟨hcz23_0, hcz23_1, hcz23_2, hfz23_0, hfz23_1, hfz23_2⟩ := cellsF3 BK262.out))
  go_ret
  exact ⟨au3_0, bl_⟩
 rw [if_pos c4] at H
 have c4b0 : (a0_1 == a1_1) = true := beq_iff_eq.mpr c4
 have c4b1 : (a0_1 != a1_1) = false := bne_eq_false_iff_eq.mpr c4
 clear c4
 replace H := bi_ H; rcases H with ⟨t263, A5, H⟩
 replace H := ib_ H; rcases H with ⟨rfl, H⟩ | ⟨rfl, H⟩
 rotate_left
 ·obtain rfl := Option.some.inj H
  go_enter Tryd.func57, Tryd.ntmps57
  go_wp2_with (first | ((with_reducible refine gate_dst (N := 2) rfl ?_); refine be_ 2 #[.int .i64 a0_0, .int .i64 a0_1, .slice A0_2 l0_2.length c0_2] 83 ?_; intro gb261 hg w13 hbox hb; have BK261 := am_ (hbox); have GW261 := am_ (gw_ hg bl_); have GE261 := GW261; replace HB := hs_ w hb; clear hb hbox hg) | ((with_reducible refine gate_dst (N := 3) rfl ?_); refine be_ 3 #[.int .i64 a1_0, .int .i64 a1_1, .slice A1_2 l1_2.length c1_2] 83 ?_; intro gb262 hg w14 hbox hb; have BK262 := am_ (hbox); have GW262 := am_ (gw_ hg bl_); have GE262 := GW262; replace HB := hs_ w hb; have NB261_262 := am_ (gn_ hg (blkl_ BK261)); have NB262_261 := am_ (gm_ hg (blkl_ BK261)); replace BK261 := bb_ BK261 hb; clear hb hbox hg; have hnb15 := NB261_262.out; have hnc15 := NB262_261.out; obtain ⟨hcz16_0, hcz16_1, hcz16_2, hfz16_0, hfz16_1, hfz16_2⟩ := cellsF3 BK261.out; obtain ⟨hcz17_0, hcz17_1, hcz17_2, hfz17_0, hfz17_1, hfz17_2⟩ := cellsF3 BK262.out) | ((with_reducible refine gate_callee (f := 90) rfl ?_); refine gl_ 19 Tryd.func90 #[.slice A0_2 l0_2.length c0_2, .slice A1_2 l1_2.length c1_2] ?_ rfl rfl rfl rfl; (with_reducible refine (F90.calls k _ _ l0_2 _ _ l1_2 false _ ?s1 ?s2 ?s3 ?s4 A5.out).mono ?_); (case s1 => exact au3_23); (case s2 => exact HC0_2.out); (case s3 => exact au3_24); (case s4 => exact HC1_2.out); rintro e w18 ⟨rfl, hb⟩; refine ⟨_, rfl, ?_⟩; replace BK261 := bb_ BK261 hb; replace BK262 := bb_ BK262 hb; replace HB := hs_ w hb; (try clear hb)))
  go_ret
  exact ⟨au3_0, bl_⟩
 obtain rfl := Option.some.inj H
 go_enter Tryd.func57, Tryd.ntmps57
 go_wp2_with (first | ((with_reducible refine gate_dst (N := 2) rfl ?_); refine be_ 2 #[.int .i64 a0_0, .int .i64 a0_1, .slice A0_2 l0_2.length c0_2] 83 ?_; intro gb261 hg w7 hbox hb; have BK261 := am_ (hbox); have GW261 := am_ (gw_ hg bl_); have GE261 := GW261; replace HB := hs_ w hb; clear hb hbox hg) | ((with_reducible refine gate_dst (N := 3) rfl ?_); refine be_ 3 #[.int .i64 a1_0, .int .i64 a1_1, .slice A1_2 l1_2.length c1_2] 83 ?_; intro gb262 hg w8 hbox hb; have BK262 := am_ (hbox); have GW262 := am_ (gw_ hg bl_); have GE262 := GW262; replace HB := hs_ w hb; have NB261_262 := am_ (gn_ hg (blkl_ BK261)); have NB262_261 := am_ (gm_ hg (blkl_ BK261)); replace BK261 := bb_ BK261 hb; clear hb hbox hg; have hnb9 := NB261_262.out; have hnc9 := NB262_261.out; obtain ⟨hcz10_0, hcz10_1, hcz10_2, hfz10_0, hfz10_1, hfz10_2⟩ := cellsF3 BK261.out; obtain ⟨hcz11_0, hcz11_1, hcz11_2, hfz11_0, hfz11_1, hfz11_2⟩ := cellsF3 BK262.out) | ((with_reducible refine gate_callee (f := 90) rfl ?_); refine gl_ 19 Tryd.func90 #[.slice A0_2 l0_2.length c0_2, .slice A1_2 l1_2.length c1_2] ?_ rfl rfl rfl rfl; (with_reducible refine (F90.calls k _ _ l0_2 _ _ l1_2 true _ ?s1 ?s2 ?s3 ?s4 A5.out).mono ?_); (case s1 => exact au3_23); (case s2 => exact HC0_2.out); (case s3 => exact au3_24); (case s4 => exact HC1_2.out); rintro e w12 ⟨rfl, hb⟩; refine ⟨_, rfl, ?_⟩; replace BK261 := bb_ BK261 hb; replace BK262 := bb_ BK262 hb; replace HB := hs_ w hb; (try clear hb)))
 go_ret
 exact ⟨au3_0, bl_⟩
/-! ### F28: function 28 -/
def F28.l0 : Nat → List (S83) → List (S83) → Int → Option (Bool)
  | 0, _, _, _ => none
  | k + 1, x0, x1, x5 => if x5 < (x0.length : Int) then (if 0 ≤ x5 then (if x5 < (x1.length : Int) then ((F57.f k ((rd_T83 x0 x5).f0) ((rd_T83 x0 x5).f1) ((rd_T83 x0 x5).f2) ((rd_T83 x1 x5).f0) ((rd_T83 x1 x5).f1) ((rd_T83 x1 x5).f2)).bind fun t266 => (if t266 = true then (F28.l0 k x0 x1 (wrap64 (x5 + 1))) else (some false))) else (none)) else (none)) else (some true)
def F28.f (k : Nat) (l0 : List (S83)) (l1 : List (S83)) : Option (Bool) := if (l0.length : Int) = (l1.length : Int) then (F28.l0 k l0 l1 0) else (some false)
theorem F28.mono_l : ∀ k, (∀ y0 y1 y2, LeO (F28.l0 k y0 y1 y2) (F28.l0 (k + 1) y0 y1 y2))
 | 0 => fun _ _ _ r h => by simp [F28.l0] at h
 | k + 1 => by
  have ih0 := F28.mono_l k
  intro y0 y1 y2
  unfold F28.l0
  repeat' with_reducible first | exact ih0 _ _ _ | exact F57.mono _ _ _ _ _ _ _ | exact LeO.refl _ | exact LeO.none _ | refine LeO.ite ?_ ?_ | refine LeO.bind ?_ (fun _ => ?_)
theorem F28.mono : ∀ a0 a1 k, LeO (F28.f k a0 a1) (F28.f (k + 1) a0 a1) := by
 intro a0 a1 k
 have ih0 := F28.mono_l k
 unfold F28.f
 repeat' with_reducible first | exact ih0 _ _ _ | exact F57.mono _ _ _ _ _ _ _ | exact LeO.refl _ | exact LeO.none _ | refine LeO.ite ?_ ?_ | refine LeO.bind ?_ (fun _ => ?_)
def F28.T6 : Bool × List (List Nat × List Nat) := (true, [([], []), ([], []), ([0, 1], [0, 1]), ([2], [2]), ([], []), ([], []), ([4, 5], [4, 5]), ([6], [6]), ([3, 7], [3, 7]), ([8], [8])])
def F28.B6 : List Nat := [0, 0, 3, 7, 0, 0, 48, 112, 255, 511]
theorem F28.tab6 : rtab .any (opsOf Tryd.f28 6) = F28.T6 := by kernel_rfl
theorem F28.bits6 : waitsOk F28.T6.2 F28.B6 = true := by kernel_rfl
theorem F28.calls (k : Nat) (A0 : Option Addr) (c0 : Nat) (l0 : List (S83)) (A1 : Option Addr) (c1 : Nat) (l1 : List (S83)) (r : Bool) (w : World) (hr0 : Kd.C k83 w A0 l0.length l0) (hc0 : l0.length ≤ c0) (hr1 : Kd.C k83 w A1 l1.length l1) (hc1 : l1.length ≤ c1) (h : F28.f k l0 l1 = some r) :
  Calls Tryd.prog 28 #[.slice A0 l0.length c0, .slice A1 l1.length c1] w fun e w' => e = .returned (.bool r) ∧ Below w.heap.size w w' := by
 have hu83 := Tryd.underlying83
 have HR0 := am_ hr0
 have HC0 := am_ hc0
 clear hr0 hc0
 have HR1 := am_ hr1
 have HC1 := am_ hc1
 clear hr1 hc1
 have HB := am_ (Below.refl w.heap.size w)
 have H : (if (l0.length : Int) = (l1.length : Int) then (F28.l0 k l0 l1 0) else (some false)) = some r := h
 clear h
 by_cases c3 : (l0.length : Int) = (l1.length : Int)
 rotate_left
 ·rw [if_neg c3] at H
  have c3b0 : ((l0.length : Int) == (l1.length : Int)) = false := beq_eq_false_iff_ne.mpr c3
  have c3b1 : ((l0.length : Int) != (l1.length : Int)) = true := bne_iff_ne.mpr c3
  have c3b2 : (l0.length == l1.length) = false := by first | simpa using c3 | (simp at c3 ⊢; omega)
  obtain rfl := Option.some.inj H
  go_enter Tryd.func28, Tryd.ntmps28
  go_wp2
  go_ret
  exact ⟨au3_0, bl_⟩

 rw [if_pos c3] at H
 have c3b0 : ((l0.length : Int) == (l1.length : Int)) = true := beq_iff_eq.mpr c3
 have c3b1 : ((l0.length : Int) != (l1.length : Int)) = false := bne_eq_false_iff_eq.mpr c3
 have c3b2 : (l0.length == l1.length) = true := by first | simpa using c3 | (simp at c3 ⊢; omega)
 clear c3
 have H' := am_ H
 clear H
 go_enter Tryd.func28, Tryd.ntmps28
 go_wp2
 go_loopg [5] k (fun kq v5 w' => ∃ (x5_1 : Int), v5 = .int .i64 x5_1 ∧ Aside0 (F28.l0 kq l0 l1 x5_1 = some r) ∧ Aside0 (kq ≤ k) ∧ Aside0 (Below w.heap.size w w'))
 case atStart => exact ⟨(0), er_, H', ⟨Nat.le_refl _⟩, ⟨bl_⟩⟩
 case round =>
  clear H'
  try clear c1
  try clear c3
  try clear c3b0
  try clear c3b1
  try clear c3b2
  obtain ⟨x5_1, rfl, HA, HK1, HB⟩ := hrel
  cases gk with
  | zero => exact absurd HA.out (by simp [F28.l0])
  | succ k1 =>
   have H := HA.out
   clear HA
   simp only [F28.l0] at H
   replace H := it_ H; rcases H with ⟨c4b0, H⟩ | ⟨c4b0, H⟩
   rotate_left
   ·obtain rfl := Option.some.inj H
    go_wp2
    go_ret
    exact ⟨au3_0, bl_⟩
   replace H := itn_ H; rcases H with ⟨c5b0, H⟩
   replace H := itn_ H; rcases H with ⟨c6b0, H⟩
   replace H := bi_ H; rcases H with ⟨t266, A7, H⟩
   replace H := ib_ H; rcases H with ⟨rfl, H⟩ | ⟨rfl, H⟩
   rotate_left
   ·obtain rfl := Option.some.inj H
    try go_wp2
    replace HB := am_ (below_drew1 HB.out)
    have p264 : 0 ≤ (x5_1 : Int) := od_
    have q264 : x5_1 < (l0.length : Int) := od_
    obtain ⟨ad264, A264_2, c264_2, e264, hx264_0, hx264_1, hx264_2, hl264_2, hi264_2⟩ := at_T83 HR0.out x5_1 p264 q264
    have hw264_2 := hx264_2
    have hw264_1 := hx264_1
    have hw264_0 := hx264_0
    cases e264
    replace hx264_0 := (HB.out.cell (World.block_lt_of_cell? _ _ hx264_0)).trans hx264_0
    replace hx264_1 := (HB.out.cell (World.block_lt_of_cell? _ _ hx264_1)).trans hx264_1
    replace hx264_2 := (HB.out.cell (World.block_lt_of_cell? _ _ hx264_2)).trans hx264_2
    have HR264_2 := am_ hi264_2
    have HC264_2 := am_ hl264_2
    clear hi264_2 hl264_2
    replace p264 := eq_true p264
    replace q264 := eq_true q264
    have p265 : 0 ≤ (x5_1 : Int) := od_
    have q265 : x5_1 < (l1.length : Int) := od_
    obtain ⟨ad265, A265_2, c265_2, e265, hx265_0, hx265_1, hx265_2, hl265_2, hi265_2⟩ := at_T83 HR1.out x5_1 p265 q265
    have hw265_2 := hx265_2
    have hw265_1 := hx265_1
    have hw265_0 := hx265_0
    cases e265
    replace hx265_0 := (HB.out.cell (World.block_lt_of_cell? _ _ hx265_0)).trans hx265_0
    replace hx265_1 := (HB.out.cell (World.block_lt_of_cell? _ _ hx265_1)).trans hx265_1
    replace hx265_2 := (HB.out.cell (World.block_lt_of_cell? _ _ hx265_2)).trans hx265_2
    have HR265_2 := am_ hi265_2
    have HC265_2 := am_ hl265_2
    clear hi265_2 hl265_2
    replace p265 := eq_true p265
    replace q265 := eq_true q265
    refine start_ (n := 10) (S := fun w' => w'.cell? (ad264.add ((x5_1).toNat * 3)) = some (.int .i64 ((rd_T83 l0 x5_1).f0)) ∧ w'.cell? ⟨(ad264.add ((x5_1).toNat * 3)).block, (ad264.add ((x5_1).toNat * 3)).off + 1, none⟩ = some (.int .i64 ((rd_T83 l0 x5_1).f1)) ∧ w'.cell? ⟨(ad264.add ((x5_1).toNat * 3)).block, (ad264.add ((x5_1).toNat * 3)).off + 2, none⟩ = some (.slice A264_2 ((rd_T83 l0 x5_1).f2).length c264_2) ∧ w'.cell? (ad265.add ((x5_1).toNat * 3)) = some (.int .i64 ((rd_T83 l1 x5_1).f0)) ∧ w'.cell? ⟨(ad265.add ((x5_1).toNat * 3)).block, (ad265.add ((x5_1).toNat * 3)).off + 1, none⟩ = some (.int .i64 ((rd_T83 l1 x5_1).f1)) ∧ w'.cell? ⟨(ad265.add ((x5_1).toNat * 3)).block, (ad265.add ((x5_1).toNat * 3)).off + 2, none⟩ = some (.slice A265_2 ((rd_T83 l1 x5_1).f2).length c265_2)) (ds := []) (bs 10 0) (by kernel_rfl) rfl rfl ⟨((HB.out.cell (World.block_lt_of_cell? _ _ hw264_0)).trans hw264_0), ((HB.out.cell (World.block_lt_of_cell? _ _ hw264_1)).trans hw264_1), ((HB.out.cell (World.block_lt_of_cell? _ _ hw264_2)).trans hw264_2), ((HB.out.cell (World.block_lt_of_cell? _ _ hw265_0)).trans hw265_0), ((HB.out.cell (World.block_lt_of_cell? _ _ hw265_1)).trans hw265_1), ((HB.out.cell (World.block_lt_of_cell? _ _ hw265_2)).trans hw265_2)⟩ (fun hHeld => ?_); refine with_tabW F28.tab6 F28.bits6 (fun HT_ HW_ => ?_)
    generalize wr.drew = w11 at HB HR264_2 HR265_2 hx264_0 hx264_1 hx264_2 hx265_0 hx265_1 hx265_2 hHeld ⊢
    refine pu_ 0 17 (bs 10 1) HT_ ?_ rfl rfl
    refine pu_ 1 18 (bs 10 3) HT_ ?_ rfl rfl
    refine pu_ 2 19 (bs 10 7) HT_ ?_ rfl rfl
    refine pu_ 4 21 (bs 10 23) HT_ ?_ rfl rfl
    refine pu_ 5 22 (bs 10 55) HT_ ?_ rfl rfl
    refine pu_ 6 23 (bs 10 119) HT_ ?_ rfl rfl
    refine tk_ 3 20 (bs 10 127) HT_ HW_ hHeld au3_11 ?_ rfl rfl
    refine tk_ 7 24 (bs 10 255) HT_ HW_ hHeld au3_11 ?_ rfl rfl
    refine one_ (i := 8) (N := some 25) (bs 10 511) rfl rfl (one_of HT_.out (by kernel_rfl)) (by decide) (fun K hK => ?_)
    refine gr_ Tryd.func57 #[.agg #[.int .i64 ((rd_T83 l0 x5_1).f0), .int .i64 ((rd_T83 l0 x5_1).f1), .slice A264_2 ((rd_T83 l0 x5_1).f2).length c264_2], .agg #[.int .i64 ((rd_T83 l1 x5_1).f0), .int .i64 ((rd_T83 l1 x5_1).f1), .slice A265_2 ((rd_T83 l1 x5_1).f2).length c265_2]] (by rfl) ?_ rfl rfl rfl
    with_reducible refine (F57.calls k1 ((rd_T83 l0 x5_1).f0) ((rd_T83 l0 x5_1).f1) _ _ ((rd_T83 l0 x5_1).f2) ((rd_T83 l1 x5_1).f0) ((rd_T83 l1 x5_1).f1) _ _ ((rd_T83 l1 x5_1).f2) false _ ?s1 ?s2 ?s3 ?s4 A7.out).mono ?_
    (case s1 => exact au3_19)
    (case s2 => exact HC264_2.out)
    (case s3 => exact au3_20)
    (case s4 => exact HC265_2.out)
    rintro e w12 ⟨rfl, hb⟩
    refine ⟨_, rfl, ?_⟩
    replace HB := hs_ w hb
    (try clear hb)
    (try clear hb2)
    (try clear hk)
    (try clear hi)
    refine hK.out _ _ ⟨((HB.out.cell (World.block_lt_of_cell? _ _ hw264_0)).trans hw264_0), ((HB.out.cell (World.block_lt_of_cell? _ _ hw264_1)).trans hw264_1), ((HB.out.cell (World.block_lt_of_cell? _ _ hw264_2)).trans hw264_2), ((HB.out.cell (World.block_lt_of_cell? _ _ hw265_0)).trans hw265_0), ((HB.out.cell (World.block_lt_of_cell? _ _ hw265_1)).trans hw265_1), ((HB.out.cell (World.block_lt_of_cell? _ _ hw265_2)).trans hw265_2)⟩ (fun hHeld => ?_)
    clear hK K
    refine no_ 25 ?_
    refine pu_ 9 26 (bs 10 1023) HT_ ?_ rfl rfl
    refine done_ (done_of HT_.out (by kernel_rfl)) ?_
    try go_wp2
    go_ret
    exact ⟨au3_0, bl_⟩
   have H' := am_ H
   clear H
   try go_wp2
   replace HB := am_ (below_drew1 HB.out)
   have p264 : 0 ≤ (x5_1 : Int) := od_
   have q264 : x5_1 < (l0.length : Int) := od_
   obtain ⟨ad264, A264_2, c264_2, e264, hx264_0, hx264_1, hx264_2, hl264_2, hi264_2⟩ := at_T83 HR0.out x5_1 p264 q264
   have hw264_2 := hx264_2
   have hw264_1 := hx264_1
   have hw264_0 := hx264_0
   cases e264
   replace hx264_0 := (HB.out.cell (World.block_lt_of_cell? _ _ hx264_0)).trans hx264_0
   replace hx264_1 := (HB.out.cell (World.block_lt_of_cell? _ _ hx264_1)).trans hx264_1
   replace hx264_2 := (HB.out.cell (World.block_lt_of_cell? _ _ hx264_2)).trans hx264_2
   have HR264_2 := am_ hi264_2
   have HC264_2 := am_ hl264_2
   clear hi264_2 hl264_2
   replace p264 := eq_true p264
   replace q264 := eq_true q264
   have p265 : 0 ≤ (x5_1 : Int) := od_
   have q265 : x5_1 < (l1.length : Int) := od_
   obtain ⟨ad265, A265_2, c265_2, e265, hx265_0, hx265_1, hx265_2, hl265_2, hi265_2⟩ := at_T83 HR1.out x5_1 p265 q265
   have hw265_2 := hx265_2
   have hw265_1 := hx265_1
   have hw265_0 := hx265_0
   cases e265
   replace hx265_0 := (HB.out.cell (World.block_lt_of_cell? _ _ hx265_0)).trans hx265_0
   replace hx265_1 := (HB.out.cell (World.block_lt_of_cell? _ _ hx265_1)).trans hx265_1
   replace hx265_2 := (HB.out.cell (World.block_lt_of_cell? _ _ hx265_2)).trans hx265_2
   have HR265_2 := am_ hi265_2
   have HC265_2 := am_ hl265_2
   clear hi265_2 hl265_2
   replace p265 := eq_true p265
   replace q265 := eq_true q265
   refine start_ (n := 10) (S := fun w' => w'.cell? (ad264.add ((x5_1).toNat * 3)) = some (.int .i64 ((rd_T83 l0 x5_1).f0)) ∧ w'.cell? ⟨(ad264.add ((x5_1).toNat * 3)).block, (ad264.add ((x5_1).toNat * 3)).off + 1, none⟩ = some (.int .i64 ((rd_T83 l0 x5_1).f1)) ∧ w'.cell? ⟨(ad264.add ((x5_1).toNat * 3)).block, (ad264.add ((x5_1).toNat * 3)).off + 2, none⟩ = some (.slice A264_2 ((rd_T83 l0 x5_1).f2).length c264_2) ∧ w'.cell? (ad265.add ((x5_1).toNat * 3)) = some (.int .i64 ((rd_T83 l1 x5_1).f0)) ∧ w'.cell? ⟨(ad265.add ((x5_1).toNat * 3)).block, (ad265.add ((x5_1).toNat * 3)).off + 1, none⟩ = some (.int .i64 ((rd_T83 l1 x5_1).f1)) ∧ w'.cell? ⟨(ad265.add ((x5_1).toNat * 3)).block, (ad265.add ((x5_1).toNat * 3)).off + 2, none⟩ = some (.slice A265_2 ((rd_T83 l1 x5_1).f2).length c265_2)) (ds := []) (bs 10 0) (by kernel_rfl) rfl rfl ⟨((HB.out.cell (World.block_lt_of_cell? _ _ hw264_0)).trans hw264_0), ((HB.out.cell (World.block_lt_of_cell? _ _ hw264_1)).trans hw264_1), ((HB.out.cell (World.block_lt_of_cell? _ _ hw264_2)).trans hw264_2), ((HB.out.cell (World.block_lt_of_cell? _ _ hw265_0)).trans hw265_0), ((HB.out.cell (World.block_lt_of_cell? _ _ hw265_1)).trans hw265_1), ((HB.out.cell (World.block_lt_of_cell? _ _ hw265_2)).trans hw265_2)⟩ (fun hHeld => ?_); refine with_tabW F28.tab6 F28.bits6 (fun HT_ HW_ => ?_)
   generalize wr.drew = w9 at HB HR264_2 HR265_2 hx264_0 hx264_1 hx264_2 hx265_0 hx265_1 hx265_2 hHeld ⊢
   refine pu_ 0 17 (bs 10 1) HT_ ?_ rfl rfl
   refine pu_ 1 18 (bs 10 3) HT_ ?_ rfl rfl
   refine pu_ 2 19 (bs 10 7) HT_ ?_ rfl rfl
   refine pu_ 4 21 (bs 10 23) HT_ ?_ rfl rfl
   refine pu_ 5 22 (bs 10 55) HT_ ?_ rfl rfl
   refine pu_ 6 23 (bs 10 119) HT_ ?_ rfl rfl
   refine tk_ 3 20 (bs 10 127) HT_ HW_ hHeld au3_11 ?_ rfl rfl
   refine tk_ 7 24 (bs 10 255) HT_ HW_ hHeld au3_11 ?_ rfl rfl
   refine one_ (i := 8) (N := some 25) (bs 10 511) rfl rfl (one_of HT_.out (by kernel_rfl)) (by decide) (fun K hK => ?_)
   refine gr_ Tryd.func57 #[.agg #[.int .i64 ((rd_T83 l0 x5_1).f0), .int .i64 ((rd_T83 l0 x5_1).f1), .slice A264_2 ((rd_T83 l0 x5_1).f2).length c264_2], .agg #[.int .i64 ((rd_T83 l1 x5_1).f0), .int .i64 ((rd_T83 l1 x5_1).f1), .slice A265_2 ((rd_T83 l1 x5_1).f2).length c265_2]] (by rfl) ?_ rfl rfl rfl
   with_reducible refine (F57.calls k1 ((rd_T83 l0 x5_1).f0) ((rd_T83 l0 x5_1).f1) _ _ ((rd_T83 l0 x5_1).f2) ((rd_T83 l1 x5_1).f0) ((rd_T83 l1 x5_1).f1) _ _ ((rd_T83 l1 x5_1).f2) true _ ?s1 ?s2 ?s3 ?s4 A7.out).mono ?_
   (case s1 => exact au3_19)
   (case s2 => exact HC264_2.out)
   (case s3 => exact au3_20)
   (case s4 => exact HC265_2.out)
   rintro e w10 ⟨rfl, hb⟩
   refine ⟨_, rfl, ?_⟩
   replace HB := hs_ w hb
   (try clear hb)
   (try clear hb2)
   (try clear hk)
   (try clear hi)
   refine hK.out _ _ ⟨((HB.out.cell (World.block_lt_of_cell? _ _ hw264_0)).trans hw264_0), ((HB.out.cell (World.block_lt_of_cell? _ _ hw264_1)).trans hw264_1), ((HB.out.cell (World.block_lt_of_cell? _ _ hw264_2)).trans hw264_2), ((HB.out.cell (World.block_lt_of_cell? _ _ hw265_0)).trans hw265_0), ((HB.out.cell (World.block_lt_of_cell? _ _ hw265_1)).trans hw265_1), ((HB.out.cell (World.block_lt_of_cell? _ _ hw265_2)).trans hw265_2)⟩ (fun hHeld => ?_)
   clear hK K
   refine no_ 25 ?_
   refine pu_ 9 26 (bs 10 1023) HT_ ?_ rfl rfl
   refine done_ (done_of HT_.out (by kernel_rfl)) ?_
   try go_wp2
   go_roundg k1
   case measure => have := HK1.out; omega
   case rel => exact ⟨(wrap64 (x5_1 + 1)), er_, H', ⟨by have := HK1.out; omega⟩, ⟨bl_⟩⟩
/-! ### F10: function 10 -/
def F10.f (k : Nat) (a0_0 : ByteArray) (a0_1 : ByteArray) (a0_2 : Int) (l0_3 : List (S83)) (a1_0 : ByteArray) (a1_1 : ByteArray) (a1_2 : Int) (l1_3 : List (S83)) : Option (Bool) := if a0_0.toList = a1_0.toList then (if a0_1.toList = a1_1.toList then (if a0_2 = a1_2 then ((F28.f k l0_3 l1_3).bind fun t269 => (if t269 = true then (some true) else (some false))) else (some false)) else (some false)) else (some false)
theorem F10.mono : ∀ a0 a1 a2 a3 a4 a5 a6 a7 k, LeO (F10.f k a0 a1 a2 a3 a4 a5 a6 a7) (F10.f (k + 1) a0 a1 a2 a3 a4 a5 a6 a7) := by
 intro a0 a1 a2 a3 a4 a5 a6 a7 k
 unfold F10.f
 repeat' with_reducible first | exact F28.mono _ _ _ | exact LeO.refl _ | exact LeO.none _ | refine LeO.ite ?_ ?_ | refine LeO.bind ?_ (fun _ => ?_)
theorem F10.calls (k : Nat) (a0_0 : ByteArray) (a0_1 : ByteArray) (a0_2 : Int) (A0_3 : Option Addr) (c0_3 : Nat) (l0_3 : List (S83)) (a1_0 : ByteArray) (a1_1 : ByteArray) (a1_2 : Int) (A1_3 : Option Addr) (c1_3 : Nat) (l1_3 : List (S83)) (r : Bool) (w : World) (hr0_3 : Kd.C k83 w A0_3 l0_3.length l0_3) (hc0_3 : l0_3.length ≤ c0_3) (hr1_3 : Kd.C k83 w A1_3 l1_3.length l1_3) (hc1_3 : l1_3.length ≤ c1_3) (h : F10.f k a0_0 a0_1 a0_2 l0_3 a1_0 a1_1 a1_2 l1_3 = some r) :
  Calls Tryd.prog 10 #[.agg #[.string a0_0, .string a0_1, .int .i64 a0_2, .slice A0_3 l0_3.length c0_3], .agg #[.string a1_0, .string a1_1, .int .i64 a1_2, .slice A1_3 l1_3.length c1_3]] w fun e w' => e = .returned (.bool r) ∧ Below w.heap.size w w' := by
 have hu29 := Tryd.underlying29
 have HR0_3 := am_ hr0_3
 have HC0_3 := am_ hc0_3
 clear hr0_3 hc0_3
 have HR1_3 := am_ hr1_3
 have HC1_3 := am_ hc1_3
 clear hr1_3 hc1_3
 have HB := am_ (Below.refl w.heap.size w)
 have H : (if a0_0.toList = a1_0.toList then (if a0_1.toList = a1_1.toList then (if a0_2 = a1_2 then ((F28.f k l0_3 l1_3).bind fun t269 => (if t269 = true then (some true) else (some false))) else (some false)) else (some false)) else (some false)) = some r := h
 clear h
 by_cases c3 : a0_0.toList = a1_0.toList
 rotate_left
 ·rw [if_neg c3] at H
  have c3b0 : (a0_0.toList == a1_0.toList) = false := beq_eq_false_iff_ne.mpr c3
  have c3b1 : (a0_0.toList != a1_0.toList) = true := bne_iff_ne.mpr c3
  obtain rfl := Option.some.inj H
  go_enter Tryd.func10, Tryd.ntmps10
  go_wp2_with (first | ((with_reducible refine gate_dst (N := 2) rfl ?_); refine be_ 2 #[.string a0_0, .string a0_1, .int .i64 a0_2, .slice A0_3 l0_3.length c0_3] 29 ?_; intro gb267 hg w30 hbox hb; have BK267 := am_ (hbox); have GW267 := am_ (gw_ hg bl_); have GE267 := GW267; replace HB := hs_ w hb; clear hb hbox hg) | ((with_reducible refine gate_dst (N := 3) rfl ?_); refine be_ 3 #[.string a1_0, .string a1_1, .int .i64 a1_2, .slice A1_3 l1_3.length c1_3] 29 ?_; intro gb268 hg w31 hbox hb; have BK268 := am_ (hbox); have GW268 := am_ (gw_ hg bl_); have GE268 := GW268; replace HB := hs_ w hb; have NB267_268 := am_ (gn_ hg (blkl_ BK267)); have NB268_267 := am_ (gm_ hg (blkl_ BK267)); replace BK267 := bb_ BK267 hb; clear hb hbox hg; have hnb32 := NB267_268.out; have hnc32 := NB268_267.out; obtain ⟨hcz33_0, hcz33_1, hcz33_2, hcz33_3, hfz33_0, hfz33_1, hfz33_2, hfz33_3⟩ := cellsF4 BK267.out; obtain ⟨hcz34_0, hcz34_1, hcz34_2, hcz34_3, hfz34_0, hfz34_1, hfz34_2, hfz34_3⟩ := cellsF4 BK268.out))
  go_ret
  exact ⟨au3_0, bl_⟩

 rw [if_pos c3] at H
 have c3b0 : (a0_0.toList == a1_0.toList) = true := beq_iff_eq.mpr c3
 have c3b1 : (a0_0.toList != a1_0.toList) = false := bne_eq_false_iff_eq.mpr c3
 clear c3
 by_cases c4 : a0_1.toList = a1_1.toList
 rotate_left
 ·rw [if_neg c4] at H
  have c4b0 : (a0_1.toList == a1_1.toList) = false := beq_eq_false_iff_ne.mpr c4
  have c4b1 : (a0_1.toList != a1_1.toList) = true := bne_iff_ne.mpr c4
  obtain rfl := Option.some.inj H
  go_enter Tryd.func10, Tryd.ntmps10
  go_wp2_with (first | ((with_reducible refine gate_dst (N := 2) rfl ?_); refine be_ 2 #[.string a0_0, .string a0_1, .int .i64 a0_2, .slice A0_3 l0_3.length c0_3] 29 ?_; intro gb267 hg w25 hbox hb; have BK267 := am_ (hbox); have GW267 := am_ (gw_ hg bl_); have GE267 := GW267; replace HB := hs_ w hb; clear hb hbox hg) | ((with_reducible refine gate_dst (N := 3) rfl ?_); refine be_ 3 #[.string a1_0, .string a1_1, .int .i64 a1_2, .slice A1_3 l1_3.length c1_3] 29 ?_; intro gb268 hg w26 hbox hb; have BK268 := am_ (hbox); have GW268 := am_ (gw_ hg bl_); have GE268 := GW268; replace HB := hs_ w hb; have NB267_268 := am_ (gn_ hg (blkl_ BK267)); have NB268_267 := am_ (gm_ hg (blkl_ BK267)); replace BK267 := bb_ BK267 hb; clear hb hbox hg; have hnb27 := NB267_268.out; have hnc27 := NB268_267.out; obtain ⟨hcz28_0, hcz28_1, hcz28_2, hcz28_3, hfz28_0, hfz28_1, hfz28_2, hfz28_3⟩ := cellsF4 BK267.out; obtain ⟨hcz29_0, hcz29_1, hcz29_2, hcz29_3, hfz29_0, hfz29_1, hfz29_2, hfz29_3⟩ := cellsF4 BK268.out))
  go_ret
  exact ⟨au3_0, bl_⟩
 rw [if_pos c4] at H
 have c4b0 : (a0_1.toList == a1_1.toList) = true := beq_iff_eq.mpr c4
 have c4b1 : (a0_1.toList != a1_1.toList) = false := bne_eq_false_iff_eq.mpr c4
 clear c4
 by_cases c5 : a0_2 = a1_2
 rotate_left
 ·rw [if_neg c5] at H
  have c5b0 : (a0_2 == a1_2) = false := beq_eq_false_iff_ne.mpr c5
  have c5b1 : (a0_2 != a1_2) = true := bne_iff_ne.mpr c5
  obtain rfl := Option.some.inj H
  go_enter Tryd.func10, Tryd.ntmps10
  go_wp2_with (first | ((with_reducible refine gate_dst (N := 2) rfl ?_); refine be_ 2 #[.string a0_0, .string a0_1, .int .i64 a0_2, .slice A0_3 l0_3.length c0_3] 29 ?_; intro gb267 hg w20 hbox hb; have BK267 := am_ (hbox); have GW267 := am_ (gw_ hg bl_); have GE267 := GW267; replace HB := hs_ w hb; clear hb hbox hg) | ((with_reducible refine gate_dst (N := 3) rfl ?_); refine be_ 3 #[.string a1_0, .string a1_1, .int .i64 a1_2, .slice A1_3 l1_3.length c1_3] 29 ?_; intro gb268 hg w21 hbox hb; have BK268 := am_ (hbox); have GW268 := am_ (gw_ hg bl_); have GE268 := GW268; replace HB := hs_ w hb; have NB267_268 := am_ (gn_ hg (blkl_ BK267)); have NB268_267 := am_ (gm_ hg (blkl_ BK267)); replace BK267 := bb_ BK267 hb; clear hb hbox hg; have hnb22 := NB267_268.out; have hnc22 := NB268_267.out; obtain ⟨hcz23_0, hcz23_1, hcz23_2, hcz23_3, hfz23_0, hfz23_1, hfz23_2, hfz23_3⟩ := cellsF4 BK267.out; obtain ⟨hcz24_0, hcz24_1, hcz24_2, hcz24_3, hfz24_0, hfz24_1, hfz24_2, hfz24_3⟩ := cellsF4 BK268.out))
  go_ret
  exact ⟨au3_0, bl_⟩
 rw [if_pos c5] at H
 have c5b0 : (a0_2 == a1_2) = true := beq_iff_eq.mpr c5
 have c5b1 : (a0_2 != a1_2) = false := bne_eq_false_iff_eq.mpr c5
 clear c5
 replace H := bi_ H; rcases H with ⟨t269, A6, H⟩
 replace H := ib_ H; rcases H with ⟨rfl, H⟩ | ⟨rfl, H⟩
 rotate_left
 ·obtain rfl := Option.some.inj H
  go_enter Tryd.func10, Tryd.ntmps10
  go_wp2_with (first | ((with_reducible refine gate_dst (N := 2) rfl ?_); refine be_ 2 #[.string a0_0, .string a0_1, .int .i64 a0_2, .slice A0_3 l0_3.length c0_3] 29 ?_; intro gb267 hg w14 hbox hb; have BK267 := am_ (hbox); have GW267 := am_ (gw_ hg bl_); have GE267 := GW267; replace HB := hs_ w hb; clear hb hbox hg) | ((with_reducible refine gate_dst (N := 3) rfl ?_); refine be_ 3 #[.string a1_0, .string a1_1, .int .i64 a1_2, .slice A1_3 l1_3.length c1_3] 29 ?_; intro gb268 hg w15 hbox hb; have BK268 := am_ (hbox); have GW268 := am_ (gw_ hg bl_); have GE268 := GW268; replace HB := hs_ w hb; have NB267_268 := am_ (gn_ hg (blkl_ BK267)); have NB268_267 := am_ (gm_ hg (blkl_ BK267)); replace BK267 := bb_ BK267 hb; clear hb hbox hg; have hnb16 := NB267_268.out; have hnc16 := NB268_267.out; obtain ⟨hcz17_0, hcz17_1, hcz17_2, hcz17_3, hfz17_0, hfz17_1, hfz17_2, hfz17_3⟩ := cellsF4 BK267.out; obtain ⟨hcz18_0, hcz18_1, hcz18_2, hcz18_3, hfz18_0, hfz18_1, hfz18_2, hfz18_3⟩ := cellsF4 BK268.out) | ((with_reducible refine gate_callee (f := 28) rfl ?_); refine gl_ 24 Tryd.func28 #[.slice A0_3 l0_3.length c0_3, .slice A1_3 l1_3.length c1_3] ?_ rfl rfl rfl rfl; (with_reducible refine (F28.calls k _ _ l0_3 _ _ l1_3 false _ ?s1 ?s2 ?s3 ?s4 A6.out).mono ?_); (case s1 => exact au3_3); (case s2 => exact HC0_3.out); (case s3 => exact au3_4); (case s4 => exact HC1_3.out); rintro e w19 ⟨rfl, hb⟩; refine ⟨_, rfl, ?_⟩; replace BK267 := bb_ BK267 hb; replace BK268 := bb_ BK268 hb; replace HB := hs_ w hb; (try clear hb)))
  go_ret
  exact ⟨au3_0, bl_⟩
 obtain rfl := Option.some.inj H
 go_enter Tryd.func10, Tryd.ntmps10
 go_wp2_with (first | ((with_reducible refine gate_dst (N := 2) rfl ?_); refine be_ 2 #[.string a0_0, .string a0_1, .int .i64 a0_2, .slice A0_3 l0_3.length c0_3] 29 ?_; intro gb267 hg w8 hbox hb; have BK267 := am_ (hbox); have GW267 := am_ (gw_ hg bl_); have GE267 := GW267; replace HB := hs_ w hb; clear hb hbox hg) | ((with_reducible refine gate_dst (N := 3) rfl ?_); refine be_ 3 #[.string a1_0, .string a1_1, .int .i64 a1_2, .slice A1_3 l1_3.length c1_3] 29 ?_; intro gb268 hg w9 hbox hb; have BK268 := am_ (hbox); have GW268 := am_ (gw_ hg bl_); have GE268 := GW268; replace HB := hs_ w hb; have NB267_268 := am_ (gn_ hg (blkl_ BK267)); have NB268_267 := am_ (gm_ hg (blkl_ BK267)); replace BK267 := bb_ BK267 hb; clear hb hbox hg; have hnb10 := NB267_268.out; have hnc10 := NB268_267.out; obtain ⟨hcz11_0, hcz11_1, hcz11_2, hcz11_3, hfz11_0, hfz11_1, hfz11_2, hfz11_3⟩ := cellsF4 BK267.out; obtain ⟨hcz12_0, hcz12_1, hcz12_2, hcz12_3, hfz12_0, hfz12_1, hfz12_2, hfz12_3⟩ := cellsF4 BK268.out) | ((with_reducible refine gate_callee (f := 28) rfl ?_); refine gl_ 24 Tryd.func28 #[.slice A0_3 l0_3.length c0_3, .slice A1_3 l1_3.length c1_3] ?_ rfl rfl rfl rfl; (with_reducible refine (F28.calls k _ _ l0_3 _ _ l1_3 true _ ?s1 ?s2 ?s3 ?s4 A6.out).mono ?_); (case s1 => exact au3_3); (case s2 => exact HC0_3.out); (case s3 => exact au3_4); (case s4 => exact HC1_3.out); rintro e w13 ⟨rfl, hb⟩; refine ⟨_, rfl, ?_⟩; replace BK267 := bb_ BK267 hb; replace BK268 := bb_ BK268 hb; replace HB := hs_ w hb; (try clear hb)))
 go_ret
 exact ⟨au3_0, bl_⟩
/-! ### F15: function 15 -/
def F15.f (k : Nat) (a0_0 : ByteArray) (a0_1 : ByteArray) (a0_2 : Int) (l0_3 : List (S83)) (a0_4 : Bool) (a0_5 : Int) (a0_6 : Int) (a1_0 : ByteArray) (a1_1 : ByteArray) (a1_2 : Int) (l1_3 : List (S83)) (a1_4 : Bool) (a1_5 : Int) (a1_6 : Int) : Option (Bool) := (F10.f k a0_0 a0_1 a0_2 l0_3 a1_0 a1_1 a1_2 l1_3).bind fun t272 => (if t272 = true then (if (a0_4 != a1_4) = true then (some false) else (if a0_5 = a1_5 then (if a0_6 = a1_6 then (some true) else (some false)) else (some false))) else (some false))
theorem F15.mono : ∀ a0 a1 a2 a3 a4 a5 a6 a7 a8 a9 a10 a11 a12 a13 k, LeO (F15.f k a0 a1 a2 a3 a4 a5 a6 a7 a8 a9 a10 a11 a12 a13) (F15.f (k + 1) a0 a1 a2 a3 a4 a5 a6 a7 a8 a9 a10 a11 a12 a13) := by
 intro a0 a1 a2 a3 a4 a5 a6 a7 a8 a9 a10 a11 a12 a13 k
 unfold F15.f
 repeat' with_reducible first | exact F10.mono _ _ _ _ _ _ _ _ _ | exact LeO.refl _ | exact LeO.none _ | refine LeO.ite ?_ ?_ | refine LeO.bind ?_ (fun _ => ?_)
theorem F15.calls (k : Nat) (a0_0 : ByteArray) (a0_1 : ByteArray) (a0_2 : Int) (A0_3 : Option Addr) (c0_3 : Nat) (l0_3 : List (S83)) (a0_4 : Bool) (a0_5 : Int) (a0_6 : Int) (a1_0 : ByteArray) (a1_1 : ByteArray) (a1_2 : Int) (A1_3 : Option Addr) (c1_3 : Nat) (l1_3 : List (S83)) (a1_4 : Bool) (a1_5 : Int) (a1_6 : Int) (r : Bool) (w : World) (hr0_3 : Kd.C k83 w A0_3 l0_3.length l0_3) (hc0_3 : l0_3.length ≤ c0_3) (hr1_3 : Kd.C k83 w A1_3 l1_3.length l1_3) (hc1_3 : l1_3.length ≤ c1_3) (h : F15.f k a0_0 a0_1 a0_2 l0_3 a0_4 a0_5 a0_6 a1_0 a1_1 a1_2 l1_3 a1_4 a1_5 a1_6 = some r) :
  Calls Tryd.prog 15 #[.agg #[.string a0_0, .string a0_1, .int .i64 a0_2, .slice A0_3 l0_3.length c0_3, .bool a0_4, .int .i64 a0_5, .int .i64 a0_6], .agg #[.string a1_0, .string a1_1, .int .i64 a1_2, .slice A1_3 l1_3.length c1_3, .bool a1_4, .int .i64 a1_5, .int .i64 a1_6]] w fun e w' => e = .returned (.bool r) ∧ Below w.heap.size w w' := by
 have hu36 := Tryd.underlying36
 have hu29 := Tryd.underlying29
 have HR0_3 := am_ hr0_3
 have HC0_3 := am_ hc0_3
 clear hr0_3 hc0_3
 have HR1_3 := am_ hr1_3
 have HC1_3 := am_ hc1_3
 clear hr1_3 hc1_3
 have HB := am_ (Below.refl w.heap.size w)
 have H : ((F10.f k a0_0 a0_1 a0_2 l0_3 a1_0 a1_1 a1_2 l1_3).bind fun t272 => (if t272 = true then (if (a0_4 != a1_4) = true then (some false) else (if a0_5 = a1_5 then (if a0_6 = a1_6 then (some true) else (some false)) else (some false))) else (some false))) = some r := h
 clear h
 replace H := bi_ H; rcases H with ⟨t272, A3, H⟩
 replace H := ib_ H; rcases H with ⟨rfl, H⟩ | ⟨rfl, H⟩
 rotate_left
 ·obtain rfl := Option.some.inj H
  go_enter Tryd.func15, Tryd.ntmps15
  go_wp2_with (first | ((with_reducible refine gate_dst (N := 2) rfl ?_); refine be_ 2 #[.string a0_0, .string a0_1, .int .i64 a0_2, .slice A0_3 l0_3.length c0_3, .bool a0_4, .int .i64 a0_5, .int .i64 a0_6] 36 ?_; intro gb270 hg w40 hbox hb; have BK270 := am_ (hbox); have GW270 := am_ (gw_ hg bl_); have GE270 := GW270; replace HB := hs_ w hb; clear hb hbox hg) | ((with_reducible refine gate_dst (N := 3) rfl ?_); refine be_ 3 #[.string a1_0, .string a1_1, .int .i64 a1_2, .slice A1_3 l1_3.length c1_3, .bool a1_4, .int .i64 a1_5, .int .i64 a1_6] 36 ?_; intro gb271 hg w41 hbox hb; have BK271 := am_ (hbox); have GW271 := am_ (gw_ hg bl_); have GE271 := GW271; replace HB := hs_ w hb; have NB270_271 := am_ (gn_ hg (blkl_ BK270)); have NB271_270 := am_ (gm_ hg (blkl_ BK270)); replace BK270 := bb_ BK270 hb; clear hb hbox hg; have hnb42 := NB270_271.out; have hnc42 := NB271_270.out; obtain ⟨hcz43_0, hcz43_1, hcz43_2, hcz43_3, hcz43_4, hcz43_5, hcz43_6, hfz43_0, hfz43_1, hfz43_2, hfz43_3, hfz43_4, hfz43_5, hfz43_6⟩ := cellsF7 BK270.out; obtain ⟨hcz44_0, hcz44_1, hcz44_2, hcz44_3, hcz44_4, hcz44_5, hcz44_6, hfz44_0, hfz44_1, hfz44_2, hfz44_3, hfz44_4, hfz44_5, hfz44_6⟩ := cellsF7 BK271.out) | ((with_reducible refine gate_callee (f := 10) rfl ?_); refine gl_ 9 Tryd.func10 #[.agg #[.string a0_0, .string a0_1, .int .i64 a0_2, .slice A0_3 l0_3.length c0_3], .agg #[.string a1_0, .string a1_1, .int .i64 a1_2, .slice A1_3 l1_3.length c1_3]] ?_ rfl rfl rfl rfl; (with_reducible refine (F10.calls k a0_0 a0_1 a0_2 _ _ l0_3 a1_0 a1_1 a1_2 _ _ l1_3 false _ ?s1 ?s2 ?s3 ?s4 A3.out).mono ?_); (case s1 => exact au3_3); (case s2 => exact HC0_3.out); (case s3 => exact au3_4); (case s4 => exact HC1_3.out); rintro e w45 ⟨rfl, hb⟩; refine ⟨_, rfl, ?_⟩; replace BK270 := bb_ BK270 hb; replace BK271 := bb_ BK271 hb; replace HB := hs_ w hb; (try clear hb)))
  go_ret
  exact ⟨au3_0, bl_⟩

 by_cases c5 : (a0_4 != a1_4) = true
 ·rw [if_pos c5] at H
  have c5b0 : (a0_4 != a1_4) = true := c5
  (try (have c5b1 : decide (a0_4 = a1_4) = false := by simpa using c5))
  (try (have c5b2 : (a0_4 == a1_4) = false := by simpa using c5))
  (try (have c5b3 : ¬ (a0_4 = a1_4) := by simpa using c5))
  clear c5
  obtain rfl := Option.some.inj H
  go_enter Tryd.func15, Tryd.ntmps15
  go_wp2_with (first | ((with_reducible refine gate_dst (N := 2) rfl ?_); refine be_ 2 #[.string a0_0, .string a0_1, .int .i64 a0_2, .slice A0_3 l0_3.length c0_3, .bool a0_4, .int .i64 a0_5, .int .i64 a0_6] 36 ?_; intro gb270 hg w6 hbox hb; have BK270 := am_ (hbox); have GW270 := am_ (gw_ hg bl_); have GE270 := GW270; replace HB := hs_ w hb; clear hb hbox hg) | ((with_reducible refine gate_dst (N := 3) rfl ?_); refine be_ 3 #[.string a1_0, .string a1_1, .int .i64 a1_2, .slice A1_3 l1_3.length c1_3, .bool a1_4, .int .i64 a1_5, .int .i64 a1_6] 36 ?_; intro gb271 hg w7 hbox hb; have BK271 := am_ (hbox); have GW271 := am_ (gw_ hg bl_); have GE271 := GW271; replace HB := hs_ w hb; have NB270_271 := am_ (gn_ hg (blkl_ BK270)); have NB271_270 := am_ (gm_ hg (blkl_ BK270)); replace BK270 := bb_ BK270 hb; clear hb hbox hg; have hnb8 := NB270_271.out; have hnc8 := NB271_270.out; obtain ⟨hcz9_0, hcz9_1, hcz9_2, hcz9_3, hcz9_4, hcz9_5, hcz9_6, hfz9_0, hfz9_1, hfz9_2, hfz9_3, hfz9_4, hfz9_5, hfz9_6⟩ := cellsF7 BK270.out; obtain ⟨hcz10_0, hcz10_1, hcz10_2, hcz10_3, hcz10_4, hcz10_5, hcz10_6, hfz10_0, hfz10_1, hfz10_2, hfz10_3, hfz10_4, hfz10_5, hfz10_6⟩ := cellsF7 BK271.out) | ((with_reducible refine gate_callee (f := 10) rfl ?_); refine gl_ 9 Tryd.func10 #[.agg #[.string a0_0, .string a0_1, .int .i64 a0_2, .slice A0_3 l0_3.length c0_3], .agg #[.string a1_0, .string a1_1, .int .i64 a1_2, .slice A1_3 l1_3.length c1_3]] ?_ rfl rfl rfl rfl; (with_reducible refine (F10.calls k a0_0 a0_1 a0_2 _ _ l0_3 a1_0 a1_1 a1_2 _ _ l1_3 true _ ?s1 ?s2 ?s3 ?s4 A3.out).mono ?_); (case s1 => exact au3_3); (case s2 => exact HC0_3.out); (case s3 => exact au3_4); (case s4 => exact HC1_3.out); rintro e w11 ⟨rfl, hb⟩; refine ⟨_, rfl, ?_⟩; replace BK270 := bb_ BK270 hb; replace BK271 := bb_ BK271 hb; replace HB := hs_ w hb; (try clear hb); obtain ⟨hcz12_0, hcz12_1, hcz12_2, hcz12_3, hcz12_4, hcz12_5, hcz12_6, hfz12_0, hfz12_1, hfz12_2, hfz12_3, hfz12_4, hfz12_5, hfz12_6⟩ := cellsF7 BK270.out; obtain ⟨hcz13_0, hcz13_1, hcz13_2, hcz13_3, hcz13_4, hcz13_5, hcz13_6, hfz13_0, hfz13_1, hfz13_2, hfz13_3, hfz13_4, hfz13_5, hfz13_6⟩ := cellsF7 BK271.out))
  go_ret
  exact ⟨au3_0, bl_⟩
 rw [if_neg c5] at H
 have c5b0 : (a0_4 != a1_4) = false := by simpa using c5
 (try (have c5b1 : decide (a0_4 = a1_4) = true := by simpa using c5))
 (try (have c5b2 : (a0_4 == a1_4) = true := by simpa using c5))
 clear c5
 by_cases c14 : a0_5 = a1_5
 rotate_left
 ·rw [if_neg c14] at H
  have c14b0 : (a0_5 == a1_5) = false := beq_eq_false_iff_ne.mpr c14
  have c14b1 : (a0_5 != a1_5) = true := bne_iff_ne.mpr c14
  obtain rfl := Option.some.inj H
  go_enter Tryd.func15, Tryd.ntmps15
  go_wp2_with (first | ((with_reducible refine gate_dst (N := 2) rfl ?_); refine be_ 2 #[.string a0_0, .string a0_1, .int .i64 a0_2, .slice A0_3 l0_3.length c0_3, .bool a0_4, .int .i64 a0_5, .int .i64 a0_6] 36 ?_; intro gb270 hg w32 hbox hb; have BK270 := am_ (hbox); have GW270 := am_ (gw_ hg bl_); have GE270 := GW270; replace HB := hs_ w hb; clear hb hbox hg) | ((with_reducible refine gate_dst (N := 3) rfl ?_); refine be_ 3 #[.string a1_0, .string a1_1, .int .i64 a1_2, .slice A1_3 l1_3.length c1_3, .bool a1_4, .int .i64 a1_5, .int .i64 a1_6] 36 ?_; intro gb271 hg w33 hbox hb; have BK271 := am_ (hbox); have GW271 := am_ (gw_ hg bl_); have GE271 := GW271; replace HB := hs_ w hb; have NB270_271 := am_ (gn_ hg (blkl_ BK270)); have NB271_270 := am_ (gm_ hg (blkl_ BK270)); replace BK270 := bb_ BK270 hb; clear hb hbox hg; have hnb34 := NB270_271.out; have hnc34 := NB271_270.out; obtain ⟨hcz35_0, hcz35_1, hcz35_2, hcz35_3, hcz35_4, hcz35_5, hcz35_6, hfz35_0, hfz35_1, hfz35_2, hfz35_3, hfz35_4, hfz35_5, hfz35_6⟩ := cellsF7 BK270.out; obtain ⟨hcz36_0, hcz36_1, hcz36_2, hcz36_3, hcz36_4, hcz36_5, hcz36_6, hfz36_0, hfz36_1, hfz36_2, hfz36_3, hfz36_4, hfz36_5, hfz36_6⟩ := cellsF7 BK271.out) | ((with_reducible refine gate_callee (f := 10) rfl ?_); refine gl_ 9 Tryd.func10 #[.agg #[.string a0_0, .string a0_1, .int .i64 a0_2, .slice A0_3 l0_3.length c0_3], .agg #[.string a1_0, .string a1_1, .int .i64 a1_2, .slice A1_3 l1_3.length c1_3]] ?_ rfl rfl rfl rfl; (with_reducible refine (F10.calls k a0_0 a0_1 a0_2 _ _ l0_3 a1_0 a1_1 a1_2 _ _ l1_3 true _ ?s1 ?s2 ?s3 ?s4 A3.out).mono ?_); (case s1 => exact au3_3); (case s2 => exact HC0_3.out); (case s3 => exact au3_4); (case s4 => exact HC1_3.out); rintro e w37 ⟨rfl, hb⟩; refine ⟨_, rfl, ?_⟩; replace BK270 := bb_ BK270 hb; replace BK271 := bb_ BK271 hb; replace HB := hs_ w hb; (try clear hb); obtain ⟨hcz38_0, hcz38_1, hcz38_2, hcz38_3, hcz38_4, hcz38_5, hcz38_6, hfz38_0, hfz38_1, hfz38_2, hfz38_3, hfz38_4, hfz38_5, hfz38_6⟩ := cellsF7 BK270.out; obtain ⟨hcz39_0, hcz39_1, hcz39_2, hcz39_3, hcz39_4, hcz39_5, hcz39_6, hfz39_0, hfz39_1, hfz39_2, hfz39_3, hfz39_4, hfz39_5, hfz39_6⟩ := cellsF7 BK271.out))
  go_ret
  exact ⟨au3_0, bl_⟩
 rw [if_pos c14] at H
 have c14b0 : (a0_5 == a1_5) = true := beq_iff_eq.mpr c14
 have c14b1 : (a0_5 != a1_5) = false := bne_eq_false_iff_eq.mpr c14
 clear c14
 by_cases c15 : a0_6 = a1_6
 rotate_left
 ·rw [if_neg c15] at H
  have c15b0 : (a0_6 == a1_6) = false := beq_eq_false_iff_ne.mpr c15
  have c15b1 : (a0_6 != a1_6) = true := bne_iff_ne.mpr c15
  obtain rfl := Option.some.inj H
  go_enter Tryd.func15, Tryd.ntmps15
  go_wp2_with (first | ((with_reducible refine gate_dst (N := 2) rfl ?_); refine be_ 2 #[.string a0_0, .string a0_1, .int .i64 a0_2, .slice A0_3 l0_3.length c0_3, .bool a0_4, .int .i64 a0_5, .int .i64 a0_6] 36 ?_; intro gb270 hg w24 hbox hb; have BK270 := am_ (hbox); have GW270 := am_ (gw_ hg bl_); have GE270 := GW270; replace HB := hs_ w hb; clear hb hbox hg) | ((with_reducible refine gate_dst (N := 3) rfl ?_); refine be_ 3 #[.string a1_0, .string a1_1, .int .i64 a1_2, .slice A1_3 l1_3.length c1_3, .bool a1_4, .int .i64 a1_5, .int .i64 a1_6] 36 ?_; intro gb271 hg w25 hbox hb; have BK271 := am_ (hbox); have GW271 := am_ (gw_ hg bl_); have GE271 := GW271; replace HB := hs_ w hb; have NB270_271 := am_ (gn_ hg (blkl_ BK270)); have NB271_270 := am_ (gm_ hg (blkl_ BK270)); replace BK270 := bb_ BK270 hb; clear hb hbox hg; have hnb26 := NB270_271.out; have hnc26 := NB271_270.out; obtain ⟨hcz27_0, hcz27_1, hcz27_2, hcz27_3, hcz27_4, hcz27_5, hcz27_6, hfz27_0, hfz27_1, hfz27_2, hfz27_3, hfz27_4, hfz27_5, hfz27_6⟩ := cellsF7 BK270.out; obtain ⟨hcz28_0, hcz28_1, hcz28_2, hcz28_3, hcz28_4, hcz28_5, hcz28_6, hfz28_0, hfz28_1, hfz28_2, hfz28_3, hfz28_4, hfz28_5, hfz28_6⟩ := cellsF7 BK271.out) | ((with_reducible refine gate_callee (f := 10) rfl ?_); refine gl_ 9 Tryd.func10 #[.agg #[.string a0_0, .string a0_1, .int .i64 a0_2, .slice A0_3 l0_3.length c0_3], .agg #[.string a1_0, .string a1_1, .int .i64 a1_2, .slice A1_3 l1_3.length c1_3]] ?_ rfl rfl rfl rfl; (with_reducible refine (F10.calls k a0_0 a0_1 a0_2 _ _ l0_3 a1_0 a1_1 a1_2 _ _ l1_3 true _ ?s1 ?s2 ?s3 ?s4 A3.out).mono ?_); (case s1 => exact au3_3); (case s2 => exact HC0_3.out); (case s3 => exact au3_4); (case s4 => exact HC1_3.out); rintro e w29 ⟨rfl, hb⟩; refine ⟨_, rfl, ?_⟩; replace BK270 := bb_ BK270 hb; replace BK271 := bb_ BK271 hb; replace HB := hs_ w hb; (try clear hb); obtain ⟨hcz30_0, hcz30_1, hcz30_2, hcz30_3, hcz30_4, hcz30_5, hcz30_6, hfz30_0, hfz30_1, hfz30_2, hfz30_3, hfz30_4, hfz30_5, hfz30_6⟩ := cellsF7 BK270.out; obtain ⟨hcz31_0, hcz31_1, hcz31_2, hcz31_3, hcz31_4, hcz31_5, hcz31_6, hfz31_0, hfz31_1, hfz31_2, hfz31_3, hfz31_4, hfz31_5, hfz31_6⟩ := cellsF7 BK271.out))
  go_ret
  exact ⟨au3_0, bl_⟩
 rw [if_pos c15] at H
 have c15b0 : (a0_6 == a1_6) = true := beq_iff_eq.mpr c15
 have c15b1 : (a0_6 != a1_6) = false := bne_eq_false_iff_eq.mpr c15
 clear c15
 obtain rfl := Option.some.inj H
 go_enter Tryd.func15, Tryd.ntmps15
 go_wp2_with (first | ((with_reducible refine gate_dst (N := 2) rfl ?_); refine be_ 2 #[.string a0_0, .string a0_1, .int .i64 a0_2, .slice A0_3 l0_3.length c0_3, .bool a0_4, .int .i64 a0_5, .int .i64 a0_6] 36 ?_; intro gb270 hg w16 hbox hb; have BK270 := am_ (hbox); have GW270 := am_ (gw_ hg bl_); have GE270 := GW270; replace HB := hs_ w hb; clear hb hbox hg) | ((with_reducible refine gate_dst (N := 3) rfl ?_); refine be_ 3 #[.string a1_0, .string a1_1, .int .i64 a1_2, .slice A1_3 l1_3.length c1_3, .bool a1_4, .int .i64 a1_5, .int .i64 a1_6] 36 ?_; intro gb271 hg w17 hbox hb; have BK271 := am_ (hbox); have GW271 := am_ (gw_ hg bl_); have GE271 := GW271; replace HB := hs_ w hb; have NB270_271 := am_ (gn_ hg (blkl_ BK270)); have NB271_270 := am_ (gm_ hg (blkl_ BK270)); replace BK270 := bb_ BK270 hb; clear hb hbox hg; have hnb18 := NB270_271.out; have hnc18 := NB271_270.out; obtain ⟨hcz19_0, hcz19_1, hcz19_2, hcz19_3, hcz19_4, hcz19_5, hcz19_6, hfz19_0, hfz19_1, hfz19_2, hfz19_3, hfz19_4, hfz19_5, hfz19_6⟩ := cellsF7 BK270.out; obtain ⟨hcz20_0, hcz20_1, hcz20_2, hcz20_3, hcz20_4, hcz20_5, hcz20_6, hfz20_0, hfz20_1, hfz20_2, hfz20_3, hfz20_4, hfz20_5, hfz20_6⟩ := cellsF7 BK271.out) | ((with_reducible refine gate_callee (f := 10) rfl ?_); refine gl_ 9 Tryd.func10 #[.agg #[.string a0_0, .string a0_1, .int .i64 a0_2, .slice A0_3 l0_3.length c0_3], .agg #[.string a1_0, .string a1_1, .int .i64 a1_2, .slice A1_3 l1_3.length c1_3]] ?_ rfl rfl rfl rfl; (with_reducible refine (F10.calls k a0_0 a0_1 a0_2 _ _ l0_3 a1_0 a1_1 a1_2 _ _ l1_3 true _ ?s1 ?s2 ?s3 ?s4 A3.out).mono ?_); (case s1 => exact au3_3); (case s2 => exact HC0_3.out); (case s3 => exact au3_4); (case s4 => exact HC1_3.out); rintro e w21 ⟨rfl, hb⟩; refine ⟨_, rfl, ?_⟩; replace BK270 := bb_ BK270 hb; replace BK271 := bb_ BK271 hb; replace HB := hs_ w hb; (try clear hb); obtain ⟨hcz22_0, hcz22_1, hcz22_2, hcz22_3, hcz22_4, hcz22_5, hcz22_6, hfz22_0, hfz22_1, hfz22_2, hfz22_3, hfz22_4, hfz22_5, hfz22_6⟩ := cellsF7 BK270.out; obtain ⟨hcz23_0, hcz23_1, hcz23_2, hcz23_3, hcz23_4, hcz23_5, hcz23_6, hfz23_0, hfz23_1, hfz23_2, hfz23_3, hfz23_4, hfz23_5, hfz23_6⟩ := cellsF7 BK271.out))
 go_ret
 exact ⟨au3_0, bl_⟩
/-! ### F40: function 40 -/
def F40.l0 : Nat → Int → ByteArray → Option (ByteArray)
  | 0, _, _ => none
  | k + 1, x0, x3 => if x0 > 0 then ((some (([(wrap64 (48 + (Int.tmod x0 10))) % 256] : List Int) : List Int)).bind fun y273 => (if (strOfNums y273).size + x3.size ≤ 9223372036854775807 then (F40.l0 k (wrap64 (Int.tdiv x0 10)) ((strOfNums y273) ++ x3)) else (none))) else (if 1 + x3.size ≤ 9223372036854775807 then (some ((⟨#[109]⟩ : ByteArray) ++ x3)) else (none))
def F40.f (k : Nat) (a0 : Int) : Option (ByteArray) := if a0 ≤ 0 then (some (⟨#[109, 48]⟩ : ByteArray)) else (F40.l0 k a0 (⟨#[]⟩ : ByteArray))
theorem F40.mono_l : ∀ k, (∀ y0 y1, LeO (F40.l0 k y0 y1) (F40.l0 (k + 1) y0 y1))
 | 0 => fun _ _ r h => by simp [F40.l0] at h
 | k + 1 => by
  have ih0 := F40.mono_l k
  intro y0 y1
  unfold F40.l0
  repeat' with_reducible first | exact ih0 _ _ | exact LeO.refl _ | exact LeO.none _ | refine LeO.ite ?_ ?_ | refine LeO.bind ?_ (fun _ => ?_)
theorem F40.mono : ∀ a0 k, LeO (F40.f k a0) (F40.f (k + 1) a0) := by
 intro a0 k
 have ih0 := F40.mono_l k
 unfold F40.f
 repeat' with_reducible first | exact ih0 _ _ | exact LeO.refl _ | exact LeO.none _ | refine LeO.ite ?_ ?_ | refine LeO.bind ?_ (fun _ => ?_)
theorem F40.calls (k : Nat) (a0 : Int) (r : ByteArray) (w : World) (h : F40.f k a0 = some r) :
  Calls Tryd.prog 40 #[.int .i64 a0] w fun e w' => e = .returned (.string r) ∧ Below w.heap.size w w' := by
 have HB := am_ (Below.refl w.heap.size w)
 have H : (if a0 ≤ 0 then (some (⟨#[109, 48]⟩ : ByteArray)) else (F40.l0 k a0 (⟨#[]⟩ : ByteArray))) = some r := h
 clear h
 replace H := it_ H; rcases H with ⟨c2b0, H⟩ | ⟨c2b0, H⟩
 ·obtain rfl := Option.some.inj H
  go_enter Tryd.func40, Tryd.ntmps40
  go_wp2
  go_ret
  exact ⟨au3_0, bl_⟩
 have H' := am_ H
 clear H
 go_enter Tryd.func40, Tryd.ntmps40
 go_wp2
 go_loopg [0, 3] k (fun kq v0 v3 w' => ∃ (x0_1 : Int) (x3_1 : ByteArray), v0 = .int .i64 x0_1 ∧ v3 = .string x3_1 ∧ Aside0 (F40.l0 kq x0_1 x3_1 = some r) ∧ Aside0 (kq ≤ k) ∧ Aside0 (Below w.heap.size w w'))
 case atStart => exact ⟨(a0), ((⟨#[]⟩ : ByteArray)), er_, er_, H', ⟨Nat.le_refl _⟩, ⟨bl_⟩⟩
 case round =>
  clear H'
  try clear c2b0
  obtain ⟨x0_1, x3_1, rfl, rfl, HA, HK1, HB⟩ := hrel
  cases gk with
  | zero => exact absurd HA.out (by simp [F40.l0])
  | succ k1 =>
   have H := HA.out
   clear HA
   simp only [F40.l0] at H
   replace H := it_ H; rcases H with ⟨(c3b0 : decide (0 < x0_1) = true), H⟩ | ⟨(c3b0 : decide (0 < x0_1) = false), H⟩
   rotate_left
   ·by_cases c8 : 1 + x3_1.size ≤ 9223372036854775807
    rotate_left
    ·rw [if_neg c8] at H
     exact absurd H (by simp)

    rw [if_pos c8] at H
    have c8b0 := eq_true c8
    have c8b1 : decide (1 + x3_1.size ≤ 9223372036854775807) = true := decide_eq_true c8
    try have c8b2 : (9223372036854775807 < 1 + x3_1.size) = False := eq_false (Nat.not_lt.2 c8)
    obtain rfl := Option.some.inj H
    go_wp2
    go_ret
    exact ⟨au3_0, bl_⟩
   obtain ⟨y273, hy273⟩ : ∃ y_ : List Int, y_ = (([(wrap64 (48 + (Int.tmod x0_1 10))) % 256] : List Int)) := ⟨_, rfl⟩
   replace H : (if (strOfNums y273).size + x3_1.size ≤ 9223372036854775807 then (F40.l0 k1 (wrap64 (Int.tdiv x0_1 10)) ((strOfNums y273) ++ x3_1)) else (none)) = some r := by first | (rw [hy273]; exact H) | exact H
   have Ny273 := am_ hy273
   clear hy273
   by_cases c4 : (strOfNums y273).size + x3_1.size ≤ 9223372036854775807
   rotate_left
   ·rw [if_neg c4] at H
    exact absurd H (by simp)
   rw [if_pos c4] at H
   have c4b0 := eq_true c4
   have c4b1 : decide ((strOfNums y273).size + x3_1.size ≤ 9223372036854775807) = true := decide_eq_true c4
   try have c4b2 : (9223372036854775807 < (strOfNums y273).size + x3_1.size) = False := eq_false (Nat.not_lt.2 c4)
   have H' := am_ H
   clear H
   go_wp2_with (first | ((with_reducible refine gate_dst (N := 12) rfl ?_); refine Kd.R_lit (Kd.int .u8) _ 5 ?hg (N := 12) ?hd (xs := ([(wrap64 (48 + (Int.tmod x0_1 10))) % 256] : List Int)) (inner := [.int .u8 ((wrap64 (48 + (Int.tmod x0_1 10))) % 256)]) (ok := fun _ => True) (okp := fun _ => True) ?hr ?hp (fun _ hk => hk) trivial (Below.refl _ _) (Nat.le_refl _) (by simp) ?_; (case hd => rfl); (case hg => rfl); (case hr => exact hr_); (case hp => exact (Reps.one (show Kd.M (Kd.int .u8) _ _ _ ((wrap64 (48 + (Int.tmod x0_1 10))) % 256) [.int .u8 ((wrap64 (48 + (Int.tmod x0_1 10))) % 256)] from rfl) (Reps.none _ _))); intro v274 w5 ho6 hb hg_ hnew_; clear hg_ hnew_; (first | rw [← Ny273.out] at ho6 | (simp only [Int.reduceToNat] at ho6; rw [← Ny273.out] at ho6)); have HO275 := am_ (Kd.R_lower ho6 (below_size bl_)); replace HB := hs_ w hb; clear hb ho6; have hcv7 := own_string (P := Tryd.prog) Tryd.underlying45 Tryd.underlying5 Tryd.underlying9 (Kd.own_of_R HO275.out)))
   go_roundg k1
   case measure => have := HK1.out; omega
   case rel => exact ⟨(wrap64 (Int.tdiv x0_1 10)), ((strOfNums y273) ++ x3_1), er_, er_, H', ⟨by have := HK1.out; omega⟩, ⟨bl_⟩⟩
/-! ### F64: function 64 -/
def F64.l0 : Nat → List ByteArray → Int → Int → Option (Int × List ByteArray)
  | 0, _, _, _ => none
  | k + 1, x0, x1, x5 => if x5 < (x0.length : Int) then ((F40.f k x1).bind fun t276 => (if 0 ≤ x5 then (F64.l0 k (x0.set (x5 : Int).toNat t276) (wrap64 (x1 + 1)) (wrap64 (x5 + 1))) else (none))) else (some (x1, x0))
def F64.f (k : Nat) (l0 : List ByteArray) (a1 : Int) : Option (Int × List ByteArray) := F64.l0 k l0 a1 0
theorem F64.mono_l : ∀ k, (∀ y0 y1 y2, LeO (F64.l0 k y0 y1 y2) (F64.l0 (k + 1) y0 y1 y2))
 | 0 => fun _ _ _ r h => by simp [F64.l0] at h
 | k + 1 => by
  have ih0 := F64.mono_l k
  intro y0 y1 y2
  unfold F64.l0
  repeat' with_reducible first | exact ih0 _ _ _ | exact F40.mono _ _ | exact LeO.refl _ | exact LeO.none _ | refine LeO.ite ?_ ?_ | refine LeO.bind ?_ (fun _ => ?_)
theorem F64.mono : ∀ a0 a1 k, LeO (F64.f k a0 a1) (F64.f (k + 1) a0 a1) := by
 intro a0 a1 k
 have ih0 := F64.mono_l k
 unfold F64.f
 repeat' with_reducible first | exact ih0 _ _ _ | exact F40.mono _ _ | exact LeO.refl _ | exact LeO.none _ | refine LeO.ite ?_ ?_ | refine LeO.bind ?_ (fun _ => ?_)
theorem F64.calls (k : Nat) (P0_ : Nat → Prop) (u9000_ : Value) (l0 : List ByteArray) (a1 : Int) (r1 : Int) (r2 : List ByteArray) (w0 w : World) (hB : Below w0.heap.size w0 w) (ho0 : Kd.R Kd.string 9 w w0.heap.size P0_ u9000_ l0) (h : F64.f k l0 a1 = some (r1, r2)) :
  Calls Tryd.prog 64 #[u9000_, .int .i64 a1] w fun e w' => e = .returned (.int .i64 r1) ∧ Kd.R Kd.string 9 w' w0.heap.size (fun k_ => (P0_ k_ ∨ w.heap.size ≤ k_)) u9000_ r2 ∧ Below w0.heap.size w0 w' ∧ Kept w w' (fun k_ => P0_ k_) := by
 have HO0 := am_ (show Kd.R Kd.string 9 w w0.heap.size (fun k_ => (P0_ k_ ∨ w.heap.size ≤ k_)) u9000_ l0 from Kd.R_mono ho0 (fun k_ hk => (.inl hk)))
 have HK := am_ (Kept.refl w (fun k_ => P0_ k_))
 have HW0 := am_ hB.size
 have HB := am_ hB
 clear hB
 have H : (F64.l0 k l0 a1 0) = some (r1, r2) := h
 clear h
 have H' := am_ H
 clear H
 go_enter Tryd.func64, Tryd.ntmps64
 go_wp2
 go_loopg [1, 5] k (fun kq v1 v5 w' => ∃ (x0_1 : List ByteArray) (x1_1 : Int) (x5_1 : Int), v1 = .int .i64 x1_1 ∧ v5 = .int .i64 x5_1 ∧ Aside0 (F64.l0 kq x0_1 x1_1 x5_1 = some (r1, r2)) ∧ Aside0 (kq ≤ k) ∧ Aside0 (Kd.R Kd.string 9 w' w0.heap.size (fun k_ => (P0_ k_ ∨ w.heap.size ≤ k_)) u9000_ x0_1) ∧ Aside0 (Kept w w' (fun k_ => P0_ k_)) ∧ Aside0 (Below w0.heap.size w0 w'))
 case atStart => exact ⟨(l0), (a1), (0), er_, er_, H', ⟨Nat.le_refl _⟩, ⟨rk_ HO0⟩, ⟨au3_9⟩, ⟨bl_⟩⟩
 case round =>
  clear H'
  obtain ⟨x0_1, x1_1, x5_1, rfl, rfl, HA, HK1, HO_0, HK, HB⟩ := hrel
  cases gk with
  | zero => exact absurd HA.out (by simp [F64.l0])
  | succ k1 =>
   have H := HA.out
   clear HA
   simp only [F64.l0] at H
   replace H := it_ H; rcases H with ⟨c3b0, H⟩ | ⟨c3b0, H⟩
   rotate_left
   ·simp only [Option.some.injEq, Prod.mk.injEq] at H
    obtain ⟨rfl, rfl⟩ := H
    obtain ⟨Ao11, co11, eo11⟩ := Kd.R_slice HO_0.out
    subst eo11
    go_wp2
    go_ret
    exact ⟨au3_0, rk_ HO_0, bl_, au3_9⟩
   replace H := bi_ H; rcases H with ⟨t276, A4, H⟩
   replace H := itn_ H; rcases H with ⟨c5b0, H⟩
   obtain ⟨y277, hy277⟩ : ∃ y_ : List ByteArray, y_ = (x0_1.set (x5_1 : Int).toNat t276) := ⟨_, rfl⟩
   replace H : (F64.l0 k1 y277 (wrap64 (x1_1 + 1)) (wrap64 (x5_1 + 1))) = some (r1, r2) := by first | (rw [hy277]; exact H) | exact H
   have Ny277 := am_ hy277
   clear hy277
   have H' := am_ H
   clear H
   obtain ⟨Ao7, co7, eo7⟩ := Kd.R_slice HO_0.out
   subst eo7
   go_wp2_with (first | ((with_reducible refine gate_callee (f := 40) rfl ?_); refine gl_ 15 Tryd.func40 #[.int .i64 x1_1] ?_ rfl rfl rfl rfl; (with_reducible refine (F40.calls k1 x1_1 t276 _ A4.out).mono ?_); rintro e w8 ⟨rfl, hb⟩; refine ⟨_, rfl, ?_⟩; replace HO_0 := am_ (Kd.R_below (rk_ HO_0) hb); replace HK := am_ (Kept.below (S := (fun k_ => P0_ k_)) au3_25 hb); replace HB := hs_ w0 hb; (try clear hb); (try clear hb2); (try clear hk); (try clear hi); have p6 : 0 ≤ (x5_1 : Int) := od_; have q6 : (x5_1 : Int) < ((x0_1.length : Int) : Int) := od_; obtain ⟨go6, co6, eo6, gb6, gl6, cl6, HG6⟩ := Kd.R_form HO_0.out (by omega); (first | cases eo6 | (injection eo6 with ea_ en_ ec_; (first | subst ea_ | (injection ea_ with ea_; subst ea_)); subst ec_; clear en_)); have GB6 := am_ gb6; have GG6 := am_ HG6; clear gb6 gl6 HG6; have HMgo6 := am_ (show (P0_ go6 ∨ w.heap.size ≤ go6) from (HO_0.out.1 _ rfl)); obtain ⟨hx6_0, hf6_0⟩ := Kd.R_celln (⟨#[]⟩ : ByteArray) HO_0.out (x5_1 : Int) p6 q6; replace p6 := eq_true p6; replace q6 := eq_true q6; obtain ⟨hy9_, hz9_⟩ := Kd.R_celln (⟨#[]⟩ : ByteArray) HO_0.out (x5_1 : Int) (of_decide_eq_true as_) (of_decide_eq_true as_); have HP9 := Kd.R_putg HO_0.out (x5_1 : Int) t276) | ((with_reducible refine gate_store (t := 9) (p := 16) rfl ?_); refine store_event (t := 9) (p := 16) (v := ?vo_w10) (w1 := (w8.setCell ⟨go6, (x5_1 : Int).toNat, none⟩ (.string t276))) ?hg ?ho ?hn ?hr ?_; (case ho => rfl); (case hg => rfl); (case hn => rfl); (case hr => exact hr_); intro w10 hw; have hg : w8.grownBy w10 (some go6) := (by rw [hw]; exact HP9.2); have hp_ : Kd.R Kd.string 9 w10 w0.heap.size (fun k_ => (P0_ k_ ∨ w.heap.size ≤ k_)) (.slice (some ⟨go6, 0, none⟩) x0_1.length co7) y277 := (by rw [hw, Ny277.out]; exact HP9.1); clear HP9; replace HB := am_ ((by rw [hw]; exact below_set (HB.out) GB6.out : Below w0.heap.size w0 w10)); replace HK := am_ (Kept.of_grown (S := (fun k_ => P0_ k_)) hg au3_25 (fun k_ e_ => (HO_0.out.1 k_ e_))); replace HO_0 := am_ (hp_); clear hg hw hp_))
   go_roundg k1
   case measure => have := HK1.out; omega
   case rel => exact ⟨(y277), (wrap64 (x1_1 + 1)), (wrap64 (x5_1 + 1)), er_, er_, H', ⟨by have := HK1.out; omega⟩, ⟨rk_ HO_0⟩, ⟨au3_9⟩, ⟨bl_⟩⟩
end Go.Proofs.YtlghcbmkhdibdaaDoor.PFnExactHeadOf
