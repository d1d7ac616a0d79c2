-- printed by a program of this session (wip/xp/xprint.py) out of the translation; Lean checks it
import Derived.Test.YtlghcbmkhdibdaaGreatDoorPFnEnvelopesx0
import Derived.Test.YtlghcbmkhdibdaaGreatDoorPFnEnvelopesx1
import Derived.Test.YtlghcbmkhdibdaaGreatDoorPFnEnvelopesx2
namespace Go.Proofs.YtlghcbmkhdibdaaGreatDoor.PFnEnvelopes
open Go.RowKit Go.Proofs.YtlghcbmkhdibdaaGreatDoorW.PrintWords Go.Proofs.YtlghcbmkhdibdaaGreatDoorW.PrintLast Go.Proofs.YtlghcbmkhdibdaaGreatDoorW.PrintMore
attribute [local go_sem] max2_int min2_int max_two min_two max_three min_three max_four min_four   -- for this text's walks alone
set_option linter.unusedVariables false
set_option linter.unusedSimpArgs false
set_option maxHeartbeats 8000000
set_option maxRecDepth 100000
theorem au5_0 {p : Prop} (h : p := by first | exact Kd.own_blk (Kd.R_ne jZ.out cq.out (by decide)) | (rw [add_block]; exact Kd.own_blk (Kd.R_ne jZ.out cq.out (by decide))) | (show (Addr.add _ _).block ≠ _; rw [add_block]; exact Kd.own_blk (Kd.R_ne jZ.out cq.out (by decide))) | (dsimp only; exact Kd.own_blk (Kd.R_ne jZ.out cq.out (by decide)))) : p := h
theorem au5_2 {p : Prop} (h : p := by repeat (first | exact (Kd.C_below fN.out HB.out) | (with_reducible refine Kd.C_alloc ?_ _) | (with_reducible refine Kd.C_drewN ?_ _) | (with_reducible refine Kd.C_drew ?_))) : p := h
theorem au5_4 {p : Prop} (h : p := by repeat (first | exact (Kd.C_below mW.out HB.out) | (with_reducible refine Kd.C_alloc ?_ _) | (with_reducible refine Kd.C_drewN ?_ _) | (with_reducible refine Kd.C_drew ?_))) : p := h
theorem au5_8 {p : Prop} (h : p := by repeat (first | exact (Kd.C_below rA.out HB.out) | (with_reducible refine Kd.C_alloc ?_ _) | (with_reducible refine Kd.C_drewN ?_ _) | (with_reducible refine Kd.C_drew ?_))) : p := h
theorem au5_11 {p : Prop} (h : p := by have := HJ1.out; have := HK2.out; have := pe.out; have := uR.out; have := Fr.out; have := Q8.out; omega) : p := h
theorem au5_12 {p : Prop} (h : p := by have := HJ1.out; have := HK2.out; have := pe.out; have := uR.out; first | omega | exact Nat.le_refl _) : p := h
theorem tg5_1 {p : Prop} (h : p := by exact ⟨_, (true), er_, H', ⟨ax10_⟩, dn_⟩) : p := h
theorem tg5_2 {p : Prop} (h : p := by exact ⟨(wrap64 (ai + 1)), er_, H', ⟨om_⟩, dn_⟩) : p := h
theorem tg5_4 {p : Prop} (h : p := by exact ⟨_, (true), er_, H', ⟨ax10_⟩, ⟨bk_ bg⟩, ⟨bl_⟩⟩) : p := h
theorem tg5_5 {p : Prop} (h : p := by exact ⟨_, (true), er_, H', ⟨ax12_⟩, ⟨bf_ bg⟩, ⟨bq_ bM⟩, ⟨bl_⟩⟩) : p := h
theorem tg5_6 {p : Prop} (h : p := by repeat' with_reducible first | exact ef _ _ _ _ _ _ _ _ | exact LeO.refl _ | exact LeO.none _ | refine LeO.ite ?_ ?_ | refine LeO.bind ?_ (fun _ => ?_)) : p := h
theorem tg5_7 {p : Prop} (h : p := by repeat' with_reducible first | exact ef _ _ _ | exact kW _ _ | exact ro _ _ _ _ | exact LeO.refl _ | exact LeO.none _ | refine LeO.ite ?_ ?_ | refine LeO.bind ?_ (fun _ => ?_)) : p := h
theorem tg5_9 {p : Prop} (h : p := by exact ⟨_, (true), er_, H', ⟨ax10_⟩, ⟨rk_ ln⟩, ⟨bk_ eI⟩, ⟨bk_ cq⟩, ⟨bl_⟩⟩) : p := h
theorem tg5_10 {p : Prop} (h : p := by repeat' with_reducible first | exact ef _ _ _ _ | exact kW _ | exact F104.mono _ _ | exact F101.mono _ _ _ _ _ | exact LeO.refl _ | exact LeO.none _ | refine LeO.ite ?_ ?_ | refine LeO.bind ?_ (fun _ => ?_)) : p := h
theorem tg5_11 {p : Prop} (h : p := by exact ⟨_, (true), er_, H', ⟨ax10_⟩, ⟨rk_ lp⟩, ⟨bk_ dc⟩, ⟨bl_⟩⟩) : p := h
mutual
def F39.j0 : Nat → ByteArray → Bool → Option (Bool)
  | 0, _, _ => none
  | k + 1, x0, Y3 => if Y3 = true then (some false) else (F39.l0 k x0 0)
def F39.l0 : Nat → ByteArray → Int → Option (Bool)
  | 0, _, _ => none
  | k + 1, x0, x3 => if x3 < (x0.size : Int) then (if 0 ≤ x3 then (if (bt x0 x3) ≥ 65 then (if (bt x0 x3) ≤ 90 then (F39.l0 k x0 (wrap64 (x3 + 1))) else (if (bt x0 x3) ≥ 48 then (if (bt x0 x3) ≤ 57 then (F39.l0 k x0 (wrap64 (x3 + 1))) else (if ((bt x0 x3) = 45) then (F39.l0 k x0 (wrap64 (x3 + 1))) else (some false))) else (if ((bt x0 x3) = 45) then (F39.l0 k x0 (wrap64 (x3 + 1))) else (some false)))) else (if (bt x0 x3) ≥ 48 then (if (bt x0 x3) ≤ 57 then (F39.l0 k x0 (wrap64 (x3 + 1))) else (if ((bt x0 x3) = 45) then (F39.l0 k x0 (wrap64 (x3 + 1))) else (some false))) else (if ((bt x0 x3) = 45) then (F39.l0 k x0 (wrap64 (x3 + 1))) else (some false)))) else (none)) else (some true)
end
def F39.f (k : Nat) (a0 : ByteArray) : Option (Bool) := if (a0.size : Int) < 1 then (F39.j0 k a0 true) else (if (a0.size : Int) > 12 then (F39.j0 k a0 true) else (if 0 < (a0.size : Int) then (if (bt a0 0) < 65 then (F39.j0 k a0 true) else (F39.j0 k a0 (decide ((bt a0 0) > 90)))) else (none)))
theorem F39.calls {k : Nat} {a0 : ByteArray} {r : Bool} {w : World} (h : F39.f k a0 = some r) :
  Calls Tryz.prog 39 #[.string a0] w fun e w' => e = .returned (.bool r) ∧ Drawn0 w w' := by
 have H := h; unfold F39.f at H
 clear h
 have d6 := am_ H
 clear H
 go_enter Tryz.func39, Tryz.ntmps39
 go_upto_region 1 with (fail)
 go_cut [22] (fun Y4 wc => ∃ (kq : Nat) (xx : Bool), Y4 = .bool xx ∧ Aside0 (F39.j0 kq a0 xx = some r) ∧ Aside0 (kq ≤ k) ∧ Drawn0 w wc)
 case first =>
  have H := d6.out
  clear d6
  replace H := it_ H; rcases H with ⟨c3b0, H⟩ | ⟨c3b0, H⟩
  ·have c3b1 : decide (a0.size < 1) = true := n2_ c3b0
   (first | rw [c3b0] | (simp only [i64_w, i32_w]; rw [c3b0]) | skip)
   have H' := am_ H
   clear H
   go_wp2
   go_meet
   case rel => exact tg5_1
  have c3b1 : decide (a0.size < 1) = false := n2_ c3b0
  (first | rw [c3b0] | (simp only [i64_w, i32_w]; rw [c3b0]) | skip)
  replace H := it_ H; rcases H with ⟨(c4b0 : decide (12 < (a0.size : Int)) = true), H⟩ | ⟨(c4b0 : decide (12 < (a0.size : Int)) = false), H⟩
  ·have c4b1 : decide (12 < a0.size) = true := n2_ c4b0
   have H' := am_ H
   clear H
   go_wp2
   go_meet
   case rel => exact tg5_1
  have c4b1 : decide (12 < a0.size) = false := n2_ c4b0
  replace H := itn_ H; rcases H with ⟨c5b0, H⟩
  have c5b1 : decide (0 < a0.size) = true := n2_ c5b0
  replace H := it_ H; rcases H with ⟨c7b0, H⟩ | ⟨c7b0, H⟩
  ·have H' := am_ H
   clear H
   have p6 : 0 ≤ (0 : Int) := (by omega)
   have q6 : 0 < a0.size := (by have : (0 : Int) < (a0.size : Int) := od_; omega)
   have gE : ∀ h : 0 < a0.size, ((a0[0]'h).toNat : Int) = bt a0 0 := bt_at a0 0
   clear p6
   have Y5 : (0 < (a0.size : Int)) = True := eq_true (of_decide_eq_true as_)
   replace q6 := eq_true q6
   go_wp2
   go_meet
   case rel => exact tg5_1
  have H' := am_ H
  clear H
  have p6 : 0 ≤ (0 : Int) := (by omega)
  have q6 : 0 < a0.size := (by have : (0 : Int) < (a0.size : Int) := od_; omega)
  have gE : ∀ h : 0 < a0.size, ((a0[0]'h).toNat : Int) = bt a0 0 := bt_at a0 0
  clear p6
  have Y5 : (0 < (a0.size : Int)) = True := eq_true (of_decide_eq_true as_)
  replace q6 := eq_true q6
  have p8 : 0 ≤ (0 : Int) := (by omega)
  have q8 : 0 < a0.size := (by have : (0 : Int) < (a0.size : Int) := od_; omega)
  have Ob : ∀ h : 0 < a0.size, ((a0[0]'h).toNat : Int) = bt a0 0 := bt_at a0 0
  clear p8
  have UB : (0 < (a0.size : Int)) = True := eq_true (of_decide_eq_true as_)
  replace q8 := eq_true q8
  go_wp2
  go_meet
  case rel => exact ⟨_, (decide ((bt a0 0) > 90)), er_, H', ⟨ax10_⟩, dn_⟩
 case rest =>
  clear d6
  obtain ⟨kq, xx, rfl, HA, HJ1, ⟨Y6, rfl⟩⟩ := hcut
  cases kq with
  | zero => exact absurd HA.out (by simp [F39.j0])
  | succ vT =>
   have H := HA.out
   clear HA
   simp only [F39.j0] at H
   replace H := ib_ H; rcases H with ⟨rfl, H⟩ | ⟨rfl, H⟩
   ·obtain rfl := Option.some.inj H
    go_wp2
    go_ret
    exact ⟨er_, dn_⟩
   have H' := am_ H
   clear H
   go_wp2
   go_loopg [3] vT (fun kq v3 w' => ∃ (ai : Int), v3 = .int .i64 ai ∧ Aside0 (F39.l0 kq a0 ai = some r) ∧ Aside0 (kq ≤ vT) ∧ Drawn0 w w')
   case atStart => exact ⟨(0), er_, H', ⟨Nat.le_refl _⟩, dn_⟩
   case round =>
    clear H'
    obtain ⟨ai, rfl, HA, HK2, ⟨m2, rfl⟩⟩ := hrel
    cases gk with
    | zero => exact absurd HA.out (by simp [F39.l0])
    | succ k2 =>
     have H := HA.out
     clear HA
     simp only [F39.l0] at H
     replace H := it_ H; rcases H with ⟨c10b0, H⟩ | ⟨c10b0, H⟩
     rotate_left
     ·obtain rfl := Option.some.inj H
      go_wp2
      go_ret
      exact ⟨er_, dn_⟩
     replace H := itn_ H; rcases H with ⟨c11b0, H⟩
     replace H := it_ H; rcases H with ⟨(c13b0 : decide (65 ≤ (bt a0 ai)) = true), H⟩ | ⟨(c13b0 : decide (65 ≤ (bt a0 ai)) = false), H⟩
     rotate_left
     ·replace H := it_ H; rcases H with ⟨(c19b0 : decide (48 ≤ (bt a0 ai)) = true), H⟩ | ⟨(c19b0 : decide (48 ≤ (bt a0 ai)) = false), H⟩
      rotate_left
      ·by_cases pf : ((bt a0 ai) = 45)
       rotate_left
       ·rw [if_neg pf] at H
        have c22b0 : ((bt a0 ai) == 45) = false := beq_eq_false_iff_ne.mpr pf
        have c22b1 : ((bt a0 ai) != 45) = true := bne_iff_ne.mpr pf
        obtain rfl := Option.some.inj H
        have eV : 0 ≤ (ai : Int) := od_
        have eE : ai < (a0.size : Int) := od_
        have hx12 := bt_at a0 ai
        replace eV := eq_true eV
        replace eE := eq_true eE
        go_wp2
        go_ret
        exact ⟨er_, dn_⟩
       rw [if_pos pf] at H
       have c22b0 : ((bt a0 ai) == 45) = true := beq_iff_eq.mpr pf
       have c22b1 : ((bt a0 ai) != 45) = false := bne_eq_false_iff_eq.mpr pf
       clear pf
       have H' := am_ H
       clear H
       have eV : 0 ≤ (ai : Int) := od_
       have eE : ai < (a0.size : Int) := od_
       have hx12 := bt_at a0 ai
       replace eV := eq_true eV
       replace eE := eq_true eE
       go_wp2
       go_roundg k2
       case measure => have := HJ1.out; have := HK2.out; omega
       case rel => exact tg5_2
      replace H := it_ H; rcases H with ⟨c20b0, H⟩ | ⟨c20b0, H⟩
      ·have H' := am_ H
       clear H
       have eV : 0 ≤ (ai : Int) := od_
       have eE : ai < (a0.size : Int) := od_
       have hx12 := bt_at a0 ai
       replace eV := eq_true eV
       replace eE := eq_true eE
       go_wp2
       go_roundg k2
       case measure => have := HJ1.out; have := HK2.out; omega
       case rel => exact tg5_2
      by_cases c21 : ((bt a0 ai) = 45)
      rotate_left
      ·rw [if_neg c21] at H
       have c21b0 : ((bt a0 ai) == 45) = false := beq_eq_false_iff_ne.mpr c21
       have c21b1 : ((bt a0 ai) != 45) = true := bne_iff_ne.mpr c21
       obtain rfl := Option.some.inj H
       have eV : 0 ≤ (ai : Int) := od_
       have eE : ai < (a0.size : Int) := od_
       have hx12 := bt_at a0 ai
       replace eV := eq_true eV
       replace eE := eq_true eE
       go_wp2
       go_ret
       exact ⟨er_, dn_⟩
      rw [if_pos c21] at H
      have c21b0 : ((bt a0 ai) == 45) = true := beq_iff_eq.mpr c21
      have c21b1 : ((bt a0 ai) != 45) = false := bne_eq_false_iff_eq.mpr c21
      clear c21
      have H' := am_ H
      clear H
      have eV : 0 ≤ (ai : Int) := od_
      have eE : ai < (a0.size : Int) := od_
      have hx12 := bt_at a0 ai
      replace eV := eq_true eV
      replace eE := eq_true eE
      go_wp2
      go_roundg k2
      case measure => have := HJ1.out; have := HK2.out; omega
      case rel => exact tg5_2
     replace H := it_ H; rcases H with ⟨c14b0, H⟩ | ⟨c14b0, H⟩
     ·have H' := am_ H
      clear H
      have eV : 0 ≤ (ai : Int) := od_
      have eE : ai < (a0.size : Int) := od_
      have hx12 := bt_at a0 ai
      replace eV := eq_true eV
      replace eE := eq_true eE
      go_wp2
      go_roundg k2
      case measure => have := HJ1.out; have := HK2.out; omega
      case rel => exact tg5_2
     replace H := it_ H; rcases H with ⟨(c15b0 : decide (48 ≤ (bt a0 ai)) = true), H⟩ | ⟨(c15b0 : decide (48 ≤ (bt a0 ai)) = false), H⟩
     rotate_left
     ·by_cases pg : ((bt a0 ai) = 45)
      rotate_left
      ·rw [if_neg pg] at H
       have c18b0 : ((bt a0 ai) == 45) = false := beq_eq_false_iff_ne.mpr pg
       have c18b1 : ((bt a0 ai) != 45) = true := bne_iff_ne.mpr pg
       obtain rfl := Option.some.inj H
       have eV : 0 ≤ (ai : Int) := od_
       have eE : ai < (a0.size : Int) := od_
       have hx12 := bt_at a0 ai
       replace eV := eq_true eV
       replace eE := eq_true eE
       go_wp2
       go_ret
       exact ⟨er_, dn_⟩
      rw [if_pos pg] at H
      have c18b0 : ((bt a0 ai) == 45) = true := beq_iff_eq.mpr pg
      have c18b1 : ((bt a0 ai) != 45) = false := bne_eq_false_iff_eq.mpr pg
      clear pg
      have H' := am_ H
      clear H
      have eV : 0 ≤ (ai : Int) := od_
      have eE : ai < (a0.size : Int) := od_
      have hx12 := bt_at a0 ai
      replace eV := eq_true eV
      replace eE := eq_true eE
      go_wp2
      go_roundg k2
      case measure => have := HJ1.out; have := HK2.out; omega
      case rel => exact tg5_2
     replace H := it_ H; rcases H with ⟨c16b0, H⟩ | ⟨c16b0, H⟩
     ·have H' := am_ H
      clear H
      have eV : 0 ≤ (ai : Int) := od_
      have eE : ai < (a0.size : Int) := od_
      have hx12 := bt_at a0 ai
      replace eV := eq_true eV
      replace eE := eq_true eE
      go_wp2
      go_roundg k2
      case measure => have := HJ1.out; have := HK2.out; omega
      case rel => exact tg5_2
     by_cases j5 : ((bt a0 ai) = 45)
     rotate_left
     ·rw [if_neg j5] at H
      have c17b0 : ((bt a0 ai) == 45) = false := beq_eq_false_iff_ne.mpr j5
      have c17b1 : ((bt a0 ai) != 45) = true := bne_iff_ne.mpr j5
      obtain rfl := Option.some.inj H
      have eV : 0 ≤ (ai : Int) := od_
      have eE : ai < (a0.size : Int) := od_
      have hx12 := bt_at a0 ai
      replace eV := eq_true eV
      replace eE := eq_true eE
      go_wp2
      go_ret
      exact ⟨er_, dn_⟩
     rw [if_pos j5] at H
     have c17b0 : ((bt a0 ai) == 45) = true := beq_iff_eq.mpr j5
     have c17b1 : ((bt a0 ai) != 45) = false := bne_eq_false_iff_eq.mpr j5
     clear j5
     have H' := am_ H
     clear H
     have eV : 0 ≤ (ai : Int) := od_
     have eE : ai < (a0.size : Int) := od_
     have hx12 := bt_at a0 ai
     replace eV := eq_true eV
     replace eE := eq_true eE
     go_wp2
     go_roundg k2
     case measure => have := HJ1.out; have := HK2.out; omega
     case rel => exact tg5_2
def F40.f (a0 : Int) : Option (Bool) := if a0 ≥ 1 then (some (decide (a0 ≤ 999999))) else (some false)
theorem F40.calls {a0 : Int} {r : Bool} {w : World} (h : F40.f a0 = some r) :
  Calls Tryz.prog 40 #[.int .i64 a0] w fun e w' => e = .returned (.bool r) ∧ Drawn0 w w' := by
 have H := h; unfold F40.f at H
 clear h
 replace H := it_ H; rcases H with ⟨(c2b0 : decide (1 ≤ a0) = true), H⟩ | ⟨(c2b0 : decide (1 ≤ a0) = false), H⟩
 ·obtain rfl := Option.some.inj H
  go_enter Tryz.func40, Tryz.ntmps40
  go_wp2
  go_ret
  exact ⟨er_, dn_⟩
 obtain rfl := Option.some.inj H
 go_enter Tryz.func40, Tryz.ntmps40
 go_wp2
 go_ret
 exact ⟨er_, dn_⟩
mutual
def F15.j0 : Nat → Bool → ByteArray → ByteArray → Int → List (S53) → Option (Bool)
  | 0, _, _, _, _, _ => none
  | k + 1, Y7, bI, bJ, bK, aD => if Y7 = true then (some false) else (F15.l0 k 0 bI bJ bK aD)
def F15.l0 : Nat → Int → ByteArray → ByteArray → Int → List (S53) → Option (Bool)
  | 0, _, _, _, _, _ => none
  | k + 1, x3, bI, bJ, bK, aD => if x3 < (aD.length : Int) then (if 0 ≤ x3 then (if ((rd_T53 aD x3).f0) < 1 then (F15.j2 k x3 true bI bJ bK aD ((rd_T53 aD x3).f0) ((rd_T53 aD x3).f1) ((rd_T53 aD x3).f2)) else (if ((rd_T53 aD x3).f0) > 7 then (F15.j2 k x3 true bI bJ bK aD ((rd_T53 aD x3).f0) ((rd_T53 aD x3).f1) ((rd_T53 aD x3).f2)) else ((F40.f ((rd_T53 aD x3).f1)).bind fun KQ => (if KQ = true then (if (((rd_T53 aD x3).f2).length : Int) < 1 then (F15.j2 k x3 true bI bJ bK aD ((rd_T53 aD x3).f0) ((rd_T53 aD x3).f1) ((rd_T53 aD x3).f2)) else (F15.j2 k x3 (decide ((((rd_T53 aD x3).f2).length : Int) > 10)) bI bJ bK aD ((rd_T53 aD x3).f0) ((rd_T53 aD x3).f1) ((rd_T53 aD x3).f2))) else (F15.j2 k x3 true bI bJ bK aD ((rd_T53 aD x3).f0) ((rd_T53 aD x3).f1) ((rd_T53 aD x3).f2)))))) else (none)) else (some true)
def F15.j2 : Nat → Int → Bool → ByteArray → ByteArray → Int → List (S53) → Int → Int → List (S56) → Option (Bool)
  | 0, _, _, _, _, _, _, _, _, _ => none
  | k + 1, x3, Za, bI, bJ, bK, aD, ek, em, bY => if Za = true then (some false) else (F15.l1 k x3 0 bI bJ bK aD ek em bY)
def F15.l1 : Nat → Int → Int → ByteArray → ByteArray → Int → List (S53) → Int → Int → List (S56) → Option (Bool)
  | 0, _, _, _, _, _, _, _, _, _ => none
  | k + 1, x3, x5, bI, bJ, bK, aD, ek, em, bY => if x5 < (bY.length : Int) then (if 0 ≤ x5 then ((F40.f ((rd_T56 bY x5).f0)).bind fun KR => (if KR = true then (F15.j4 k x3 x5 (decide ((((rd_T56 bY x5).f1).length : Int) > 40)) bI bJ bK aD ek em bY ((rd_T56 bY x5).f0) ((rd_T56 bY x5).f1)) else (F15.j4 k x3 x5 true bI bJ bK aD ek em bY ((rd_T56 bY x5).f0) ((rd_T56 bY x5).f1)))) else (none)) else (F15.l0 k (wrap64 (x3 + 1)) bI bJ bK aD)
def F15.j4 : Nat → Int → Int → Bool → ByteArray → ByteArray → Int → List (S53) → Int → Int → List (S56) → Int → List (S49) → Option (Bool)
  | 0, _, _, _, _, _, _, _, _, _, _, _, _ => none
  | k + 1, x3, x5, Zb, bI, bJ, bK, aD, ek, em, bY, mX, fw => if Zb = true then (some false) else (F15.l2 k x3 x5 0 bI bJ bK aD ek em bY mX fw)
def F15.l2 : Nat → Int → Int → Int → ByteArray → ByteArray → Int → List (S53) → Int → Int → List (S56) → Int → List (S49) → Option (Bool)
  | 0, _, _, _, _, _, _, _, _, _, _, _, _ => none
  | k + 1, x3, x5, x7, bI, bJ, bK, aD, ek, em, bY, mX, fw => if x7 < (fw.length : Int) then (if 0 ≤ x7 then ((F41.f k ((rd_T49 fw x7).f0) ((rd_T49 fw x7).f1)).bind fun KS => (if KS = true then ((F42.f ((rd_T49 fw x7).f0)).bind fun KT => (if KT = true then (some false) else (F15.l2 k x3 x5 (wrap64 (x7 + 1)) bI bJ bK aD ek em bY mX fw))) else (some false))) else (none)) else (F15.l1 k x3 (wrap64 (x5 + 1)) bI bJ bK aD ek em bY)
end
def F15.f (k : Nat) (ae : ByteArray) (ax : ByteArray) (aM : Int) (af : List (S53)) : Option (Bool) := (F39.f k ae).bind fun KU => (if KU = true then ((F39.f k ax).bind fun KV => (if KV = true then ((F40.f aM).bind fun KW => (if KW = true then (if (af.length : Int) < 1 then (F15.j0 k true ae ax aM af) else (F15.j0 k (decide ((af.length : Int) > 5)) ae ax aM af)) else (F15.j0 k true ae ax aM af))) else (F15.j0 k true ae ax aM af))) else (F15.j0 k true ae ax aM af))
theorem F15.calls {k : Nat} {ae ax : ByteArray} {aM : Int} {cl : Option Addr} {bN : Nat} {af : List (S53)} {r : Bool} {w : World} (dW : Kd.C k53 w cl af.length af) (dX : af.length ≤ bN) (h : F15.f k ae ax aM af = some r) :
  Calls Tryz.prog 15 #[.agg #[.string ae, .string ax, .int .i64 aM, .slice cl af.length bN]] w fun e w' => e = .returned (.bool r) ∧ Below w.heap.size w w' := by
 have gJ := Tryz.underlying30
 have mD := Tryz.underlying53
 have mB := Tryz.underlying56
 have dk := Tryz.underlying49
 have gV := am_ dW
 have gv := am_ dX
 clear dW dX
 have HB := am_ (Below.refl w.heap.size w)
 have H := h; unfold F15.f at H
 clear h
 have d6 := am_ H
 clear H
 go_enter Tryz.func15, Tryz.ntmps15
 go_upto_region 1 with (first | ((with_reducible refine gate_dst (N := 1) rfl ?_); (try (refine gate_guard (by rfl) ?_; dsimp only)); refine be_ 1 #[.string ae, .string ax, .int .i64 aM, .slice cl af.length bN] 30 ?_; intro mb hg w3 hbox hb; have bg := am_ (hbox); have KX := am_ (gw_ hg bl_); have Vk := KX; replace HB := hs_ w hb; clear hb hbox hg))
 (try simp only [Act.put, List.setIfInBounds_toArray, List.set_cons_zero, List.set_cons_succ])
 go_cut [35] (fun Zc wc => ∃ (kq : Nat) (xy : Bool), Zc = .bool xy ∧ Aside0 (F15.j0 kq xy ae ax aM af = some r) ∧ Aside0 (kq ≤ k) ∧ Aside0 (wc.heap[mb]? = some (.cells #[.string ae, .string ax, .int .i64 aM, (.slice cl af.length bN)] 30 (0, 0))) ∧ Aside0 (Below w.heap.size w wc))
 case first =>
  have H := d6.out
  clear d6
  replace H := bi_ H; rcases H with ⟨KU, A4, H⟩
  replace H := ib_ H; rcases H with ⟨rfl, H⟩ | ⟨rfl, H⟩
  rotate_left
  ·have H' := am_ H
   clear H
   have eh := cellsF4 bg.out
   go_wp2_with (first | (go_at_call 39; (with_reducible refine (F39.calls A4.out).mono ?_); rintro e w' ⟨rfl, ⟨nd, rfl⟩⟩; (try clear A4)))
   go_meet
   case rel => exact tg5_4
  replace H := bi_ H; rcases H with ⟨KV, A6, H⟩
  replace H := ib_ H; rcases H with ⟨rfl, H⟩ | ⟨rfl, H⟩
  rotate_left
  ·have H' := am_ H
   clear H
   have re := cellsF4 bg.out
   go_wp2_with (first | (go_at_call 39; (with_reducible refine (F39.calls A4.out).mono ?_); rintro e w' ⟨rfl, ⟨nd, rfl⟩⟩; (try clear A4)) | (go_at_call 39; (with_reducible refine (F39.calls A6.out).mono ?_); rintro e w' ⟨rfl, ⟨nd, rfl⟩⟩; (try clear A6)))
   go_meet
   case rel => exact tg5_4
  replace H := bi_ H; rcases H with ⟨KW, A8, H⟩
  replace H := ib_ H; rcases H with ⟨rfl, H⟩ | ⟨rfl, H⟩
  rotate_left
  ·have H' := am_ H
   clear H
   have ej := cellsF4 bg.out
   go_wp2_with (first | (go_at_call 39; (with_reducible refine (F39.calls A4.out).mono ?_); rintro e w' ⟨rfl, ⟨nd, rfl⟩⟩; (try clear A4)) | (go_at_call 39; (with_reducible refine (F39.calls A6.out).mono ?_); rintro e w' ⟨rfl, ⟨nd, rfl⟩⟩; (try clear A6)) | (go_at_call 40; (with_reducible refine (F40.calls A8.out).mono ?_); rintro e w' ⟨rfl, ⟨nd, rfl⟩⟩; (try clear A8)))
   go_meet
   case rel => exact tg5_4
  replace H := it_ H; rcases H with ⟨c10b0, H⟩ | ⟨c10b0, H⟩
  rotate_left
  ·have c10b1 : decide (af.length < 1) = false := n2_ c10b0
   (first | rw [c10b0] | (simp only [i64_w, i32_w]; rw [c10b0]) | skip)
   have H' := am_ H
   clear H
   have ei := cellsF4 bg.out
   go_wp2_with (first | (go_at_call 39; (with_reducible refine (F39.calls A4.out).mono ?_); rintro e w' ⟨rfl, ⟨nd, rfl⟩⟩; (try clear A4)) | (go_at_call 39; (with_reducible refine (F39.calls A6.out).mono ?_); rintro e w' ⟨rfl, ⟨nd, rfl⟩⟩; (try clear A6)) | (go_at_call 40; (with_reducible refine (F40.calls A8.out).mono ?_); rintro e w' ⟨rfl, ⟨nd, rfl⟩⟩; (try clear A8)))
   go_meet
   case rel => exact ⟨_, (decide ((af.length : Int) > 5)), er_, H', ⟨ax10_⟩, ⟨bk_ bg⟩, ⟨bl_⟩⟩
  have c10b1 : decide (af.length < 1) = true := n2_ c10b0
  (first | rw [c10b0] | (simp only [i64_w, i32_w]; rw [c10b0]) | skip)
  have H' := am_ H
  clear H
  have mS := cellsF4 bg.out
  go_wp2_with (first | (go_at_call 39; (with_reducible refine (F39.calls A4.out).mono ?_); rintro e w' ⟨rfl, ⟨nd, rfl⟩⟩; (try clear A4)) | (go_at_call 39; (with_reducible refine (F39.calls A6.out).mono ?_); rintro e w' ⟨rfl, ⟨nd, rfl⟩⟩; (try clear A6)) | (go_at_call 40; (with_reducible refine (F40.calls A8.out).mono ?_); rintro e w' ⟨rfl, ⟨nd, rfl⟩⟩; (try clear A8)))
  go_meet
  case rel => exact tg5_4
 case rest =>
  clear d6
  obtain ⟨kq, xy, rfl, HA, HJ1, bg, HB⟩ := hcut
  cases kq with
  | zero => exact absurd HA.out (by simp [F15.j0])
  | succ vT =>
   have H := HA.out
   clear HA
   simp only [F15.j0] at H
   replace H := ib_ H; rcases H with ⟨rfl, H⟩ | ⟨rfl, H⟩
   ·obtain rfl := Option.some.inj H
    go_wp2
    go_ret
    exact ⟨ax11_, bl_⟩
   have H' := am_ H
   clear H
   go_wp2
   go_loopg [3] vT (fun kq v3 w' => ∃ (ai : Int), v3 = .int .i64 ai ∧ Aside0 (F15.l0 kq ai ae ax aM af = some r) ∧ Aside0 (kq ≤ vT) ∧ Aside0 (w'.heap[mb]? = some (.cells #[.string ae, .string ax, .int .i64 aM, (.slice cl af.length bN)] 30 (0, 0))) ∧ Aside0 (Below w.heap.size w w'))
   case atStart => exact ⟨(0), er_, H', ⟨Nat.le_refl _⟩, ⟨bk_ bg⟩, ⟨bl_⟩⟩
   case round =>
    clear H'
    obtain ⟨ai, rfl, HA, HK2, bg, HB⟩ := hrel
    cases gk with
    | zero => exact absurd HA.out (by simp [F15.l0])
    | succ k2 =>
     have H := HA.out
     clear HA
     simp only [F15.l0] at H
     replace H := it_ H; rcases H with ⟨c17b0, H⟩ | ⟨c17b0, H⟩
     rotate_left
     ·obtain rfl := Option.some.inj H
      have Ou := cellsF4 bg.out
      go_wp2
      go_ret
      exact ⟨ax11_, bl_⟩
     replace H := itn_ H; rcases H with ⟨c18b0, H⟩
     have ph := am_ H
     clear H
     have fv := cellsF4 bg.out
     have AC : 0 ≤ (ai : Int) := od_
     have AD : ai < (af.length : Int) := od_
     obtain ⟨rC, xz, mY, Q9, mZ, m5, m6, rD, rE⟩ := at_T53 gV.out ai AC AD
     cases Q9
     replace mZ := pw_cell_below HB.out mZ
     replace m5 := pw_cell_below HB.out m5
     replace m6 := pw_cell_below HB.out m6
     have AE := am_ rE
     have Ov := am_ rD
     clear rE rD
     replace AC := eq_true AC
     replace AD := eq_true AD
     go_upto_region 7 with (first | ((with_reducible refine gate_dst (N := 4) rfl ?_); (try (refine gate_guard (by rfl) ?_; dsimp only)); refine be_ 4 #[.int .i64 0, .int .i64 0, .slice none 0 0] 53 ?_; intro rF hg wA hbox hb; have bM := am_ (hbox); have KY := am_ (gw_ hg bl_); have Vl := KY; replace HB := hs_ w hb; have Il := am_ (gn_ hg (blkl_ bg)); have dq := am_ (gm_ hg (blkl_ bg)); replace bg := bb_ bg hb; clear hb hbox hg; obtain ⟨IY, IZ⟩ := nn_ dq; have my := cellsF3 bM.out))
     (try simp only [Act.put, List.setIfInBounds_toArray, List.set_cons_zero, List.set_cons_succ])
     go_cut [73] (fun Zd wc => ∃ (kq : Nat) (pi : Bool), Zd = .bool pi ∧ Aside0 (F15.j2 kq ai pi ae ax aM af ((rd_T53 af ai).f0) ((rd_T53 af ai).f1) ((rd_T53 af ai).f2) = some r) ∧ Aside0 (kq ≤ k2) ∧ Aside0 (wc.heap[mb]? = some (.cells #[.string ae, .string ax, .int .i64 aM, (.slice (some rC) af.length bN)] 30 (0, 0))) ∧ Aside0 (wc.heap[rF]? = some (.cells #[.int .i64 ((rd_T53 af ai).f0), .int .i64 ((rd_T53 af ai).f1), (.slice xz ((rd_T53 af ai).f2).length mY)] 53 (0, 0))) ∧ Aside0 (Below w.heap.size w wc))
     case first =>
      have H := ph.out
      clear ph
      replace H := it_ H; rcases H with ⟨c24b0, H⟩ | ⟨c24b0, H⟩
      ·(first | rw [c24b0] | (simp only [i64_w, i32_w]; rw [c24b0]) | skip)
       have H' := am_ H
       clear H
       obtain ⟨Dc, Dd⟩ := nn_ dq
       have qG := cellsF3 bM.out
       go_wp2
       go_meet
       case rel => exact tg5_5
      (first | rw [c24b0] | (simp only [i64_w, i32_w]; rw [c24b0]) | skip)
      replace H := it_ H; rcases H with ⟨(c27b0 : decide (7 < ((rd_T53 af ai).f0)) = true), H⟩ | ⟨(c27b0 : decide (7 < ((rd_T53 af ai).f0)) = false), H⟩
      ·have H' := am_ H
       clear H
       obtain ⟨nG, nH⟩ := nn_ dq
       have kz := cellsF3 bM.out
       go_wp2
       go_meet
       case rel => exact tg5_5
      replace H := bi_ H; rcases H with ⟨KQ, AF, H⟩
      replace H := ib_ H; rcases H with ⟨rfl, H⟩ | ⟨rfl, H⟩
      rotate_left
      ·have H' := am_ H
       clear H
       obtain ⟨KZ, K0⟩ := nn_ dq
       have rG := cellsF3 bM.out
       go_wp2_with (first | (go_at_call 40; (with_reducible refine (F40.calls AF.out).mono ?_); rintro e w' ⟨rfl, ⟨nd, rfl⟩⟩; (try clear AF)))
       go_meet
       case rel => exact tg5_5
      replace H := it_ H; rcases H with ⟨c32b0, H⟩ | ⟨c32b0, H⟩
      rotate_left
      ·have c32b1 : decide (((rd_T53 af ai).f2).length < 1) = false := n2_ c32b0
       have H' := am_ H
       clear H
       obtain ⟨K4, K5⟩ := nn_ dq
       have mv := cellsF3 bM.out
       go_wp2_with (first | (go_at_call 40; (with_reducible refine (F40.calls AF.out).mono ?_); rintro e w' ⟨rfl, ⟨nd, rfl⟩⟩; (try clear AF)))
       go_meet
       case rel => exact ⟨_, (decide ((((rd_T53 af ai).f2).length : Int) > 10)), er_, H', ⟨ax12_⟩, ⟨bf_ bg⟩, ⟨bq_ bM⟩, ⟨bl_⟩⟩
      have c32b1 : decide (((rd_T53 af ai).f2).length < 1) = true := n2_ c32b0
      have H' := am_ H
      clear H
      obtain ⟨Vm, Vn⟩ := nn_ dq
      have Ow := cellsF3 bM.out
      go_wp2_with (first | (go_at_call 40; (with_reducible refine (F40.calls AF.out).mono ?_); rintro e w' ⟨rfl, ⟨nd, rfl⟩⟩; (try clear AF)))
      go_meet
      case rel => exact tg5_5
     case rest =>
      clear ph
      try clear c17b0
      try clear c18b0
      try clear fv
      try clear my
      try clear mZ
      try clear m5
      try clear m6
      try clear AC
      try clear AD
      obtain ⟨kq, pi, rfl, HA, pe, bg, bM, HB⟩ := hcut
      cases kq with
      | zero => exact absurd HA.out (by simp [F15.j2])
      | succ Fs =>
       have H := HA.out
       clear HA
       simp only [F15.j2] at H
       replace H := ib_ H; rcases H with ⟨rfl, H⟩ | ⟨rfl, H⟩
       ·obtain rfl := Option.some.inj H
        go_wp2
        go_ret
        exact ⟨ax11_, bl_⟩
       have H' := am_ H
       clear H
       go_wp2
       go_loopg [5] Fs (fun kq v5 w' => ∃ (cN : Int), v5 = .int .i64 cN ∧ Aside0 (F15.l1 kq ai cN ae ax aM af ((rd_T53 af ai).f0) ((rd_T53 af ai).f1) ((rd_T53 af ai).f2) = some r) ∧ Aside0 (kq ≤ Fs) ∧ Aside0 (w'.heap[mb]? = some (.cells #[.string ae, .string ax, .int .i64 aM, (.slice (some rC) af.length bN)] 30 (0, 0))) ∧ Aside0 (w'.heap[rF]? = some (.cells #[.int .i64 ((rd_T53 af ai).f0), .int .i64 ((rd_T53 af ai).f1), (.slice xz ((rd_T53 af ai).f2).length mY)] 53 (0, 0))) ∧ Aside0 (Below w.heap.size w w'))
       case atStart => exact ⟨(0), er_, H', ⟨Nat.le_refl _⟩, ⟨bk_ bg⟩, ⟨bk_ bM⟩, ⟨bl_⟩⟩
       case round =>
        clear H'
        obtain ⟨cN, rfl, HA, uR, bg, bM, HB⟩ := hrel
        cases gk with
        | zero => exact absurd HA.out (by simp [F15.l1])
        | succ k4 =>
         have H := HA.out
         clear HA
         simp only [F15.l1] at H
         replace H := it_ H; rcases H with ⟨c40b0, H⟩ | ⟨c40b0, H⟩
         rotate_left
         ·have H' := am_ H
          clear H
          obtain ⟨Vo, Vp⟩ := nn_ dq
          have AG := cellsF3 bM.out
          go_wp2
          go_roundg k4
          case measure => have := HJ1.out; have := HK2.out; have := pe.out; have := uR.out; omega
          case rel => exact ⟨(wrap64 (ai + 1)), er_, H', ⟨by have := HJ1.out; have := HK2.out; have := pe.out; have := uR.out; omega⟩, ⟨bk_ bg⟩, ⟨bl_⟩⟩
         replace H := itn_ H; rcases H with ⟨c41b0, H⟩
         have Ft := am_ H
         clear H
         obtain ⟨Vq, Vr⟩ := nn_ dq
         have m7 := cellsF3 bM.out
         have AI : 0 ≤ (cN : Int) := od_
         have AJ : cN < (((rd_T53 af ai).f2).length : Int) := od_
         obtain ⟨DN, xA, xB, Ra, m8, m9, rH, rI⟩ := at_T56 AE.out cN AI AJ
         cases Ra
         replace m8 := pw_cell_below HB.out m8
         replace m9 := pw_cell_below HB.out m9
         have iB := am_ rI
         have Ox := am_ rH
         clear rI rH
         replace AI := eq_true AI
         replace AJ := eq_true AJ
         go_upto_region 13 with (first | ((with_reducible refine gate_dst (N := 6) rfl ?_); (try (refine gate_guard (by rfl) ?_; dsimp only)); refine be_ 6 #[.int .i64 0, .slice none 0 0] 56 ?_; intro DO hg Vs hbox hb; have dd := am_ (hbox); have K6 := am_ (gw_ hg bl_); have Vt := K6; replace HB := hs_ w hb; have Im := am_ (gn_ hg (blkl_ bg)); have dN := am_ (gm_ hg (blkl_ bg)); replace bg := bb_ bg hb; have In := am_ (gn_ hg (blkl_ bM)); have dO := am_ (gm_ hg (blkl_ bM)); replace bM := bb_ bM hb; clear hb hbox hg; obtain ⟨Vu, Vv⟩ := nn_ dN; obtain ⟨Vw, Vx⟩ := nn_ dO; have AK := cellsF2 dd.out))
         (try simp only [Act.put, List.setIfInBounds_toArray, List.set_cons_zero, List.set_cons_succ])
         go_cut [95] (fun Ze wc => ∃ (kq : Nat) (pj : Bool), Ze = .bool pj ∧ Aside0 (F15.j4 kq ai cN pj ae ax aM af ((rd_T53 af ai).f0) ((rd_T53 af ai).f1) ((rd_T53 af ai).f2) ((rd_T56 ((rd_T53 af ai).f2) cN).f0) ((rd_T56 ((rd_T53 af ai).f2) cN).f1) = some r) ∧ Aside0 (kq ≤ k4) ∧ Aside0 (wc.heap[mb]? = some (.cells #[.string ae, .string ax, .int .i64 aM, (.slice (some rC) af.length bN)] 30 (0, 0))) ∧ Aside0 (wc.heap[rF]? = some (.cells #[.int .i64 ((rd_T53 af ai).f0), .int .i64 ((rd_T53 af ai).f1), (.slice (some DN) ((rd_T53 af ai).f2).length mY)] 53 (0, 0))) ∧ Aside0 (wc.heap[DO]? = some (.cells #[.int .i64 ((rd_T56 ((rd_T53 af ai).f2) cN).f0), (.slice xA ((rd_T56 ((rd_T53 af ai).f2) cN).f1).length xB)] 56 (0, 0))) ∧ Aside0 (Below w.heap.size w wc))
         case first =>
          have H := Ft.out
          clear Ft
          replace H := bi_ H; rcases H with ⟨KR, Oy, H⟩
          replace H := ib_ H; rcases H with ⟨rfl, H⟩ | ⟨rfl, H⟩
          rotate_left
          ·have H' := am_ H
           clear H
           obtain ⟨Vy, Vz⟩ := nn_ dN
           obtain ⟨DP, DQ⟩ := nn_ dO
           have AL := cellsF2 dd.out
           go_wp2_with (first | (go_at_call 40; (with_reducible refine (F40.calls Oy.out).mono ?_); rintro e w' ⟨rfl, ⟨nd, rfl⟩⟩; (try clear Oy)))
           go_meet
           case rel => exact ⟨_, (true), er_, H', ⟨au5_12⟩, ⟨bf_ bg⟩, ⟨bf_ bM⟩, ⟨bq_ dd⟩, ⟨bl_⟩⟩
          have H' := am_ H
          clear H
          obtain ⟨K7, K8⟩ := nn_ dN
          obtain ⟨K9, La⟩ := nn_ dO
          have rJ := cellsF2 dd.out
          go_wp2_with (first | (go_at_call 40; (with_reducible refine (F40.calls Oy.out).mono ?_); rintro e w' ⟨rfl, ⟨nd, rfl⟩⟩; (try clear Oy)))
          go_meet
          case rel => exact ⟨_, (decide ((((rd_T56 ((rd_T53 af ai).f2) cN).f1).length : Int) > 40)), er_, H', ⟨au5_12⟩, ⟨bf_ bg⟩, ⟨bf_ bM⟩, ⟨bq_ dd⟩, ⟨bl_⟩⟩
         case rest =>
          clear Ft
          try clear c40b0
          try clear c41b0
          try clear m7
          try clear AK
          try clear m8
          try clear m9
          try clear AI
          try clear AJ
          obtain ⟨kq, pj, rfl, HA, Fr, bg, bM, dd, HB⟩ := hcut
          cases kq with
          | zero => exact absurd HA.out (by simp [F15.j4])
          | succ Lb =>
           have H := HA.out
           clear HA
           simp only [F15.j4] at H
           replace H := ib_ H; rcases H with ⟨rfl, H⟩ | ⟨rfl, H⟩
           ·obtain rfl := Option.some.inj H
            go_wp2
            go_ret
            exact ⟨ax11_, bl_⟩
           have H' := am_ H
           clear H
           go_wp2
           go_loopg [7] Lb (fun kq v7 w' => ∃ (fz : Int), v7 = .int .i64 fz ∧ Aside0 (F15.l2 kq ai cN fz ae ax aM af ((rd_T53 af ai).f0) ((rd_T53 af ai).f1) ((rd_T53 af ai).f2) ((rd_T56 ((rd_T53 af ai).f2) cN).f0) ((rd_T56 ((rd_T53 af ai).f2) cN).f1) = some r) ∧ Aside0 (kq ≤ Lb) ∧ Aside0 (w'.heap[mb]? = some (.cells #[.string ae, .string ax, .int .i64 aM, (.slice (some rC) af.length bN)] 30 (0, 0))) ∧ Aside0 (w'.heap[rF]? = some (.cells #[.int .i64 ((rd_T53 af ai).f0), .int .i64 ((rd_T53 af ai).f1), (.slice (some DN) ((rd_T53 af ai).f2).length mY)] 53 (0, 0))) ∧ Aside0 (w'.heap[DO]? = some (.cells #[.int .i64 ((rd_T56 ((rd_T53 af ai).f2) cN).f0), (.slice xA ((rd_T56 ((rd_T53 af ai).f2) cN).f1).length xB)] 56 (0, 0))) ∧ Aside0 (Below w.heap.size w w'))
           case atStart => exact ⟨(0), er_, H', ⟨Nat.le_refl _⟩, ⟨bk_ bg⟩, ⟨bk_ bM⟩, ⟨bk_ dd⟩, ⟨bl_⟩⟩
           case round =>
            clear H'
            obtain ⟨fz, rfl, HA, Q8, bg, bM, dd, HB⟩ := hrel
            cases gk with
            | zero => exact absurd HA.out (by simp [F15.l2])
            | succ k6 =>
             have H := HA.out
             clear HA
             simp only [F15.l2] at H
             replace H := it_ H; rcases H with ⟨c58b0, H⟩ | ⟨c58b0, H⟩
             rotate_left
             ·have H' := am_ H
              clear H
              obtain ⟨VA, VB⟩ := nn_ dN
              obtain ⟨VC, VD⟩ := nn_ dO
              have Oz := cellsF2 dd.out
              go_wp2
              go_roundg k6
              case measure => have := HJ1.out; have := HK2.out; have := pe.out; have := uR.out; have := Fr.out; have := Q8.out; omega
              case rel => exact ⟨(wrap64 (cN + 1)), er_, H', ⟨au5_11⟩, ⟨bk_ bg⟩, ⟨bk_ bM⟩, ⟨bl_⟩⟩
             replace H := itn_ H; rcases H with ⟨c59b0, H⟩
             replace H := bi_ H; rcases H with ⟨KS, uV, H⟩
             replace H := ib_ H; rcases H with ⟨rfl, H⟩ | ⟨rfl, H⟩
             rotate_left
             ·obtain rfl := Option.some.inj H
              obtain ⟨Lc, Ld⟩ := nn_ dN
              obtain ⟨VE, VF⟩ := nn_ dO
              have OA := cellsF2 dd.out
              have lq : 0 ≤ (fz : Int) := od_
              have lr : fz < (((rd_T56 ((rd_T53 af ai).f2) cN).f1).length : Int) := od_
              obtain ⟨rK, xC, xD, xE, e9, fa, fb, fc⟩ := at_T49 iB.out fz lq lr
              cases xE
              replace e9 := pw_cell_below HB.out e9
              replace fa := pw_cell_below HB.out fa
              have mW := am_ fc
              have iC := am_ fb
              clear fc fb
              replace lq := eq_true lq
              replace lr := eq_true lr
              go_wp2_with (first | (go_at_call 41; (with_reducible refine (F41.calls ?s1 ?s2 uV.out).mono ?_); (case s1 => exact au5_4); (case s2 => exact iC.out); rintro e vQ ⟨rfl, hb⟩; (try clear uV); replace bg := bb_ bg hb; replace bM := bb_ bM hb; replace dd := bb_ dd hb; replace HB := hs_ w hb; (try clear hb)))
              go_ret
              exact ⟨ax11_, bl_⟩
             replace H := bi_ H; rcases H with ⟨KT, AM, H⟩
             replace H := ib_ H; rcases H with ⟨rfl, H⟩ | ⟨rfl, H⟩
             ·obtain rfl := Option.some.inj H
              obtain ⟨Le, Lf⟩ := nn_ dN
              obtain ⟨DR, DS⟩ := nn_ dO
              have AN := cellsF2 dd.out
              have lq : 0 ≤ (fz : Int) := od_
              have lr : fz < (((rd_T56 ((rd_T53 af ai).f2) cN).f1).length : Int) := od_
              obtain ⟨rK, xC, xD, xE, e9, fa, fb, fc⟩ := at_T49 iB.out fz lq lr
              cases xE
              replace e9 := pw_cell_below HB.out e9
              replace fa := pw_cell_below HB.out fa
              have mW := am_ fc
              have iC := am_ fb
              clear fc fb
              replace lq := eq_true lq
              replace lr := eq_true lr
              go_wp2_with (first | (go_at_call 41; (with_reducible refine (F41.calls ?s1 ?s2 uV.out).mono ?_); (case s1 => exact au5_4); (case s2 => exact iC.out); rintro e w67 ⟨rfl, hb⟩; (try clear uV); replace bg := bb_ bg hb; replace bM := bb_ bM hb; replace dd := bb_ dd hb; replace HB := hs_ w hb; (try clear hb); have AO := cellsF2 dd.out; have pk : 0 ≤ (fz : Int) := od_; have pl : fz < (((rd_T56 ((rd_T53 af ai).f2) cN).f1).length : Int) := od_; obtain ⟨xF, Fu, Fv, Fw, iD, iE, iF, iG⟩ := at_T49 iB.out fz pk pl; obtain rfl : rK = xF := (by injection Fw); replace iD := pw_cell_below HB.out iD; replace iE := pw_cell_below HB.out iE; have AP := am_ iG; have AQ := am_ iF; clear iG iF; replace pk := eq_true pk; replace pl := eq_true pl) | (go_at_call 42; (with_reducible refine (F42.calls AM.out).mono ?_); rintro e w' ⟨rfl, ⟨nd, rfl⟩⟩; (try clear AM)))
              go_ret
              exact ⟨ax11_, bl_⟩
             have H' := am_ H
             clear H
             obtain ⟨VG, VH⟩ := nn_ dN
             obtain ⟨VI, VJ⟩ := nn_ dO
             have OB := cellsF2 dd.out
             have lq : 0 ≤ (fz : Int) := od_
             have lr : fz < (((rd_T56 ((rd_T53 af ai).f2) cN).f1).length : Int) := od_
             obtain ⟨rK, xC, xD, xE, e9, fa, fb, fc⟩ := at_T49 iB.out fz lq lr
             cases xE
             replace e9 := pw_cell_below HB.out e9
             replace fa := pw_cell_below HB.out fa
             have mW := am_ fc
             have iC := am_ fb
             clear fc fb
             replace lq := eq_true lq
             replace lr := eq_true lr
             go_wp2_with (first | (go_at_call 41; (with_reducible refine (F41.calls ?s1 ?s2 uV.out).mono ?_); (case s1 => exact au5_4); (case s2 => exact iC.out); rintro e w72 ⟨rfl, hb⟩; (try clear uV); replace bg := bb_ bg hb; replace bM := bb_ bM hb; replace dd := bb_ dd hb; replace HB := hs_ w hb; (try clear hb); have OC := cellsF2 dd.out; have pk : 0 ≤ (fz : Int) := od_; have pl : fz < (((rd_T56 ((rd_T53 af ai).f2) cN).f1).length : Int) := od_; obtain ⟨xF, Fu, Fv, Fw, iD, iE, iF, iG⟩ := at_T49 iB.out fz pk pl; obtain rfl : rK = xF := (by injection Fw); replace iD := pw_cell_below HB.out iD; replace iE := pw_cell_below HB.out iE; have AP := am_ iG; have AQ := am_ iF; clear iG iF; replace pk := eq_true pk; replace pl := eq_true pl) | (go_at_call 42; (with_reducible refine (F42.calls AM.out).mono ?_); rintro e w' ⟨rfl, ⟨nd, rfl⟩⟩; (try clear AM)))
             go_roundg k6
             case measure => have := HJ1.out; have := HK2.out; have := pe.out; have := uR.out; have := Fr.out; have := Q8.out; omega
             case rel => exact ⟨(wrap64 (fz + 1)), er_, H', ⟨au5_11⟩, ⟨bk_ bg⟩, ⟨bk_ bM⟩, ⟨bk_ dd⟩, ⟨bl_⟩⟩
def F75.f (l0 : List (S49)) : Option (Bool) := some (decide ((l0.length : Int) > 400))
theorem F75.calls {A0 : Option Addr} {c0 : Nat} {l0 : List (S49)} {r : Bool} {w : World} (bH : Kd.C k49 w A0 l0.length l0) (hc0 : l0.length ≤ c0) (h : F75.f l0 = some r) :
  Calls Tryz.prog 75 #[.slice A0 l0.length c0] w fun e w' => e = .returned (.bool r) ∧ Drawn0 w w' := by
 have fN := am_ bH
 have kt := am_ hc0
 clear bH hc0
 have H := h; unfold F75.f at H
 clear h
 obtain rfl := Option.some.inj H
 go_enter Tryz.func75, Tryz.ntmps75
 go_wp2
 go_ret
 exact ⟨er_, dn_⟩
def F101.l0 : Nat → ByteArray → Int → List ByteArray → List (S91) → Int → Int → ByteArray → List (S91) → Option (List ByteArray × Bool)
  | 0, _, _, _, _, _, _, _, _ => none
  | k + 1, x1, x2, x8, Lg, VK, Aw, rL, AR => if Aw < VK then (if 0 ≤ Aw then (if Aw < (Lg.length : Int) then (if (((rd_T91 Lg Aw).f0).length : Int) = 1 then (if 0 < (((rd_T91 Lg Aw).f0).length : Int) then (if x8.length < 8796093022208 then (F101.l0 k x1 x2 (x8 ++ [rdOf ByteArray.empty ((rd_T91 Lg Aw).f0) 0]) Lg VK (wrap64 (Aw + 1)) rL AR) else (none)) else (none)) else (some (([] : List ByteArray), false))) else (none)) else (none)) else (if rL.toList = x1.toList then (some (x8, ((x8.length : Int) == x2))) else (some (x8, false)))
def F101.f (k : Nat) (ae : ByteArray) (ac : List (S91)) (a1 : ByteArray) (a2 : Int) : Option (List ByteArray × Bool) := F101.l0 k a1 a2 (([] : List ByteArray)) ac (ac.length : Int) 0 ae ac
theorem F101.mono_l : ∀ k, (∀ y0 y1 y2 y3 y4 y5 y6 y7, LeO (F101.l0 k y0 y1 y2 y3 y4 y5 y6 y7) (F101.l0 (k + 1) y0 y1 y2 y3 y4 y5 y6 y7))
 | 0 => fun _ _ _ _ _ _ _ _ r h => by simp [F101.l0] at h
 | k + 1 => by
  have ef := F101.mono_l k
  intro y0 y1 y2 y3 y4 y5 y6 y7
  unfold F101.l0
  exact tg5_6
theorem F101.mono : ∀ a0 a1 a2 a3 k, LeO (F101.f k a0 a1 a2 a3) (F101.f (k + 1) a0 a1 a2 a3) := by
 intro a0 a1 a2 a3 k
 have ef := F101.mono_l k
 unfold F101.f
 exact tg5_6
theorem F101.calls {k : Nat} {ae : ByteArray} {aJ : Option Addr} {aH : Nat} {ac : List (S91)} {a1 : ByteArray} {a2 : Int} {r1 : List ByteArray} {r2 : Bool} {w : World} (aY : Kd.C k91 w aJ ac.length ac) (aZ : ac.length ≤ aH) (h : F101.f k ae ac a1 a2 = some (r1, r2)) :
  Calls Tryz.prog 101 #[.agg #[.string ae, .slice aJ ac.length aH], .string a1, .int .i64 a2] w fun e w' => ∃ l7 : Value, e = .returned (.tuple #[l7, .bool r2]) ∧ Kd.R Kd.string 9 w' w.heap.size (fun _ => True) l7 r1 ∧ Below w.heap.size w w' := by
 have dk := Tryz.underlying49
 have kX := Tryz.underlying91
 have br := am_ aY
 have da := am_ aZ
 clear aY aZ
 have HB := am_ (Below.refl w.heap.size w)
 have H := h; unfold F101.f at H
 clear h
 obtain ⟨Lh, xG⟩ : ∃ y_ : List ByteArray, y_ = (([] : List ByteArray)) := ⟨_, rfl⟩
 replace H : (F101.l0 k a1 a2 Lh ac (ac.length : Int) 0 ae ac) = some (r1, r2) := by first | (rw [xG]; exact H) | exact H
 have DT := am_ xG
 clear xG
 have H' := am_ H
 clear H
 go_enter Tryz.func101, Tryz.ntmps101
 go_wp2_with (first | ((with_reducible refine gate_dst (N := 3) rfl ?_); (try (refine gate_guard (by rfl) ?_; dsimp only)); refine be_ 3 #[.string ae, .slice aJ ac.length aH] 49 ?_; intro Li hg w4 hbox hb; have dv := am_ (hbox); have Lj := am_ (gw_ hg bl_); have VL := Lj; replace HB := hs_ w hb; clear hb hbox hg) | ((with_reducible refine gate_dst (N := 11) rfl ?_); (try (refine gate_guard (by rfl) ?_; dsimp only)); refine Kd.R_lit Kd.string _ 9 ?hg (N := 11) ?hd (xs := ([] : List ByteArray)) (inner := []) (ok := fun _ => True) (okp := fun _ => True) ?hr ?hp (fun _ hk => hk) trivial (Below.refl _ _) (Nat.le_refl _) (by simp) ?_; (case hd => rfl); (case hg => rfl); (case hr => exact hr_); (case hp => exact (Reps.none _ _)); intro Zf w5 n5 hb hg_ hnew_; clear hg_ hnew_; (first | rw [← DT.out] at n5 | (simp only [Int.reduceToNat] at n5; rw [← DT.out] at n5)); have Lk := am_ (Kd.R_lower n5 (below_size bl_)); replace dv := bb_ dv hb; replace HB := hs_ w hb; clear hb n5; have fu := cellsF2 dv.out))
 go_loopg [8, 15] k (fun kq v8 QZ w' => ∃ (aX : List ByteArray) (bP : Int), QZ = .int .i64 bP ∧ Aside0 (F101.l0 kq a1 a2 aX ac (ac.length : Int) bP ae ac = some (r1, r2)) ∧ Aside0 (kq ≤ k) ∧ Aside0 (Kd.R Kd.string 9 w' w.heap.size (fun _ => True) v8 aX) ∧ Aside0 (w'.heap[Li]? = some (.cells #[.string ae, (.slice aJ ac.length aH)] 49 (0, 0))) ∧ Aside0 (Below w.heap.size w w'))
 case atStart => exact ⟨(Lh), (0), er_, H', ⟨Nat.le_refl _⟩, ⟨rk_ Lk⟩, ⟨bk_ dv⟩, ⟨bl_⟩⟩
 case round =>
  clear H'
  try clear fu
  obtain ⟨aX, bP, rfl, HA, cK, ls, dv, HB⟩ := hrel
  cases gk with
  | zero => exact absurd HA.out (by simp [F101.l0])
  | succ k1 =>
   have H := HA.out
   clear HA
   simp only [F101.l0] at H
   replace H := it_ H; rcases H with ⟨c8b0, H⟩ | ⟨c8b0, H⟩
   rotate_left
   ·by_cases c21 : ae.toList = a1.toList
    rotate_left
    ·rw [if_neg c21] at H
     have c21b0 : (ae.toList == a1.toList) = false := beq_eq_false_iff_ne.mpr c21
     have c21b1 : (ae.toList != a1.toList) = true := bne_iff_ne.mpr c21
     simp only [Option.some.injEq, Prod.mk.injEq] at H
     obtain ⟨rfl, rfl⟩ := H
     have rh := cellsF2 dv.out
     go_wp2
     go_ret2
     exact ⟨_, ax11_, rk_ ls, bl_⟩
    rw [if_pos c21] at H
    have c21b0 : (ae.toList == a1.toList) = true := beq_iff_eq.mpr c21
    have c21b1 : (ae.toList != a1.toList) = false := bne_eq_false_iff_eq.mpr c21
    clear c21
    simp only [Option.some.injEq, Prod.mk.injEq] at H
    obtain ⟨rfl, rfl⟩ := H
    have AS := cellsF2 dv.out
    obtain ⟨AT, AU, uW⟩ := Kd.R_slice ls.out
    subst uW
    go_wp2
    go_ret2
    exact ⟨_, ax11_, rk_ ls, bl_⟩
   replace H := itn_ H; rcases H with ⟨c9b0, H⟩
   replace H := itn_ H; rcases H with ⟨c10b0, H⟩
   by_cases fS : (((rd_T91 ac bP).f0).length : Int) = 1
   rotate_left
   ·rw [if_neg fS] at H
    have c11b0 : ((((rd_T91 ac bP).f0).length : Int) == 1) = false := beq_eq_false_iff_ne.mpr fS
    have c11b1 : ((((rd_T91 ac bP).f0).length : Int) != 1) = true := bne_iff_ne.mpr fS
    simp only [Option.some.injEq, Prod.mk.injEq] at H
    obtain ⟨rfl, rfl⟩ := H
    have pm : 0 ≤ (bP : Int) := od_
    have pn : bP < (ac.length : Int) := od_
    obtain ⟨Ll, Fx, nc, Fy, iH, iI, iJ⟩ := at_T91 br.out bP pm pn
    cases Fy
    replace iH := pw_cell_below HB.out iH
    have rN := am_ iJ
    have AV := am_ iI
    clear iJ iI
    replace pm := eq_true pm
    replace pn := eq_true pn
    go_wp2_with (first | ((with_reducible refine gate_dst (N := 10) rfl ?_); (try (refine gate_guard (by rfl) ?_; dsimp only)); refine be_ 10 #[.slice none 0 0] 91 ?_; intro lu hg zx hbox hb; replace ls := am_ (Kd.R_below (rk_ ls) hb); have iK := am_ (hbox); have rO := am_ (gw_ hg bl_); have Lm := rO; replace HB := hs_ w hb; have uX := am_ (gn_ hg (blkl_ dv)); have j6 := am_ (gm_ hg (blkl_ dv)); replace dv := bb_ dv hb; clear hb hbox hg; obtain ⟨Di, Dj⟩ := nn_ j6; have fv : zx.cell? ⟨lu, 0, none⟩ = some (.slice none 0 0) := (blk_cell iK.out 0).trans rfl; have zN := blk_frozen iK.out 0))
    go_ret2
    exact ⟨_, ax11_, by first | exact Kd.R_nil _ _ _ _ _ | exact Kd.N_nil _ _ _ _ _ | exact Kd.V_nil _ _ _ _ _ | exact Kd.Q_nil _ _ _ _ _ | exact Kd.S_nil _ _ _ _ _, bl_⟩
   rw [if_pos fS] at H
   have c11b0 : ((((rd_T91 ac bP).f0).length : Int) == 1) = true := beq_iff_eq.mpr fS
   have c11b1 : ((((rd_T91 ac bP).f0).length : Int) != 1) = false := bne_eq_false_iff_eq.mpr fS
   clear fS
   replace H := itn_ H; rcases H with ⟨c12b0, H⟩
   have c12b1 : decide (0 < ((rd_T91 ac bP).f0).length) = true := n2_ c12b0
   replace H := iln_ H; rcases H with ⟨xH, H⟩
   obtain ⟨Ln, xI⟩ : ∃ y_ : List ByteArray, y_ = (aX ++ [rdOf ByteArray.empty ((rd_T91 ac bP).f0) 0]) := ⟨_, rfl⟩
   replace H : (F101.l0 k1 a1 a2 Ln ac (ac.length : Int) (wrap64 (bP + 1)) ae ac) = some (r1, r2) := by first | (rw [xI]; exact H) | exact H
   have Lo := am_ xI
   clear xI
   have H' := am_ H
   clear H
   have pm : 0 ≤ (bP : Int) := od_
   have pn : bP < (ac.length : Int) := od_
   obtain ⟨Ll, Fx, nc, Fy, iH, iI, iJ⟩ := at_T91 br.out bP pm pn
   cases Fy
   replace iH := pw_cell_below HB.out iH
   have rN := am_ iJ
   have AV := am_ iI
   clear iJ iI
   replace pm := eq_true pm
   replace pn := eq_true pn
   go_wp2_with (first | ((with_reducible refine gate_dst (N := 10) rfl ?_); (try (refine gate_guard (by rfl) ?_; dsimp only)); refine be_ 10 #[.slice none 0 0] 91 ?_; intro lu hg gI hbox hb; replace ls := am_ (Kd.R_below (rk_ ls) hb); have iK := am_ (hbox); have rO := am_ (gw_ hg bl_); have Lm := rO; replace HB := hs_ w hb; have uX := am_ (gn_ hg (blkl_ dv)); have j6 := am_ (gm_ hg (blkl_ dv)); replace dv := bb_ dv hb; clear hb hbox hg; obtain ⟨DU, DV⟩ := nn_ j6; have nf : gI.cell? ⟨lu, 0, none⟩ = some (.slice none 0 0) := (blk_cell iK.out 0).trans rfl; have OD := blk_frozen iK.out 0; have Fz : 0 ≤ (0 : Int) := (by omega); have FA : 0 < (((rd_T91 ac bP).f0).length : Int) := od_; obtain ⟨rP, Rb, fA⟩ := Kd.at_string rN.out 0 Fz FA; cases Rb; have VM : (0 < ((rd_T91 ac bP).f0).length) = True := eq_true (by omega); (try rw [show ((0 : Int)).toNat = 0 from rfl] at fA); (try rw [Addr.add_zero'] at fA); have kH : rP.block ≠ lu := Nat.ne_of_lt (Nat.lt_of_lt_of_le (by have := World.block_lt_of_cell? _ _ fA; first | rwa [add_block] at this | exact this) rO.out); replace fA := pw_cell_below HB.out fA; replace fA := (cell_far (p := ⟨lu, 0, none⟩) (by first | (rw [add_block]; exact kH) | (show (Addr.add _ _).block ≠ _; rw [add_block]; exact kH) | exact kH) (.slice (some rP) ((rd_T91 ac bP).f0).length nc)).trans fA; clear kH; replace Fz := eq_true Fz; replace FA := eq_true FA) | ((with_reducible refine gate_builtin (b := .append) (xs := #[.tmp 23, .tmp 28]) rfl ?_); (try (refine gate_guard (by rfl) ?_; dsimp only)); at_builtin; refine Kd.R_append Kd.string (w0 := w) w.heap.size rfl (.tmp 23) (.tmp 28) 59 9 (.string ⟨#[]⟩) 16 rfl Tryz.underlying59 info9 rfl (by decide) (by omega) u8 aX (rdOf ByteArray.empty ((rd_T91 ac bP).f0) 0) [.string (rdOf ByteArray.empty ((rd_T91 ac bP).f0) 0)] (fun _ => True) (fun _ => False) rfl (by first | (go_simp; done) | (go_simp; rfl)) ?aP (fun _ hk => hk.elim) ?aF ?aO ?aB ?aS ?aL ?_; (case aP => exact rfl); (case aB => exact bl_); (case aF => exact (fun _ _ => trivial)); (case aO => exact (by (with_reducible repeat (first | apply Kd.R_alloc | apply Kd.R_drewN | apply Kd.R_drew)); exact Kd.R_mono (Kd.R_far (p := ⟨lu, 0, none⟩) (Kd.R_types ls.out iK.out (by decide)) (fun _ hk => hk.2) (.slice (some rP) ((rd_T91 ac bP).f0).length nc)) (fun _ hk => trivial))); (case aS => exact (below_size bl_)); (case aL => have := xH.out; omega); intro Zg Rc ho hb hg hat; rw [← Lo.out] at ho; replace dv := am_ (bg_ dv hg (Kd.R_ne ls.out dv.out (by decide))); replace iK := am_ (blk_grown (g := lu) (o := .cells #[.slice (some rP) ((rd_T91 ac bP).f0).length nc] 91 (0, 0)) (bq_ iK) hg (Kd.R_ne ls.out iK.out (by decide))); replace HB := am_ (hb); have Lp := am_ (ho); clear ls; clear ho hb hg hat))
   go_roundg k1
   case measure => have := cK.out; omega
   case rel => exact ⟨(Ln), (wrap64 (bP + 1)), er_, H', ⟨by have := cK.out; omega⟩, ⟨rk_ Lp⟩, ⟨bk_ dv⟩, ⟨bl_⟩⟩
mutual
def F104.j0 : Nat → ByteArray → ByteArray → Bool → Option (Bool)
  | 0, _, _, _ => none
  | k + 1, x0, x3, uu => if uu = true then (if 1 ≤ (x0.size : Int) then (F104.j1 k x0 (x0.extract 1 x0.size)) else (none)) else (F104.j1 k x0 x3)
def F104.j1 : Nat → ByteArray → ByteArray → Option (Bool)
  | 0, _, _ => none
  | k + 1, x0, x3 => F104.l0 k x0 x3 (x3.size : Int) 0
def F104.l0 : Nat → ByteArray → ByteArray → Int → Int → Option (Bool)
  | 0, _, _, _, _ => none
  | k + 1, x0, x3, VN, FC => if FC < VN then (if 0 ≤ FC then (if FC < (x3.size : Int) then ((F91.f (bt x3 FC)).bind fun Lq => (if Lq = true then (F104.l0 k x0 x3 VN (wrap64 (FC + 1))) else (some false))) else (none)) else (none)) else (if x3.toList = ([] : List UInt8) then (some false) else (if 0 < (x3.size : Int) then (if (bt x3 0) = 48 then (some (x0.toList == ([48] : List UInt8))) else (some true)) else (none)))
end
def F104.f (k : Nat) (a0 : ByteArray) : Option (Bool) := if a0.toList = ([] : List UInt8) then (F104.j0 k a0 a0 false) else (if 0 < (a0.size : Int) then (F104.j0 k a0 a0 ((bt a0 0) == 45)) else (none))
theorem F104.mono_l : ∀ k, (∀ y0 y1 y2, LeO (F104.j0 k y0 y1 y2) (F104.j0 (k + 1) y0 y1 y2)) ∧ (∀ y0 y1, LeO (F104.j1 k y0 y1) (F104.j1 (k + 1) y0 y1)) ∧ (∀ y0 y1 y2 y3, LeO (F104.l0 k y0 y1 y2 y3) (F104.l0 (k + 1) y0 y1 y2 y3))
 | 0 => ⟨fun _ _ _ r h => by simp [F104.j0] at h, fun _ _ r h => by simp [F104.j1] at h, fun _ _ _ _ r h => by simp [F104.l0] at h⟩
 | k + 1 => by
  obtain ⟨ef, kW, ro⟩ := F104.mono_l k
  refine ⟨?_, ?_, ?_⟩
  rotate_left
  ·intro y0 y1
   unfold F104.j1
   exact tg5_7
  ·intro y0 y1 y2 y3
   unfold F104.l0
   exact tg5_7
  intro y0 y1 y2
  unfold F104.j0
  exact tg5_7
theorem F104.mono : ∀ a0 k, LeO (F104.f k a0) (F104.f (k + 1) a0) := by
 intro a0 k
 obtain ⟨ef, kW, ro⟩ := F104.mono_l k
 unfold F104.f
 exact tg5_7
theorem F104.calls {k : Nat} {a0 : ByteArray} {r : Bool} {w : World} (h : F104.f k a0 = some r) :
  Calls Tryz.prog 104 #[.string a0] w fun e w' => e = .returned (.bool r) ∧ Drawn0 w w' := by
 have H := h; unfold F104.f at H
 clear h
 have d6 := am_ H
 clear H
 go_enter Tryz.func104, Tryz.ntmps104
 go_upto_region 2 with (fail)
 go_cut [12] (fun Jy wc => ∃ (kq : Nat) (bC : Bool), Jy = .bool bC ∧ Aside0 (F104.j0 kq a0 a0 bC = some r) ∧ Aside0 (kq ≤ k) ∧ Drawn0 w wc)
 case first =>
  have H := d6.out
  clear d6
  by_cases c3 : a0.toList = ([] : List UInt8)
  ·rw [if_pos c3] at H
   have c3b0 : (a0.toList == ([] : List UInt8)) = true := beq_iff_eq.mpr c3
   have c3b1 : (a0.toList != ([] : List UInt8)) = false := bne_eq_false_iff_eq.mpr c3
   clear c3
   (first | rw [c3b0] | (simp only [i64_w, i32_w]; rw [c3b0]) | skip)
   have H' := am_ H
   clear H
   go_wp2
   go_meet
   case rel => exact ⟨_, (false), er_, H', ⟨ax10_⟩, dn_⟩
  rw [if_neg c3] at H
  have c3b0 : (a0.toList == ([] : List UInt8)) = false := beq_eq_false_iff_ne.mpr c3
  have c3b1 : (a0.toList != ([] : List UInt8)) = true := bne_iff_ne.mpr c3
  (first | rw [c3b0] | (simp only [i64_w, i32_w]; rw [c3b0]) | skip)
  replace H := itn_ H; rcases H with ⟨c4b0, H⟩
  have c4b1 : decide (0 < a0.size) = true := n2_ c4b0
  have H' := am_ H
  clear H
  have p5 : 0 ≤ (0 : Int) := (by omega)
  have q5 : 0 < a0.size := (by have : (0 : Int) < (a0.size : Int) := od_; omega)
  have fk : ∀ h : 0 < a0.size, ((a0[0]'h).toNat : Int) = bt a0 0 := bt_at a0 0
  clear p5
  have Zh : (0 < (a0.size : Int)) = True := eq_true (of_decide_eq_true as_)
  replace q5 := eq_true q5
  go_wp2
  go_meet
  case rel => exact ⟨_, (((bt a0 0) == 45)), er_, H', ⟨ax10_⟩, dn_⟩
 case rest =>
  clear d6
  obtain ⟨kq, bC, rfl, HA, HJ1, ⟨Y6, rfl⟩⟩ := hcut
  cases kq with
  | zero => exact absurd HA.out (by simp [F104.j0])
  | succ vT =>
   have H := HA.out
   clear HA
   simp only [F104.j0] at H
   have xJ := am_ H
   clear H
   go_upto_if 12 with (fail)
   go_cut [3] (fun v3 wc => ∃ (kq : Nat) (cr : ByteArray), v3 = .string cr ∧ Aside0 (F104.j1 kq a0 cr = some r) ∧ Aside0 (kq ≤ vT) ∧ Drawn0 w wc)
   case first =>
    have H := xJ.out
    clear xJ
    replace H := ib_ H; rcases H with ⟨rfl, H⟩ | ⟨rfl, H⟩
    rotate_left
    ·have H' := am_ H
     clear H
     go_wp2
     go_meet
     case rel => exact ⟨_, (a0), er_, H', ⟨by have := HJ1.out; first | omega | exact Nat.le_refl _⟩, dn_⟩
    by_cases c8 : 1 ≤ (a0.size : Int)
    rotate_left
    ·rw [if_neg c8] at H
     exact absurd H (by simp)
    rw [if_pos c8] at H
    have c8b0 := eq_true c8
    have c8b1 : decide (1 ≤ (a0.size : Int)) = true := decide_eq_true c8
    clear c8
    have H' := am_ H
    clear H
    go_wp2
    go_meet
    case rel => exact ⟨_, (a0.extract 1 a0.size), er_, H', ⟨by have := HJ1.out; first | omega | exact Nat.le_refl _⟩, dn_⟩
   case rest =>
    clear xJ
    obtain ⟨kq, cr, rfl, HA, AW, ⟨mc5, rfl⟩⟩ := hcut
    cases kq with
    | zero => exact absurd HA.out (by simp [F104.j1])
    | succ Io =>
     have H := HA.out
     clear HA
     simp only [F104.j1] at H
     have H' := am_ H
     clear H
     go_wp2
     go_loopg [17] Io (fun kq Rd w' => ∃ (fI : Int), Rd = .int .i64 fI ∧ Aside0 (F104.l0 kq a0 cr (cr.size : Int) fI = some r) ∧ Aside0 (kq ≤ Io) ∧ Drawn0 w w')
     case atStart => exact ⟨(0), er_, H', ⟨Nat.le_refl _⟩, dn_⟩
     case round =>
      clear H'
      obtain ⟨fI, rfl, HA, FD, ⟨m3, rfl⟩⟩ := hrel
      cases gk with
      | zero => exact absurd HA.out (by simp [F104.l0])
      | succ k3 =>
       have H := HA.out
       clear HA
       simp only [F104.l0] at H
       replace H := it_ H; rcases H with ⟨c9b0, H⟩ | ⟨c9b0, H⟩
       ·replace H := itn_ H; rcases H with ⟨c10b0, H⟩
        replace H := itn_ H; rcases H with ⟨c11b0, H⟩
        replace H := bi_ H; rcases H with ⟨Lq, H6, H⟩
        replace H := ib_ H; rcases H with ⟨rfl, H⟩ | ⟨rfl, H⟩
        rotate_left
        ·obtain rfl := Option.some.inj H
         have eV : 0 ≤ (fI : Int) := od_
         have eE : fI < (cr.size : Int) := od_
         have hx12 := bt_at cr fI
         replace eV := eq_true eV
         replace eE := eq_true eE
         go_wp2_with (first | ((with_reducible refine gate_callee (f := 91) rfl ?_); refine gl_ 23 Tryz.func91 #[.int .u8 (bt cr fI)] ?_ rfl rfl rfl rfl; (with_reducible refine (F91.calls H6.out).mono ?_); rintro e w' ⟨rfl, ⟨nd, rfl⟩⟩; refine ⟨_, rfl, ?_⟩))
         go_ret
         exact ⟨er_, dn_⟩
        have H' := am_ H
        clear H
        have eV : 0 ≤ (fI : Int) := od_
        have eE : fI < (cr.size : Int) := od_
        have hx12 := bt_at cr fI
        replace eV := eq_true eV
        replace eE := eq_true eE
        go_wp2_with (first | ((with_reducible refine gate_callee (f := 91) rfl ?_); refine gl_ 23 Tryz.func91 #[.int .u8 (bt cr fI)] ?_ rfl rfl rfl rfl; (with_reducible refine (F91.calls H6.out).mono ?_); rintro e w' ⟨rfl, ⟨nd, rfl⟩⟩; refine ⟨_, rfl, ?_⟩))
        go_roundg k3
        case measure => have := HJ1.out; have := AW.out; have := FD.out; omega
        case rel => exact ⟨(wrap64 (fI + 1)), er_, H', ⟨by have := HJ1.out; have := AW.out; have := FD.out; omega⟩, dn_⟩
       by_cases FE : cr.toList = ([] : List UInt8)
       ·rw [if_pos FE] at H
        have c15b0 : (cr.toList == ([] : List UInt8)) = true := beq_iff_eq.mpr FE
        have c15b1 : (cr.toList != ([] : List UInt8)) = false := bne_eq_false_iff_eq.mpr FE
        clear FE
        obtain rfl := Option.some.inj H
        go_wp2
        go_ret
        exact ⟨er_, dn_⟩
       rw [if_neg FE] at H
       have c15b0 : (cr.toList == ([] : List UInt8)) = false := beq_eq_false_iff_ne.mpr FE
       have c15b1 : (cr.toList != ([] : List UInt8)) = true := bne_iff_ne.mpr FE
       by_cases OE : 0 < (cr.size : Int)
       rotate_left
       ·rw [if_neg OE] at H
        exact absurd H (by simp)
       rw [if_pos OE] at H
       have c16b0 : decide (0 < (cr.size : Int)) = true := decide_eq_true OE
       have c16b1 : decide (0 < cr.size) = true := decide_eq_true (by omega)
       clear OE
       by_cases pg : (bt cr 0) = 48
       rotate_left
       ·rw [if_neg pg] at H
        have c18b0 : ((bt cr 0) == 48) = false := beq_eq_false_iff_ne.mpr pg
        have c18b1 : ((bt cr 0) != 48) = true := bne_iff_ne.mpr pg
        obtain rfl := Option.some.inj H
        have Re : 0 ≤ (0 : Int) := (by omega)
        have Lr : 0 < cr.size := (by have : (0 : Int) < (cr.size : Int) := od_; omega)
        have Rf : ∀ h : 0 < cr.size, ((cr[0]'h).toNat : Int) = bt cr 0 := bt_at cr 0
        clear Re
        have Rg : (0 < (cr.size : Int)) = True := eq_true (of_decide_eq_true as_)
        replace Lr := eq_true Lr
        go_wp2
        go_ret
        exact ⟨er_, dn_⟩
       rw [if_pos pg] at H
       have c18b0 : ((bt cr 0) == 48) = true := beq_iff_eq.mpr pg
       have c18b1 : ((bt cr 0) != 48) = false := bne_eq_false_iff_eq.mpr pg
       clear pg
       obtain rfl := Option.some.inj H
       have Re : 0 ≤ (0 : Int) := (by omega)
       have Lr : 0 < cr.size := (by have : (0 : Int) < (cr.size : Int) := od_; omega)
       have Rf : ∀ h : 0 < cr.size, ((cr[0]'h).toNat : Int) = bt cr 0 := bt_at cr 0
       clear Re
       have Rg : (0 < (cr.size : Int)) = True := eq_true (of_decide_eq_true as_)
       replace Lr := eq_true Lr
       go_wp2
       go_ret
       exact ⟨er_, dn_⟩
open Go.Shelf
def F102.ren : Go.Shelf.Ren := ⟨fun x => match x with | 174 => 117 | 247 => 130 | 245 => 131 | 287 => 141 | 279 => 142 | 280 => 143 | 281 => 144 | 282 => 145 | 321 => 150 | 322 => 151 | 316 => 152 | 171 => 154 | 205 => 153 | 243 => 157 | 246 => 114 | 283 => 126 | 284 => 127 | 285 => 128 | 286 => 129 | 129 => 137 | 317 => 136 | 318 => 138 | 319 => 139 | 320 => 140 | 337 => 148 | 338 => 149 | n => n, fun x => match x with | 9 => 9 | 3 => 3 | 2 => 2 | 75 => 155 | 85 => 156 | 4 => 4 | 167 => 182 | 5 => 5 | 53 => 102 | 175 => 183 | 46 => 132 | 168 => 185 | 37 => 37 | 0 => 0 | 210 => 194 | 21 => 21 | 127 => 201 | 145 => 204 | 143 => 202 | 171 => 163 | 173 => 166 | 212 => 177 | 51 => 178 | 20 => 20 | 213 => 179 | 232 => 199 | 233 => 200 | 80 => 81 | n => n, fun x => match x with | 15 => 1 | 16 => 2 | 17 => 0 | 18 => 3 | 19 => 4 | n => n⟩
theorem F102.lays : LaysC.n174 Tryz.prog F102.ren where
 mixed := by kernel_rfl
 f129 := Tryz.func137.trans (congrArg some (by kernel_rfl))
 f171 := Tryz.func154.trans (congrArg some (by kernel_rfl))
 f174 := Tryz.func117.trans (congrArg some (by kernel_rfl))
 f205 := Tryz.func153.trans (congrArg some (by kernel_rfl))
 f243 := Tryz.func157.trans (congrArg some (by kernel_rfl))
 f245 := Tryz.func131.trans (congrArg some (by kernel_rfl))
 f246 := Tryz.func114.trans (congrArg some (by kernel_rfl))
 f247 := Tryz.func130.trans (congrArg some (by kernel_rfl))
 f279 := Tryz.func142.trans (congrArg some (by kernel_rfl))
 f280 := Tryz.func143.trans (congrArg some (by kernel_rfl))
 f281 := Tryz.func144.trans (congrArg some (by kernel_rfl))
 f282 := Tryz.func145.trans (congrArg some (by kernel_rfl))
 f283 := Tryz.func126.trans (congrArg some (by kernel_rfl))
 f284 := Tryz.func127.trans (congrArg some (by kernel_rfl))
 f285 := Tryz.func128.trans (congrArg some (by kernel_rfl))
 f286 := Tryz.func129.trans (congrArg some (by kernel_rfl))
 f287 := Tryz.func141.trans (congrArg some (by kernel_rfl))
 f316 := Tryz.func152.trans (congrArg some (by kernel_rfl))
 f317 := Tryz.func136.trans (congrArg some (by kernel_rfl))
 f318 := Tryz.func138.trans (congrArg some (by kernel_rfl))
 f319 := Tryz.func139.trans (congrArg some (by kernel_rfl))
 f320 := Tryz.func140.trans (congrArg some (by kernel_rfl))
 f321 := Tryz.func150.trans (congrArg some (by kernel_rfl))
 f322 := Tryz.func151.trans (congrArg some (by kernel_rfl))
 f337 := Tryz.func148.trans (congrArg some (by kernel_rfl))
 f338 := Tryz.func149.trans (congrArg some (by kernel_rfl))
 t0 := Tryz.underlying0
 a0 := Tryz.isAgg0
 z0 := Tryz.sizeOf0
 v0 := Tryz.zeroValue0
 t2 := Tryz.underlying2
 a2 := Tryz.isAgg2
 z2 := Tryz.sizeOf2
 v2 := Tryz.zeroValue2
 t3 := Tryz.underlying3
 a3 := Tryz.isAgg3
 z3 := Tryz.sizeOf3
 v3 := Tryz.zeroValue3
 t4 := Tryz.underlying4
 a4 := Tryz.isAgg4
 z4 := Tryz.sizeOf4
 v4 := Tryz.zeroValue4
 t5 := Tryz.underlying5
 a5 := Tryz.isAgg5
 z5 := Tryz.sizeOf5
 v5 := Tryz.zeroValue5
 t9 := Tryz.underlying9
 a9 := Tryz.isAgg9
 z9 := Tryz.sizeOf9
 v9 := Tryz.zeroValue9
 t20 := Tryz.underlying20
 a20 := Tryz.isAgg20
 z20 := Tryz.sizeOf20
 v20 := Tryz.zeroValue20
 t21 := Tryz.underlying21
 a21 := Tryz.isAgg21
 z21 := Tryz.sizeOf21
 v21 := Tryz.zeroValue21
 t37 := Tryz.underlying37
 a37 := Tryz.isAgg37
 z37 := Tryz.sizeOf37
 v37 := Tryz.zeroValue37
 t46 := Tryz.underlying132
 a46 := Tryz.isAgg132
 z46 := Tryz.sizeOf132
 v46 := Tryz.zeroValue132
 t51 := Tryz.underlying178
 a51 := Tryz.isAgg178
 z51 := Tryz.sizeOf178
 v51 := Tryz.zeroValue178
 t53 := Tryz.underlying102
 a53 := Tryz.isAgg102
 z53 := Tryz.sizeOf102
 v53 := Tryz.zeroValue102
 t75 := Tryz.underlying155
 a75 := Tryz.isAgg155
 z75 := Tryz.sizeOf155
 v75 := Tryz.zeroValue155
 t85 := Tryz.underlying156
 a85 := Tryz.isAgg156
 z85 := Tryz.sizeOf156
 v85 := Tryz.zeroValue156
 t127 := Tryz.underlying201
 a127 := Tryz.isAgg201
 z127 := Tryz.sizeOf201
 v127 := Tryz.zeroValue201
 t143 := Tryz.underlying202
 a143 := Tryz.isAgg202
 z143 := Tryz.sizeOf202
 v143 := Tryz.zeroValue202
 t145 := Tryz.underlying204
 a145 := Tryz.isAgg204
 z145 := Tryz.sizeOf204
 v145 := Tryz.zeroValue204
 t167 := Tryz.underlying182
 a167 := Tryz.isAgg182
 z167 := Tryz.sizeOf182
 v167 := Tryz.zeroValue182
 t168 := Tryz.underlying185
 a168 := Tryz.isAgg185
 z168 := Tryz.sizeOf185
 v168 := Tryz.zeroValue185
 t171 := Tryz.underlying163
 a171 := Tryz.isAgg163
 z171 := Tryz.sizeOf163
 v171 := Tryz.zeroValue163
 t173 := Tryz.underlying166
 a173 := Tryz.isAgg166
 z173 := Tryz.sizeOf166
 v173 := Tryz.zeroValue166
 t175 := Tryz.underlying183
 a175 := Tryz.isAgg183
 z175 := Tryz.sizeOf183
 v175 := Tryz.zeroValue183
 t210 := Tryz.underlying194
 a210 := Tryz.isAgg194
 z210 := Tryz.sizeOf194
 v210 := Tryz.zeroValue194
 t212 := Tryz.underlying177
 a212 := Tryz.isAgg177
 z212 := Tryz.sizeOf177
 v212 := Tryz.zeroValue177
 t213 := Tryz.underlying179
 a213 := Tryz.isAgg179
 z213 := Tryz.sizeOf179
 t232 := Tryz.underlying199
 a232 := Tryz.isAgg199
 z232 := Tryz.sizeOf199
 v232 := Tryz.zeroValue199
 t233 := Tryz.underlying200
 a233 := Tryz.isAgg200
 z233 := Tryz.sizeOf200
 v233 := Tryz.zeroValue200
 g15 := by kernel_rfl
 g16 := by kernel_rfl
 g17 := by kernel_rfl
 g18 := by kernel_rfl
 g19 := by kernel_rfl
 t80 := Tryz.underlying81
 a80 := Tryz.isAgg81
 z80 := Tryz.sizeOf81
 v80 := Tryz.zeroValue81
 i0 := by kernel_rfl
 i2 := by kernel_rfl
 i3 := by kernel_rfl
 i4 := by kernel_rfl
 i5 := by kernel_rfl
 i9 := by kernel_rfl
 i20 := by kernel_rfl
 i21 := by kernel_rfl
 i37 := by kernel_rfl
 i46 := by kernel_rfl
 i51 := by kernel_rfl
 i53 := by kernel_rfl
 i75 := by kernel_rfl
 i80 := by kernel_rfl
 i85 := by kernel_rfl
 i127 := by kernel_rfl
 i143 := by kernel_rfl
 i145 := by kernel_rfl
 i167 := by kernel_rfl
 i168 := by kernel_rfl
 i171 := by kernel_rfl
 i173 := by kernel_rfl
 i175 := by kernel_rfl
 i210 := by kernel_rfl
 i212 := by kernel_rfl
 i232 := by kernel_rfl
 i233 := by kernel_rfl
 m15 := by kernel_rfl
 m16 := by kernel_rfl
 m17 := by kernel_rfl
 m18 := by kernel_rfl
 m19 := by kernel_rfl
 c0 := by kernel_rfl
 c2 := by kernel_rfl
 c3 := by kernel_rfl
 c4 := by kernel_rfl
 c5 := by kernel_rfl
 c9 := by kernel_rfl
 c20 := by kernel_rfl
 c21 := by kernel_rfl
 c37 := by kernel_rfl
 c46 := by kernel_rfl
 c51 := by kernel_rfl
 c53 := by kernel_rfl
 c75 := by kernel_rfl
 c80 := by kernel_rfl
 c85 := by kernel_rfl
 c127 := by kernel_rfl
 c143 := by kernel_rfl
 c145 := by kernel_rfl
 c167 := by kernel_rfl
 c168 := by kernel_rfl
 c171 := by kernel_rfl
 c173 := by kernel_rfl
 c175 := by kernel_rfl
 c210 := by kernel_rfl
 c212 := by kernel_rfl
 c213 := by kernel_rfl
 c232 := by kernel_rfl
 c233 := by kernel_rfl
def F102.g (k : Nat) (a0 : ByteArray) (a1 : Int) (a2 : Int) : Lib.NumEnd Int → Option (Int × Bool)
  | .ok v => (F104.f k a0).bind fun b => (if b = true then ((F56.f v a1 a2).bind fun c => some (v, c)) else (some (v, false)))
  | Lib.NumEnd.syntax => some (0, false)
  | .range => some (Lib.intSat 64 a0.data.toList, false)
def F102.f (k : Nat) (a0 : ByteArray) (a1 : Int) (a2 : Int) : Option (Int × Bool) := if a0.size ≤ 281474976710656 then (F102.g k a0 a1 a2 (Lib.parseIntB 64 a0.data.toList)) else (none)
theorem F102.mono : ∀ a0 a1 a2 k, LeO (F102.f k a0 a1 a2) (F102.f (k + 1) a0 a1 a2) := by
 intro a0 a1 a2 k
 unfold F102.f
 refine LeO.ite ?_ (LeO.none _)
 generalize Lib.parseIntB 64 a0.data.toList = p
 cases p with
 | ok v => exact LeO.bind (F104.mono _ _) (fun _ => LeO.refl _)
 | range => exact LeO.refl _
 | _ => exact LeO.refl _
theorem F102.calls {k : Nat} {a0 : ByteArray} {a1 a2 r1 : Int} {r2 : Bool} {w : World} (hT : LaidT true Tryz.prog w) (h : F102.f k a0 a1 a2 = some (r1, r2)) :
  Calls Tryz.prog 102 #[.string a0, .int .i64 a1, .int .i64 a2] w fun e w' => e = .returned (.tuple #[.int .i64 r1, .bool r2]) ∧ Below w.heap.size w w' := by
 unfold F102.f at h
 by_cases hz : a0.size ≤ 281474976710656
 rotate_left
 ·rw [if_neg hz] at h
  cases h
 rw [if_pos hz] at h
 have HZ := am_ hz
 have HT := am_ hT
 clear hz hT
 cases hp : Lib.parseIntB 64 a0.data.toList with
 | ok v =>
  rw [hp] at h
  have HP := am_ hp
  clear hp
  replace h := Option.bind_eq_some_iff.mp h
  obtain ⟨b, hb, h⟩ := h
  have H1 := am_ hb
  clear hb
  cases b with
  | true =>
   rw [if_pos rfl] at h
   replace h := Option.bind_eq_some_iff.mp h
   obtain ⟨c, hc, h⟩ := h
   have H2 := am_ hc
   clear hc
   simp only [Option.some.injEq, Prod.mk.injEq] at h
   obtain ⟨rfl, rfl⟩ := h
   go_enter Tryz.func102, Tryz.ntmps102
   go_wp2_with (first | (go_at_call 117; refine (Any.strconv_ParseInt_10_at64_ok F102.lays a0 (by have := HZ.out; omega) v HP.out _).mono ?_; rintro e w1 ⟨rfl, hw⟩; have HB := am_ (show Below w.heap.size w w1 from hw.elim (fun e_ => e_ ▸ Below.refl _ _) (fun ⟨_, e_⟩ => e_ ▸ Lib.bytesWorld_below _ _ _)); clear hw) | (go_at_call 104; refine (F104.calls H1.out).mono ?_; rintro e w2 ⟨rfl, hd⟩; have HD := am_ hd; clear hd) | (go_at_call 56; refine (F56.calls H2.out).mono ?_; rintro e w3 ⟨rfl, hd⟩; have Zi := am_ hd; clear hd))
   go_ret2
   exact ⟨rfl, (HB.out.trans (HD.out.below.mono HB.out.size)).trans (Zi.out.below.mono (Nat.le_trans HB.out.size HD.out.below.size))⟩
  | false =>
   rw [if_neg (by simp)] at h
   simp only [Option.some.injEq, Prod.mk.injEq] at h
   obtain ⟨rfl, rfl⟩ := h
   go_enter Tryz.func102, Tryz.ntmps102
   go_wp2_with (first | (go_at_call 117; refine (Any.strconv_ParseInt_10_at64_ok F102.lays a0 (by have := HZ.out; omega) v HP.out _).mono ?_; rintro e w1 ⟨rfl, hw⟩; have HB := am_ (show Below w.heap.size w w1 from hw.elim (fun e_ => e_ ▸ Below.refl _ _) (fun ⟨_, e_⟩ => e_ ▸ Lib.bytesWorld_below _ _ _)); clear hw) | (go_at_call 104; refine (F104.calls H1.out).mono ?_; rintro e w2 ⟨rfl, hd⟩; have HD := am_ hd; clear hd))
   go_ret2
   exact ⟨rfl, HB.out.trans (HD.out.below.mono HB.out.size)⟩
 | range =>
  rw [hp] at h
  have HP := am_ hp
  clear hp
  replace h : some (Lib.intSat 64 a0.data.toList, false) = some (r1, r2) := h
  simp only [Option.some.injEq, Prod.mk.injEq] at h
  obtain ⟨hr, rfl⟩ := h
  obtain ⟨tp, p, hv⟩ := HT.out.er rfl
  have HV := am_ hv
  have HQ := am_ hr
  clear hv hr
  go_enter Tryz.func102, Tryz.ntmps102
  go_wp2_with (first | (go_at_call 117; refine (Any.strconv_ParseInt_10_at64_range_var F102.lays a0 HZ.out HP.out tp p _ HV.out).mono ?_; rintro e w1 ⟨N1, rfl, Rh, Ri, hb⟩; rw [HQ.out]; have HB := am_ hb; clear hb Rh Ri))
  go_ret2
  exact ⟨rfl, HB.out⟩
 | _ =>
  rw [hp] at h
  have HP := am_ hp
  clear hp
  replace h : some ((0 : Int), false) = some (r1, r2) := h
  simp only [Option.some.injEq, Prod.mk.injEq] at h
  obtain ⟨rfl, rfl⟩ := h
  obtain ⟨tp, p, hv⟩ := HT.out.es rfl
  have HV := am_ hv
  clear hv
  go_enter Tryz.func102, Tryz.ntmps102
  go_wp2_with (first | (go_at_call 117; refine (Any.strconv_ParseInt_10_at64_syntax_var F102.lays a0 HZ.out HP.out tp p _ HV.out).mono ?_; rintro e w1 ⟨N1, rfl, Rh, Ri, hb⟩; have HB := am_ hb; clear hb Rh Ri))
  go_ret2
  exact ⟨rfl, HB.out⟩
def F76.j0 : Nat → List ByteArray → Bool → Option (ByteArray × ByteArray × Int × (List (S53)) × Bool)
  | 0, _, _ => none
  | k + 1, x4, Zj => if Zj = true then (some ((⟨#[]⟩ : ByteArray), (⟨#[]⟩ : ByteArray), 0, ([] : List (S53)), false)) else (if 2 < (x4.length : Int) then ((F102.f k (rdOf ByteArray.empty x4 2) 1 999999).bind fun DW => (if 0 < (x4.length : Int) then (if 1 < (x4.length : Int) then (some (rdOf ByteArray.empty x4 0, rdOf ByteArray.empty x4 1, DW.1, ([] : List (S53)), DW.2)) else (none)) else (none))) else (none))
def F76.f (k : Nat) (ae : ByteArray) (ac : List (S91)) : Option (ByteArray × ByteArray × Int × (List (S53)) × Bool) := (F101.f k ae ac (⟨#[73, 88, 72]⟩ : ByteArray) 3).bind fun kn => (if kn.2 = true then (if 0 < (kn.1.length : Int) then ((F54.f k (rdOf ByteArray.empty kn.1 0)).bind fun Ls => (if Ls = true then (if 1 < (kn.1.length : Int) then ((F54.f k (rdOf ByteArray.empty kn.1 1)).bind fun FF => (F76.j0 k kn.1 (!FF))) else (none)) else (F76.j0 k kn.1 true))) else (none)) else (F76.j0 k kn.1 true))
def F76.T5 : Bool × List (List Nat × List Nat) := (true, [([], []), ([0], [0]), ([1], [1]), ([], []), ([3], [3]), ([4], [4]), ([], []), ([2, 5, 6], [2, 5, 6]), ([], []), ([7, 0, 1, 2, 3, 4, 5, 6, 7], [7]), ([8, 9, 0, 1, 2, 3, 4, 5, 6, 7, 8, 9], [8])])
def F76.B5 : List Nat := [0, 1, 3, 0, 8, 24, 0, 127, 0, 255, 1023]
theorem F76.tab5 : rtab .any (opsOf Tryz.f76 5) = F76.T5 := by kernel_rfl
theorem F76.bits5 : waitsOk F76.T5.2 F76.B5 = true := by kernel_rfl
theorem F76.calls {k : Nat} {ae : ByteArray} {aJ : Option Addr} {aH : Nat} {ac : List (S91)} {r1 r2 : ByteArray} {r3 : Int} {r4 : List (S53)} {r5 : Bool} {w : World} (aY : Kd.C k91 w aJ ac.length ac) (aZ : ac.length ≤ aH) (hT : LaidT true Tryz.prog w) (h : F76.f k ae ac = some (r1, r2, r3, r4, r5)) :
  Calls Tryz.prog 76 #[.agg #[.string ae, .slice aJ ac.length aH]] w fun e w' => e = .returned (.tuple #[.agg #[.string r1, .string r2, .int .i64 r3, .slice none 0 0], .bool r5]) ∧ r4 = [] ∧ Below w.heap.size w w' := by
 have dk := Tryz.underlying49
 have gJ := Tryz.underlying30
 have br := am_ aY
 have da := am_ aZ
 clear aY aZ
 have HZT := am_ hT
 clear hT
 have HB := am_ (Below.refl w.heap.size w)
 have H := h; unfold F76.f at H
 clear h
 replace H := bi_ H; rcases H with ⟨⟨dY, Zk⟩, A2, H⟩
 have FG := am_ H
 clear H
 go_enter Tryz.func76, Tryz.ntmps76
 go_upto_region 2 with (first | ((with_reducible refine gate_dst (N := 1) rfl ?_); refine be_ 1 #[.string ae, .slice aJ ac.length aH] 49 ?_; intro Lt hg w4 hbox hb; have eI := am_ (hbox); have Lu := am_ (gw_ hg bl_); have VO := Lu; replace HB := hs_ w hb; clear hb hbox hg) | ((with_reducible refine gate_dst (N := 2) rfl ?_); refine be_ 2 #[.string (⟨#[]⟩ : ByteArray), .string (⟨#[]⟩ : ByteArray), .int .i64 0, .slice none 0 0] 30 ?_; intro eJ hg w5 hbox hb; have cq := am_ (hbox); have Lv := am_ (gw_ hg bl_); have VP := Lv; replace HB := hs_ w hb; have fm := am_ (gn_ hg (blkl_ eI)); have uY := am_ (gm_ hg (blkl_ eI)); replace eI := bb_ eI hb; clear hb hbox hg; obtain ⟨Zl, Zm⟩ := nn_ fm; have fu := cellsF2 eI.out) | ((with_reducible refine gate_callee (f := 101) rfl ?_); refine gl_ 10 Tryz.func101 #[.agg #[.string ae, .slice aJ ac.length aH], .string (⟨#[73, 88, 72]⟩ : ByteArray), .int .i64 3] ?_ rfl rfl rfl rfl; (with_reducible refine (F101.calls ?s1 ?s2 A2.out).mono ?_); (case s1 => exact ax43_); (case s2 => exact da.out); rintro e w8 ⟨Rj, rfl, bf, hb⟩; refine ⟨_, rfl, ?_⟩; have ln := am_ (Kd.R_lower bf (below_size bl_)); replace eI := bb_ eI hb; replace cq := bb_ cq hb; replace HB := hs_ w hb; clear hb bf))
 (try simp only [Act.put, List.setIfInBounds_toArray, List.set_cons_zero, List.set_cons_succ])
 go_cut [28] (fun Zn wc => ∃ (kq : Nat) (xK : Bool), Zn = .bool xK ∧ Aside0 (F76.j0 kq dY xK = some (r1, r2, r3, r4, r5)) ∧ Aside0 (kq ≤ k) ∧ Aside0 (Kd.R Kd.string 9 wc w.heap.size (fun _ => True) Rj dY) ∧ Aside0 (wc.heap[Lt]? = some (.cells #[.string ae, (.slice aJ ac.length aH)] 49 (0, 0))) ∧ Aside0 (wc.heap[eJ]? = some (.cells #[.string (⟨#[]⟩ : ByteArray), .string (⟨#[]⟩ : ByteArray), .int .i64 0, (.slice none 0 0)] 30 (0, 0))) ∧ Aside0 (Below w.heap.size w wc))
 case first =>
  have H := FG.out
  clear FG
  replace H := ib_ H; rcases H with ⟨rfl, H⟩ | ⟨rfl, H⟩
  rotate_left
  ·have H' := am_ H
   clear H
   go_wp2
   go_meet
   case rel => exact tg5_9
  replace H := itn_ H; rcases H with ⟨c10b0, H⟩
  have c10b1 : decide (0 < dY.length) = true := n2_ c10b0
  (first | rw [c10b0] | (simp only [i64_w, i32_w]; rw [c10b0]) | skip)
  replace H := bi_ H; rcases H with ⟨Ls, C9, H⟩
  replace H := ib_ H; rcases H with ⟨rfl, H⟩ | ⟨rfl, H⟩
  rotate_left
  ·have H' := am_ H
   clear H
   obtain ⟨Rk, Rl, FH⟩ := Kd.R_slice ln.out
   subst FH
   have po : 0 ≤ (0 : Int) := (by omega)
   have pq : 0 < (dY.length : Int) := od_
   obtain ⟨DX, FI, iL⟩ := Kd.at_string (Kd.R_reads' ln.out).2.2 0 po pq
   cases FI
   have Lw : (0 < dY.length) = True := eq_true (by omega)
   (try rw [show ((0 : Int)).toNat = 0 from rfl] at iL)
   (try rw [Addr.add_zero'] at iL)
   replace po := eq_true po
   replace pq := eq_true pq
   go_wp2_with (first | (go_at_call 54; (with_reducible refine (F54.calls C9.out).mono ?_); rintro e w' ⟨rfl, ⟨nd, rfl⟩⟩))
   go_meet
   case rel => exact tg5_9
  replace H := itn_ H; rcases H with ⟨c13b0, H⟩
  have c13b1 : decide (1 < dY.length) = true := n2_ c13b0
  replace H := bi_ H; rcases H with ⟨FF, IG, H⟩
  have H' := am_ H
  clear H
  obtain ⟨ux, uy, uz⟩ := Kd.R_slice ln.out
  subst uz
  have po : 0 ≤ (0 : Int) := (by omega)
  have pq : 0 < (dY.length : Int) := od_
  obtain ⟨DX, FI, iL⟩ := Kd.at_string (Kd.R_reads' ln.out).2.2 0 po pq
  cases FI
  have Lw : (0 < dY.length) = True := eq_true (by omega)
  (try rw [show ((0 : Int)).toNat = 0 from rfl] at iL)
  (try rw [Addr.add_zero'] at iL)
  replace po := eq_true po
  replace pq := eq_true pq
  go_wp2_with (first | (go_at_call 54; (with_reducible refine (F54.calls C9.out).mono ?_); rintro e w' ⟨rfl, ⟨nd, rfl⟩⟩; have FJ : 0 ≤ (1 : Int) := (by omega); have FL : 1 < (dY.length : Int) := od_; obtain ⟨Lx, Rm, rQ⟩ := Kd.at_string (Kd.R_reads' ln.out).2.2 1 FJ FL; obtain rfl : DX = Lx := (by injection Rm); (try simp only [show (1 : Int).toNat = 1 from rfl, Nat.reduceMul, Nat.reduceEqDiff, Go.Addr.add, ↓reduceIte] at rQ); have VQ : (1 < dY.length) = True := eq_true (by omega); (try rw [show ((1 : Int)).toNat = 1 from rfl] at rQ); replace FJ := eq_true FJ; replace FL := eq_true FL) | (go_at_call 54; (with_reducible refine (F54.calls IG.out).mono ?_); rintro e w' ⟨rfl, ⟨nd, rfl⟩⟩))
  go_meet
  case rel => exact ⟨_, (!FF), er_, H', ⟨ax10_⟩, ⟨rk_ ln⟩, ⟨bk_ eI⟩, ⟨bk_ cq⟩, ⟨bl_⟩⟩
 case rest =>
  clear FG
  try clear fu
  obtain ⟨kq, xK, rfl, HA, Ly, jZ, eI, cq, HB⟩ := hcut
  cases kq with
  | zero => exact absurd HA.out (by simp [F76.j0])
  | succ Rn =>
   have H := HA.out
   clear HA
   simp only [F76.j0] at H
   replace H := ib_ H; rcases H with ⟨rfl, H⟩ | ⟨rfl, H⟩
   ·simp only [Option.some.injEq, Prod.mk.injEq] at H
    obtain ⟨rfl, rfl, rfl, rfl, rfl⟩ := H
    obtain ⟨Dp, Dq⟩ := nn_ uY
    have io := cellsF4 cq.out
    go_wp2
    refine bodyPost_ret (results_ct rfl _ _ eJ 30 #[.string (⟨#[]⟩ : ByteArray), .string (⟨#[]⟩ : ByteArray), .int .i64 0, .slice none 0 0] (0, 0) _ rfl (bq_ cq) Tryz.underlying30 rfl (by kernel_rfl)) rfl ?_
    first | exact ⟨ax11_, by first | rfl | trivial, bl_⟩ | exact ⟨ax11_, bl_⟩
   by_cases c20 : 2 < (dY.length : Int)
   rotate_left
   ·rw [if_neg c20] at H
    exact absurd H (by simp)
   rw [if_pos c20] at H
   have c20b0 : decide (2 < (dY.length : Int)) = true := decide_eq_true c20
   have c20b1 : decide (2 < dY.length) = true := decide_eq_true (by omega)
   clear c20
   replace H := bi_ H; rcases H with ⟨⟨Ro, Zo⟩, AX, H⟩
   replace H := itn_ H; rcases H with ⟨c22b0, H⟩
   have c22b1 : decide (0 < dY.length) = true := n2_ c22b0
   replace H := itn_ H; rcases H with ⟨c23b0, H⟩
   have c23b1 : decide (1 < dY.length) = true := n2_ c23b0
   simp only [Option.some.injEq, Prod.mk.injEq] at H
   obtain ⟨rfl, rfl, rfl, rfl, rfl⟩ := H
   obtain ⟨E2, E3, zP⟩ := Kd.R_slice jZ.out
   subst zP
   have FM : 0 ≤ (2 : Int) := (by omega)
   have FN : 2 < (dY.length : Int) := od_
   obtain ⟨n7, Rp, rR⟩ := Kd.at_string (Kd.R_reads' jZ.out).2.2 2 FM FN
   cases Rp
   (try simp only [show (2 : Int).toNat = 2 from rfl, Nat.reduceMul, Nat.reduceEqDiff, Go.Addr.add, ↓reduceIte] at rR)
   have VR : (2 < dY.length) = True := eq_true (by omega)
   (try rw [show ((2 : Int)).toNat = 2 from rfl] at rR)
   replace FM := eq_true FM
   replace FN := eq_true FN
   try go_wp2_with (first | ((with_reducible refine gate_callee (f := 102) rfl ?_); refine gl_ 34 Tryz.func102 #[.string (rdOf ByteArray.empty dY 2), .int .i64 1, .int .i64 999999] ?_ rfl rfl rfl rfl; (with_reducible refine (F102.calls ?s1 AX.out).mono ?_); (case s1 => exact ax7_); rintro e wB ⟨rfl, hb⟩; refine ⟨_, rfl, ?_⟩; replace jZ := am_ (Kd.R_below (rk_ jZ) hb); replace eI := bb_ eI hb; replace cq := bb_ cq hb; replace HB := hs_ w hb; (try clear hb)))
   replace jZ := am_ (Kd.R_drew jZ.out)
   replace eI := bd_ eI
   replace cq := bd_ cq
   replace HB := am_ (below_drew1 HB.out)
   have FO : 0 ≤ (0 : Int) := (by omega)
   have FP : 0 < (dY.length : Int) := od_
   obtain ⟨Lz, Rq, kI⟩ := Kd.at_string (Kd.R_reads' jZ.out).2.2 0 FO FP
   obtain rfl : n7 = Lz := (by injection Rq)
   have VS : (0 < dY.length) = True := eq_true (by omega)
   (try rw [show ((0 : Int)).toNat = 0 from rfl] at kI)
   (try rw [Addr.add_zero'] at kI)
   replace FO := eq_true FO
   replace FP := eq_true FP
   have FQ : 0 ≤ (1 : Int) := (by omega)
   have FR : 1 < (dY.length : Int) := od_
   obtain ⟨LA, Rs, kJ⟩ := Kd.at_string (Kd.R_reads' jZ.out).2.2 1 FQ FR
   obtain rfl : n7 = LA := (by injection Rs)
   (try simp only [show (1 : Int).toNat = 1 from rfl, Nat.reduceMul, Nat.reduceEqDiff, Go.Addr.add, ↓reduceIte] at kJ)
   have VT : (1 < dY.length) = True := eq_true (by omega)
   (try rw [show ((1 : Int)).toNat = 1 from rfl] at kJ)
   replace FQ := eq_true FQ
   replace FR := eq_true FR
   refine start_ (n := 11) (S := fun w' => w'.cell? n7 = some (.string (rdOf ByteArray.empty dY 0)) ∧ w'.cell? ⟨n7.block, n7.off + 1, none⟩ = some (.string (rdOf ByteArray.empty dY 1))) (ds := []) (bs 11 0) (by kernel_rfl) rfl rfl ⟨kI, kJ⟩ (fun hHeld => ?_); refine with_tabW F76.tab5 F76.bits5 (fun HT_ HW_ => ?_)
   generalize wB.drew = E9 at jZ eI cq HB kI kJ hHeld ⊢
   refine pq_ 0 HT_ ?_
   refine pq_ 1 HT_ ?_
   refine pq_ 3 HT_ ?_
   refine pq_ 4 HT_ ?_
   refine pq_ 6 HT_ ?_
   refine pq_ 8 HT_ ?_
   refine tq_ 2 HT_ HW_ hHeld rfl ax55_ ?_
   refine tq_ 5 HT_ HW_ hHeld rfl ax55_ ?_
   refine pq_ 7 HT_ ?_
   refine oq_ 9 HT_ (fun K hK => ?_)
   have JN : E9.cell? ⟨eJ, 0, none⟩ = some (.string (⟨#[]⟩ : ByteArray)) := (blk_cell cq.out 0).trans rfl
   have Ds := blk_frozen cq.out 0
   obtain ⟨qT, qU⟩ := nn_ fm
   have Rt : E9.cell? ⟨eJ, 1, none⟩ = some (.string (⟨#[]⟩ : ByteArray)) := (blk_cell cq.out 1).trans rfl
   have LC := blk_frozen cq.out 1
   obtain ⟨AY, AZ⟩ := nn_ fm
   have Zp : E9.cell? ⟨eJ, 2, none⟩ = some (.int .i64 0) := (blk_cell cq.out 2).trans rfl
   have VU := blk_frozen cq.out 2
   obtain ⟨OF, OG⟩ := nn_ fm
   have Zq : E9.cell? ⟨eJ, 3, none⟩ = some (.slice none 0 0) := (blk_cell cq.out 3).trans rfl
   have VV := blk_frozen cq.out 3
   obtain ⟨OH, OI⟩ := nn_ fm
   refine skip_ (w1 := ?_) (by rfl) rfl ?_ ?_
   rotate_left
   ·go_simp
    rfl
   refine hK.out _ _ ⟨((cell_far (p := ⟨eJ, _, none⟩) au5_0 _).trans (((cell_far (p := ⟨eJ, _, none⟩) au5_0 _).trans (((cell_far (p := ⟨eJ, _, none⟩) au5_0 _).trans (((cell_far (p := ⟨eJ, _, none⟩) au5_0 _).trans (hHeld.1)))))))), ((cell_far (p := ⟨eJ, _, none⟩) au5_0 _).trans (((cell_far (p := ⟨eJ, _, none⟩) au5_0 _).trans (((cell_far (p := ⟨eJ, _, none⟩) au5_0 _).trans (((cell_far (p := ⟨eJ, _, none⟩) au5_0 _).trans (hHeld.2))))))))⟩ (fun hHeld => ?_)
   clear hK K
   refine pq_ 10 HT_ ?_
   refine done_ (done_of HT_.out (by kernel_rfl)) ?_
   try go_wp2
   refine bodyPost_ret (results_ct rfl _ _ eJ 30 #[.string (rdOf ByteArray.empty dY 0), .string (rdOf ByteArray.empty dY 1), .int .i64 Ro, .slice none 0 0] (0, 0) _ rfl (bq_ cq) Tryz.underlying30 rfl (by kernel_rfl)) rfl ?_
   first | exact ⟨ax11_, by first | rfl | trivial, bl_⟩ | exact ⟨ax11_, bl_⟩
def F43.f (k : Nat) (l0 : List (S49)) : Option (ByteArray × ByteArray × Int × (List (S53)) × Bool × Int × Int) := (F75.f l0).bind fun LD => (if LD = true then (some ((⟨#[]⟩ : ByteArray), (⟨#[]⟩ : ByteArray), 0, ([] : List (S53)), false, 0, 2)) else (if (l0.length : Int) = 0 then (some ((⟨#[]⟩ : ByteArray), (⟨#[]⟩ : ByteArray), 0, ([] : List (S53)), false, 0, 6)) else (if 0 < (l0.length : Int) then ((F76.f k ((rd_T49 l0 0).f0) ((rd_T49 l0 0).f1)).bind fun rS => (if rS.2.2.2.2 = true then (some (rS.1, rS.2.1, rS.2.2.1, ([] : List (S53)), true, 0, 0)) else (some ((⟨#[]⟩ : ByteArray), (⟨#[]⟩ : ByteArray), 0, ([] : List (S53)), false, 0, 3)))) else (none))))
theorem F43.calls {k : Nat} {A0 : Option Addr} {c0 : Nat} {l0 : List (S49)} {r1 r2 : ByteArray} {r3 : Int} {r4 : List (S53)} {r5 : Bool} {r6 r7 : Int} {w : World} (bH : Kd.C k49 w A0 l0.length l0) (hc0 : l0.length ≤ c0) (hT : LaidT true Tryz.prog w) (h : F43.f k l0 = some (r1, r2, r3, r4, r5, r6, r7)) :
  Calls Tryz.prog 43 #[.slice A0 l0.length c0] w fun e w' => e = .returned (.agg #[.string r1, .string r2, .int .i64 r3, .slice none 0 0, .bool r5, .int .i64 r6, .int .i64 r7]) ∧ r4 = [] ∧ Below w.heap.size w w' := by
 have Ff := Tryz.underlying41
 have dk := Tryz.underlying49
 have gJ := Tryz.underlying30
 have fN := am_ bH
 have kt := am_ hc0
 clear bH hc0
 have HZT := am_ hT
 clear hT
 have HB := am_ (Below.refl w.heap.size w)
 have H := h; unfold F43.f at H
 clear h
 replace H := bi_ H; rcases H with ⟨LD, A2, H⟩
 replace H := ib_ H; rcases H with ⟨rfl, H⟩ | ⟨rfl, H⟩
 ·simp only [Option.some.injEq, Prod.mk.injEq] at H
  obtain ⟨rfl, rfl, rfl, rfl, rfl, rfl, rfl⟩ := H
  go_enter Tryz.func43, Tryz.ntmps43
  go_wp2_with (first | ((with_reducible refine gate_dst (N := 2) rfl ?_); refine be_ 2 #[.string (⟨#[]⟩ : ByteArray), .string (⟨#[]⟩ : ByteArray), .int .i64 0, .slice none 0 0, .bool false, .int .i64 0, .int .i64 0] 41 ?_; intro fT hg w4 hbox hb; have bu := am_ (hbox); have lv := am_ (gw_ hg bl_); have xL := lv; replace HB := hs_ w hb; clear hb hbox hg) | ((with_reducible refine gate_callee (f := 75) rfl ?_); refine gl_ 7 Tryz.func75 #[.slice A0 l0.length c0] ?_ rfl rfl rfl rfl; (with_reducible refine (F75.calls ?s1 ?s2 A2.out).mono ?_); (case s1 => exact au5_2); (case s2 => exact kt.out); rintro e w' ⟨rfl, ⟨nd, rfl⟩⟩; refine ⟨_, rfl, ?_⟩; (try (rw [drewN_self w4]; generalize hq_ : World.drewN w4 _ = w4; have b8 : Aside0 (w4.heap[fT]? = some (.cells #[.string (⟨#[]⟩ : ByteArray), .string (⟨#[]⟩ : ByteArray), .int .i64 0, .slice none 0 0, .bool false, .int .i64 0, .int .i64 0] 41 (0, 0))) := ⟨by rw [← hq_]; exact (bk_ bu)⟩; have dE : Aside0 (Below w.heap.size w w4) := ⟨by rw [← hq_]; exact bl_⟩; clear bu HB hq_; have bu := b8; have HB := dE; clear b8 dE)); have lc := cellsF7 bu.out))
  refine bodyPost_ret (results_cell_row rfl _ _ fT 41 #[.string (⟨#[]⟩ : ByteArray), .string (⟨#[]⟩ : ByteArray), .int .i64 0, .slice none 0 0, .bool false, .int .i64 0, .int .i64 2] (0, 0) _ rfl (bq_ bu) Tryz.underlying41 rfl (by kernel_rfl)) rfl ?_
  first | exact ⟨ax11_, by first | rfl | trivial, bl_⟩ | exact ⟨ax11_, bl_⟩
 by_cases c6 : (l0.length : Int) = 0
 ·rw [if_pos c6] at H
  have c6b0 : ((l0.length : Int) == 0) = true := beq_iff_eq.mpr c6
  have c6b1 : ((l0.length : Int) != 0) = false := bne_eq_false_iff_eq.mpr c6
  clear c6
  simp only [Option.some.injEq, Prod.mk.injEq] at H
  obtain ⟨rfl, rfl, rfl, rfl, rfl, rfl, rfl⟩ := H
  go_enter Tryz.func43, Tryz.ntmps43
  go_wp2_with (first | ((with_reducible refine gate_dst (N := 2) rfl ?_); refine be_ 2 #[.string (⟨#[]⟩ : ByteArray), .string (⟨#[]⟩ : ByteArray), .int .i64 0, .slice none 0 0, .bool false, .int .i64 0, .int .i64 0] 41 ?_; intro fT hg w7 hbox hb; have bu := am_ (hbox); have lv := am_ (gw_ hg bl_); have xL := lv; replace HB := hs_ w hb; clear hb hbox hg) | ((with_reducible refine gate_callee (f := 75) rfl ?_); refine gl_ 7 Tryz.func75 #[.slice A0 l0.length c0] ?_ rfl rfl rfl rfl; (with_reducible refine (F75.calls ?s1 ?s2 A2.out).mono ?_); (case s1 => exact au5_2); (case s2 => exact kt.out); rintro e w' ⟨rfl, ⟨nd, rfl⟩⟩; refine ⟨_, rfl, ?_⟩; (try (rw [drewN_self w7]; generalize hq_ : World.drewN w7 _ = w7; have b8 : Aside0 (w7.heap[fT]? = some (.cells #[.string (⟨#[]⟩ : ByteArray), .string (⟨#[]⟩ : ByteArray), .int .i64 0, .slice none 0 0, .bool false, .int .i64 0, .int .i64 0] 41 (0, 0))) := ⟨by rw [← hq_]; exact (bk_ bu)⟩; have dE : Aside0 (Below w.heap.size w w7) := ⟨by rw [← hq_]; exact bl_⟩; clear bu HB hq_; have bu := b8; have HB := dE; clear b8 dE)); have jY := cellsF7 bu.out))
  refine bodyPost_ret (results_cell_row rfl _ _ fT 41 #[.string (⟨#[]⟩ : ByteArray), .string (⟨#[]⟩ : ByteArray), .int .i64 0, .slice none 0 0, .bool false, .int .i64 0, .int .i64 6] (0, 0) _ rfl (bq_ bu) Tryz.underlying41 rfl (by kernel_rfl)) rfl ?_
  first | exact ⟨ax11_, by first | rfl | trivial, bl_⟩ | exact ⟨ax11_, bl_⟩
 rw [if_neg c6] at H
 have c6b0 : ((l0.length : Int) == 0) = false := beq_eq_false_iff_ne.mpr c6
 have c6b1 : ((l0.length : Int) != 0) = true := bne_iff_ne.mpr c6
 have c6b2 : ¬ (l0 = []) := fun h_ => c6 (by rw [h_]; rfl)
 by_cases c9 : 0 < (l0.length : Int)
 rotate_left
 ·rw [if_neg c9] at H
  exact absurd H (by simp)
 rw [if_pos c9] at H
 have c9b0 : decide (0 < (l0.length : Int)) = true := decide_eq_true c9
 have c9b1 : decide (0 < l0.length) = true := decide_eq_true (by omega)
 clear c9
 replace H := bi_ H; rcases H with ⟨⟨Ru, Rv, Rw, Zr, Zs⟩, qB, H⟩
 replace H := ib_ H; rcases H with ⟨rfl, H⟩ | ⟨rfl, H⟩
 rotate_left
 ·simp only [Option.some.injEq, Prod.mk.injEq] at H
  obtain ⟨rfl, rfl, rfl, rfl, rfl, rfl, rfl⟩ := H
  go_enter Tryz.func43, Tryz.ntmps43
  go_wp2_with (first | ((with_reducible refine gate_dst (N := 2) rfl ?_); refine be_ 2 #[.string (⟨#[]⟩ : ByteArray), .string (⟨#[]⟩ : ByteArray), .int .i64 0, .slice none 0 0, .bool false, .int .i64 0, .int .i64 0] 41 ?_; intro fT hg zx hbox hb; have bu := am_ (hbox); have lv := am_ (gw_ hg bl_); have xL := lv; replace HB := hs_ w hb; clear hb hbox hg) | ((with_reducible refine gate_callee (f := 75) rfl ?_); refine gl_ 7 Tryz.func75 #[.slice A0 l0.length c0] ?_ rfl rfl rfl rfl; (with_reducible refine (F75.calls ?s1 ?s2 A2.out).mono ?_); (case s1 => exact au5_2); (case s2 => exact kt.out); rintro e w' ⟨rfl, ⟨nd, rfl⟩⟩; refine ⟨_, rfl, ?_⟩; (try (rw [drewN_self zx]; generalize hq_ : World.drewN zx _ = zx; have b8 : Aside0 (zx.heap[fT]? = some (.cells #[.string (⟨#[]⟩ : ByteArray), .string (⟨#[]⟩ : ByteArray), .int .i64 0, .slice none 0 0, .bool false, .int .i64 0, .int .i64 0] 41 (0, 0))) := ⟨by rw [← hq_]; exact (bk_ bu)⟩; have dE : Aside0 (Below w.heap.size w zx) := ⟨by rw [← hq_]; exact bl_⟩; clear bu HB hq_; have bu := b8; have HB := dE; clear b8 dE)); have pr : 0 ≤ (0 : Int) := (by omega); have pt : 0 < (l0.length : Int) := od_; obtain ⟨LE, pu, pv, FT, dw, dx, iM, iN⟩ := at_T49 fN.out 0 pr pt; cases FT; have LF : (0 < l0.length) = True := eq_true (by omega); (try rw [show ((0 : Int)).toNat = 0 from rfl] at dw); (try rw [show 0 * 2 = 0 from rfl] at dw); (try rw [Addr.add_zero'] at dw); (try rw [show ((0 : Int)).toNat = 0 from rfl] at dx); (try rw [show 0 * 2 = 0 from rfl] at dx); (try rw [Addr.add_zero'] at dx); replace dw := pw_cell_below HB.out dw; replace dx := pw_cell_below HB.out dx; have rA := am_ iN; have nh := am_ iM; clear iN iM; replace pr := eq_true pr; replace pt := eq_true pt) | ((with_reducible refine gate_callee (f := 76) rfl ?_); refine gl_ 18 Tryz.func76 #[.agg #[.string ((rd_T49 l0 0).f0), .slice pu ((rd_T49 l0 0).f1).length pv]] ?_ rfl rfl rfl rfl; (with_reducible refine (F76.calls ?s1 ?s2 ?s3 qB.out).mono ?_); (case s1 => exact au5_8); (case s2 => exact nh.out); (case s3 => exact ax7_); rintro e Rx ⟨rfl, rfl, hb⟩; refine ⟨_, rfl, ?_⟩; replace bu := bb_ bu hb; replace HB := hs_ w hb; (try clear hb)) | ((with_reducible refine gate_dst (N := 3) rfl ?_); refine be_ 3 #[.string (⟨#[]⟩ : ByteArray), .string (⟨#[]⟩ : ByteArray), .int .i64 0, .slice none 0 0] 30 ?_; intro LG hg Qo hbox hb; have xM := am_ (hbox); have xN := am_ (gw_ hg bl_); have LH := xN; replace HB := hs_ w hb; have uZ := am_ (gn_ hg (blkl_ bu)); have j7 := am_ (gm_ hg (blkl_ bu)); replace bu := bb_ bu hb; clear hb hbox hg; obtain ⟨VW, VX⟩ := nn_ j7; have AS := cellsF4 xM.out; have my := cellsF7 bu.out))
  refine bodyPost_ret (results_cell_row rfl _ _ fT 41 #[.string (⟨#[]⟩ : ByteArray), .string (⟨#[]⟩ : ByteArray), .int .i64 0, .slice none 0 0, .bool false, .int .i64 0, .int .i64 3] (0, 0) _ rfl (bq_ bu) Tryz.underlying41 rfl (by kernel_rfl)) rfl ?_
  first | exact ⟨ax11_, by first | rfl | trivial, bl_⟩ | exact ⟨ax11_, bl_⟩
 simp only [Option.some.injEq, Prod.mk.injEq] at H
 obtain ⟨rfl, rfl, rfl, rfl, rfl, rfl, rfl⟩ := H
 go_enter Tryz.func43, Tryz.ntmps43
 go_wp2_with (first | ((with_reducible refine gate_dst (N := 2) rfl ?_); refine be_ 2 #[.string (⟨#[]⟩ : ByteArray), .string (⟨#[]⟩ : ByteArray), .int .i64 0, .slice none 0 0, .bool false, .int .i64 0, .int .i64 0] 41 ?_; intro fT hg lU hbox hb; have bu := am_ (hbox); have lv := am_ (gw_ hg bl_); have xL := lv; replace HB := hs_ w hb; clear hb hbox hg) | ((with_reducible refine gate_callee (f := 75) rfl ?_); refine gl_ 7 Tryz.func75 #[.slice A0 l0.length c0] ?_ rfl rfl rfl rfl; (with_reducible refine (F75.calls ?s1 ?s2 A2.out).mono ?_); (case s1 => exact au5_2); (case s2 => exact kt.out); rintro e w' ⟨rfl, ⟨nd, rfl⟩⟩; refine ⟨_, rfl, ?_⟩; (try (rw [drewN_self lU]; generalize hq_ : World.drewN lU _ = lU; have b8 : Aside0 (lU.heap[fT]? = some (.cells #[.string (⟨#[]⟩ : ByteArray), .string (⟨#[]⟩ : ByteArray), .int .i64 0, .slice none 0 0, .bool false, .int .i64 0, .int .i64 0] 41 (0, 0))) := ⟨by rw [← hq_]; exact (bk_ bu)⟩; have dE : Aside0 (Below w.heap.size w lU) := ⟨by rw [← hq_]; exact bl_⟩; clear bu HB hq_; have bu := b8; have HB := dE; clear b8 dE)); have pr : 0 ≤ (0 : Int) := (by omega); have pt : 0 < (l0.length : Int) := od_; obtain ⟨LE, pu, pv, FT, dw, dx, iM, iN⟩ := at_T49 fN.out 0 pr pt; cases FT; have LF : (0 < l0.length) = True := eq_true (by omega); (try rw [show ((0 : Int)).toNat = 0 from rfl] at dw); (try rw [show 0 * 2 = 0 from rfl] at dw); (try rw [Addr.add_zero'] at dw); (try rw [show ((0 : Int)).toNat = 0 from rfl] at dx); (try rw [show 0 * 2 = 0 from rfl] at dx); (try rw [Addr.add_zero'] at dx); replace dw := pw_cell_below HB.out dw; replace dx := pw_cell_below HB.out dx; have rA := am_ iN; have nh := am_ iM; clear iN iM; replace pr := eq_true pr; replace pt := eq_true pt) | ((with_reducible refine gate_callee (f := 76) rfl ?_); refine gl_ 18 Tryz.func76 #[.agg #[.string ((rd_T49 l0 0).f0), .slice pu ((rd_T49 l0 0).f1).length pv]] ?_ rfl rfl rfl rfl; (with_reducible refine (F76.calls ?s1 ?s2 ?s3 qB.out).mono ?_); (case s1 => exact au5_8); (case s2 => exact nh.out); (case s3 => exact ax7_); rintro e Oi ⟨rfl, rfl, hb⟩; refine ⟨_, rfl, ?_⟩; replace bu := bb_ bu hb; replace HB := hs_ w hb; (try clear hb)) | ((with_reducible refine gate_dst (N := 3) rfl ?_); refine be_ 3 #[.string (⟨#[]⟩ : ByteArray), .string (⟨#[]⟩ : ByteArray), .int .i64 0, .slice none 0 0] 30 ?_; intro LG hg gI hbox hb; have xM := am_ (hbox); have xN := am_ (gw_ hg bl_); have LH := xN; replace HB := hs_ w hb; have uZ := am_ (gn_ hg (blkl_ bu)); have j7 := am_ (gm_ hg (blkl_ bu)); replace bu := bb_ bu hb; clear hb hbox hg; obtain ⟨DU, DV⟩ := nn_ j7; have nf := cellsF4 xM.out; have mE := cellsF7 bu.out))
 refine bodyPost_ret (results_cell_row rfl _ _ fT 41 #[.string Ru, .string Rv, .int .i64 Rw, .slice none 0 0, .bool true, .int .i64 0, .int .i64 0] (0, 0) _ rfl (bq_ bu) Tryz.underlying41 rfl (by kernel_rfl)) rfl ?_
 first | exact ⟨ax11_, by first | rfl | trivial, bl_⟩ | exact ⟨ax11_, bl_⟩
mutual
def F80.j0 : Nat → Int → Int → List ByteArray → Bool → Option (Int)
  | 0, _, _, _, _ => none
  | k + 1, x2, x3, x9, FC => if FC = true then (some 3) else (if 0 < (x9.length : Int) then ((F61.f x2).bind fun pw => (if (rdOf ByteArray.empty x9 0).toList = pw.toList then (if 1 < (x9.length : Int) then ((F61.f x3).bind fun FU => (F80.j1 k ((rdOf ByteArray.empty x9 1).toList != FU.toList))) else (none)) else (F80.j1 k true))) else (none))
def F80.j1 : Nat → Bool → Option (Int)
  | 0, _ => none
  | k + 1, Zt => if Zt = true then (some 5) else (some 0)
end
def F80.f (k : Nat) (ae : ByteArray) (ac : List (S91)) (a1 : ByteArray) (a2 : Int) (a3 : Int) : Option (Int) := (F101.f k ae ac a1 2).bind fun ko => (if ko.2 = true then (if 0 < (ko.1.length : Int) then ((F104.f k (rdOf ByteArray.empty ko.1 0)).bind fun LI => (if LI = true then (if 1 < (ko.1.length : Int) then ((F104.f k (rdOf ByteArray.empty ko.1 1)).bind fun FV => (F80.j0 k a2 a3 ko.1 (!FV))) else (none)) else (F80.j0 k a2 a3 ko.1 true))) else (none)) else (F80.j0 k a2 a3 ko.1 true))
theorem F80.mono_l : ∀ k, (∀ y0 y1 y2 y3, LeO (F80.j0 k y0 y1 y2 y3) (F80.j0 (k + 1) y0 y1 y2 y3)) ∧ (∀ y0, LeO (F80.j1 k y0) (F80.j1 (k + 1) y0))
 | 0 => ⟨fun _ _ _ _ r h => by simp [F80.j0] at h, fun _ r h => by simp [F80.j1] at h⟩
 | k + 1 => by
  obtain ⟨ef, kW⟩ := F80.mono_l k
  refine ⟨?_, ?_⟩
  rotate_left
  ·intro y0
   unfold F80.j1
   exact tg5_10
  intro y0 y1 y2 y3
  unfold F80.j0
  exact tg5_10
theorem F80.mono : ∀ a0 a1 a2 a3 a4 k, LeO (F80.f k a0 a1 a2 a3 a4) (F80.f (k + 1) a0 a1 a2 a3 a4) := by
 intro a0 a1 a2 a3 a4 k
 obtain ⟨ef, kW⟩ := F80.mono_l k
 unfold F80.f
 exact tg5_10
def F80.T4 : Bool × List (List Nat × List Nat) := (true, [([], []), ([0], [0]), ([1], [1]), ([], []), ([3], [3]), ([2, 4], [2, 4]), ([5, 4], [5]), ([6], [6]), ([7, 6], [6, 7]), ([8, 6], [6, 8]), ([6], [6]), ([10, 6, 6], [6, 10]), ([9, 11, 6], [6, 9, 11]), ([6, 12], [6, 12]), ([13, 11], [13])])
def F80.B4 : List Nat := [0, 1, 3, 0, 8, 31, 63, 127, 255, 511, 127, 1151, 4095, 8191, 16383]
theorem F80.tab4 : rtab .any (opsOf Tryz.f80 4) = F80.T4 := by kernel_rfl
theorem F80.bits4 : waitsOk F80.T4.2 F80.B4 = true := by kernel_rfl
theorem F80.calls {k : Nat} {ae : ByteArray} {aJ : Option Addr} {aH : Nat} {ac : List (S91)} {a1 : ByteArray} {a2 a3 r : Int} {w : World} (aY : Kd.C k91 w aJ ac.length ac) (aZ : ac.length ≤ aH) (hT : LaidT true Tryz.prog w) (h : F80.f k ae ac a1 a2 a3 = some r) :
  Calls Tryz.prog 80 #[.agg #[.string ae, .slice aJ ac.length aH], .string a1, .int .i64 a2, .int .i64 a3] w fun e w' => e = .returned (.int .i64 r) ∧ Below w.heap.size w w' := by
 have dk := Tryz.underlying49
 have br := am_ aY
 have da := am_ aZ
 clear aY aZ
 have HZT := am_ hT
 clear hT
 have HB := am_ (Below.refl w.heap.size w)
 have H := h; unfold F80.f at H
 clear h
 replace H := bi_ H; rcases H with ⟨⟨dP, Zu⟩, A5, H⟩
 have xJ := am_ H
 clear H
 go_enter Tryz.func80, Tryz.ntmps80
 go_upto_region 2 with (first | ((with_reducible refine gate_dst (N := 4) rfl ?_); refine be_ 4 #[.string ae, .slice aJ ac.length aH] 49 ?_; intro DY hg w7 hbox hb; have dc := am_ (hbox); have LJ := am_ (gw_ hg bl_); have VY := LJ; replace HB := hs_ w hb; clear hb hbox hg; have jY := cellsF2 dc.out) | ((with_reducible refine gate_callee (f := 101) rfl ?_); refine gl_ 14 Tryz.func101 #[.agg #[.string ae, .slice aJ ac.length aH], .string a1, .int .i64 2] ?_ rfl rfl rfl rfl; (with_reducible refine (F101.calls ?s1 ?s2 A5.out).mono ?_); (case s1 => exact ax43_); (case s2 => exact da.out); rintro e w9 ⟨Ry, rfl, bf, hb⟩; refine ⟨_, rfl, ?_⟩; have lp := am_ (Kd.R_lower bf (below_size bl_)); replace dc := bb_ dc hb; replace HB := hs_ w hb; clear hb bf))
 (try simp only [Act.put, List.setIfInBounds_toArray, List.set_cons_zero, List.set_cons_succ])
 go_cut [17] (fun Rd wc => ∃ (kq : Nat) (xO : Bool), Rd = .bool xO ∧ Aside0 (F80.j0 kq a2 a3 dP xO = some r) ∧ Aside0 (kq ≤ k) ∧ Aside0 (Kd.R Kd.string 9 wc w.heap.size (fun _ => True) Ry dP) ∧ Aside0 (wc.heap[DY]? = some (.cells #[.string ae, (.slice aJ ac.length aH)] 49 (0, 0))) ∧ Aside0 (Below w.heap.size w wc))
 case first =>
  have H := xJ.out
  clear xJ
  replace H := ib_ H; rcases H with ⟨rfl, H⟩ | ⟨rfl, H⟩
  rotate_left
  ·have H' := am_ H
   clear H
   go_wp2
   go_meet
   case rel => exact tg5_11
  replace H := itn_ H; rcases H with ⟨c11b0, H⟩
  have c11b1 : decide (0 < dP.length) = true := n2_ c11b0
  (first | rw [c11b0] | (simp only [i64_w, i32_w]; rw [c11b0]) | skip)
  replace H := bi_ H; rcases H with ⟨LI, Ip, H⟩
  replace H := ib_ H; rcases H with ⟨rfl, H⟩ | ⟨rfl, H⟩
  rotate_left
  ·have H' := am_ H
   clear H
   obtain ⟨EU, EV, EW⟩ := Kd.R_slice lp.out
   subst EW
   have px : 0 ≤ (0 : Int) := (by omega)
   have pz : 0 < (dP.length : Int) := od_
   obtain ⟨DZ, FW, iO⟩ := Kd.at_string (Kd.R_reads' lp.out).2.2 0 px pz
   cases FW
   have LK : (0 < dP.length) = True := eq_true (by omega)
   (try rw [show ((0 : Int)).toNat = 0 from rfl] at iO)
   (try rw [Addr.add_zero'] at iO)
   replace px := eq_true px
   replace pz := eq_true pz
   go_wp2_with (first | (go_at_call 104; (with_reducible refine (F104.calls Ip.out).mono ?_); rintro e w' ⟨rfl, ⟨nd, rfl⟩⟩))
   go_meet
   case rel => exact tg5_11
  replace H := itn_ H; rcases H with ⟨c14b0, H⟩
  have c14b1 : decide (1 < dP.length) = true := n2_ c14b0
  replace H := bi_ H; rcases H with ⟨FV, Zv, H⟩
  have H' := am_ H
  clear H
  obtain ⟨Rk, Rl, FH⟩ := Kd.R_slice lp.out
  subst FH
  have px : 0 ≤ (0 : Int) := (by omega)
  have pz : 0 < (dP.length : Int) := od_
  obtain ⟨DZ, FW, iO⟩ := Kd.at_string (Kd.R_reads' lp.out).2.2 0 px pz
  cases FW
  have LK : (0 < dP.length) = True := eq_true (by omega)
  (try rw [show ((0 : Int)).toNat = 0 from rfl] at iO)
  (try rw [Addr.add_zero'] at iO)
  replace px := eq_true px
  replace pz := eq_true pz
  go_wp2_with (first | (go_at_call 104; (with_reducible refine (F104.calls Ip.out).mono ?_); rintro e w' ⟨rfl, ⟨nd, rfl⟩⟩; have FX : 0 ≤ (1 : Int) := (by omega); have FY : 1 < (dP.length : Int) := od_; obtain ⟨LL, Rz, rT⟩ := Kd.at_string (Kd.R_reads' lp.out).2.2 1 FX FY; obtain rfl : DZ = LL := (by injection Rz); (try simp only [show (1 : Int).toNat = 1 from rfl, Nat.reduceMul, Nat.reduceEqDiff, Go.Addr.add, ↓reduceIte] at rT); have VZ : (1 < dP.length) = True := eq_true (by omega); (try rw [show ((1 : Int)).toNat = 1 from rfl] at rT); replace FX := eq_true FX; replace FY := eq_true FY) | (go_at_call 104; (with_reducible refine (F104.calls Zv.out).mono ?_); rintro e w' ⟨rfl, ⟨nd, rfl⟩⟩))
  go_meet
  case rel => exact ⟨_, (!FV), er_, H', ⟨ax10_⟩, ⟨rk_ lp⟩, ⟨bk_ dc⟩, ⟨bl_⟩⟩
 case rest =>
  clear xJ
  try clear jY
  obtain ⟨kq, xO, rfl, HA, AW, fU, dc, HB⟩ := hcut
  cases kq with
  | zero => exact absurd HA.out (by simp [F80.j0])
  | succ Io =>
   have H := HA.out
   clear HA
   simp only [F80.j0] at H
   replace H := ib_ H; rcases H with ⟨rfl, H⟩ | ⟨rfl, H⟩
   ·obtain rfl := Option.some.inj H
    go_wp2
    go_ret
    exact ⟨ax11_, bl_⟩
   have ph := am_ H
   clear H
   go_upto_region 4 with (fail)
   go_cut [34] (fun Zw wc => ∃ (kq : Nat) (pA : Bool), Zw = .bool pA ∧ Aside0 (F80.j1 kq pA = some r) ∧ Aside0 (kq ≤ Io) ∧ Aside0 (wc.heap[DY]? = some (.cells #[.string ae, (.slice aJ ac.length aH)] 49 (0, 0))) ∧ Aside0 (Below w.heap.size w wc))
   case first =>
    have H := ph.out
    clear ph
    replace H := itn_ H; rcases H with ⟨c20b0, H⟩
    have c20b1 : decide (0 < dP.length) = true := n2_ c20b0
    (first | rw [c20b0] | (simp only [i64_w, i32_w]; rw [c20b0]) | skip)
    replace H := bi_ H; rcases H with ⟨pw, AX, H⟩
    by_cases pf : (rdOf ByteArray.empty dP 0).toList = pw.toList
    rotate_left
    ·rw [if_neg pf] at H
     have c22b0 : ((rdOf ByteArray.empty dP 0).toList == pw.toList) = false := beq_eq_false_iff_ne.mpr pf
     have c22b1 : ((rdOf ByteArray.empty dP 0).toList != pw.toList) = true := bne_iff_ne.mpr pf
     have H' := am_ H
     clear H
     try go_wp2
     replace fU := am_ (Kd.R_drew fU.out)
     replace dc := bd_ dc
     replace HB := am_ (below_drew1 HB.out)
     obtain ⟨Zx, Zy, LN⟩ := Kd.R_slice fU.out
     (first | subst LN | (injection LN with b9 dT cd; have dU := b9.symm; have dV := cd.symm; clear b9 dT cd; subst dU; subst dV))
     have pB : 0 ≤ (0 : Int) := (by omega)
     have pC : 0 < (dP.length : Int) := od_
     obtain ⟨me, FZ, en⟩ := Kd.at_string (Kd.R_reads' fU.out).2.2 0 pB pC
     cases FZ
     have LO : (0 < dP.length) = True := eq_true (by omega)
     (try rw [show ((0 : Int)).toNat = 0 from rfl] at en)
     (try rw [Addr.add_zero'] at en)
     replace pB := eq_true pB
     replace pC := eq_true pC
     refine start_ (n := 15) (S := fun w' => w'.cell? me = some (.string (rdOf ByteArray.empty dP 0))) (ds := []) (bs 15 0) (by kernel_rfl) rfl rfl (en) (fun hHeld => ?_); refine with_tabW F80.tab4 F80.bits4 (fun HT_ HW_ => ?_)
     generalize wc.drew = QF at fU dc HB en hHeld ⊢
     refine pq_ 0 HT_ ?_
     refine pq_ 1 HT_ ?_
     refine pq_ 3 HT_ ?_
     refine take_ (i := 2) (N := some 37) (v := ?_) (a' := ?_) (bs 15 15) rfl rfl (take_ofW HT_.out HW_.out (by kernel_rfl)) (fun _ _ _ h => h) (Or.inl ⟨by rfl, ?_⟩) hHeld ?_ ?_
     rotate_left
     ·intro w' s0
      go_simp
      with_reducible rfl
     rotate_left
     ·simp only [Act.put, List.setIfInBounds_toArray, List.set_cons_zero, List.set_cons_succ, i64_w, i32_w]
      rfl
     refine oq_ 4 HT_ (fun K hK => ?_)
     refine gr_ Tryz.func61 #[.int .i64 a2] (by rfl) ?_ rfl rfl rfl
     with_reducible refine (F61.calls ?s1 AX.out).mono ?_
     (case s1 => exact ax7_)
     rintro e Y1 ⟨rfl, hb⟩
     have gN := pw_cell_below hb (hHeld)
     refine ⟨_, rfl, ?_⟩
     replace fU := am_ (Kd.R_below (rk_ fU) hb)
     replace dc := bb_ dc hb
     replace HB := hs_ w hb
     (try clear hb)
     refine hK.out _ _ (gN) (fun hHeld => ?_)
     clear hK K
     refine no_ 39 ?_
     refine pq_ 5 HT_ ?_
     refine pq_ 6 HT_ ?_
     refine vq_ 7 HT_ ?_
     refine vq_ 8 HT_ ?_
     refine vq_ 9 HT_ ?_
     refine vq_ 10 HT_ ?_
     refine vq_ 11 HT_ ?_
     refine vq_ 12 HT_ ?_
     refine pq_ 13 HT_ ?_
     refine pq_ 14 HT_ ?_
     refine done_ (done_of HT_.out (by kernel_rfl)) ?_
     try go_wp2
     go_meet
     case rel => exact ⟨_, (true), er_, H', ⟨by have := AW.out; first | omega | exact Nat.le_refl _⟩, ⟨bk_ dc⟩, ⟨bl_⟩⟩
    rw [if_pos pf] at H
    have c22b0 : ((rdOf ByteArray.empty dP 0).toList == pw.toList) = true := beq_iff_eq.mpr pf
    have c22b1 : ((rdOf ByteArray.empty dP 0).toList != pw.toList) = false := bne_eq_false_iff_eq.mpr pf
    clear pf
    replace H := itn_ H; rcases H with ⟨c23b0, H⟩
    have c23b1 : decide (1 < dP.length) = true := n2_ c23b0
    replace H := bi_ H; rcases H with ⟨FU, F0, H⟩
    have H' := am_ H
    clear H
    try go_wp2
    replace fU := am_ (Kd.R_drew fU.out)
    replace dc := bd_ dc
    replace HB := am_ (below_drew1 HB.out)
    obtain ⟨E4, E5, wC⟩ := Kd.R_slice fU.out
    (first | subst wC | (injection wC with b9 dT cd; have dU := b9.symm; have dV := cd.symm; clear b9 dT cd; subst dU; subst dV))
    have pB : 0 ≤ (0 : Int) := (by omega)
    have pC : 0 < (dP.length : Int) := od_
    obtain ⟨me, FZ, en⟩ := Kd.at_string (Kd.R_reads' fU.out).2.2 0 pB pC
    cases FZ
    have LO : (0 < dP.length) = True := eq_true (by omega)
    (try rw [show ((0 : Int)).toNat = 0 from rfl] at en)
    (try rw [Addr.add_zero'] at en)
    replace pB := eq_true pB
    replace pC := eq_true pC
    have F1 : 0 ≤ (1 : Int) := (by omega)
    have F3 : 1 < (dP.length : Int) := od_
    obtain ⟨LP, RA, kK⟩ := Kd.at_string (Kd.R_reads' fU.out).2.2 1 F1 F3
    obtain rfl : me = LP := (by injection RA)
    (try simp only [show (1 : Int).toNat = 1 from rfl, Nat.reduceMul, Nat.reduceEqDiff, Go.Addr.add, ↓reduceIte] at kK)
    have V0 : (1 < dP.length) = True := eq_true (by omega)
    (try rw [show ((1 : Int)).toNat = 1 from rfl] at kK)
    replace F1 := eq_true F1
    replace F3 := eq_true F3
    refine start_ (n := 15) (S := fun w' => w'.cell? me = some (.string (rdOf ByteArray.empty dP 0)) ∧ w'.cell? ⟨me.block, me.off + 1, none⟩ = some (.string (rdOf ByteArray.empty dP 1))) (ds := []) (bs 15 0) (by kernel_rfl) rfl rfl ⟨en, kK⟩ (fun hHeld => ?_); refine with_tabW F80.tab4 F80.bits4 (fun HT_ HW_ => ?_)
    generalize wc.drew = wB at fU dc HB en kK hHeld ⊢
    refine pq_ 0 HT_ ?_
    refine pq_ 1 HT_ ?_
    refine pq_ 3 HT_ ?_
    refine tq_ 2 HT_ HW_ hHeld rfl ax55_ ?_
    refine oq_ 4 HT_ (fun K hK => ?_)
    refine gr_ Tryz.func61 #[.int .i64 a2] (by rfl) ?_ rfl rfl rfl
    with_reducible refine (F61.calls ?s1 AX.out).mono ?_
    (case s1 => exact ax7_)
    rintro e Yh ⟨rfl, hb⟩
    have gN := pw_cell_below hb (hHeld.1)
    have j8 := pw_cell_below hb (hHeld.2)
    refine ⟨_, rfl, ?_⟩
    replace fU := am_ (Kd.R_below (rk_ fU) hb)
    replace dc := bb_ dc hb
    replace HB := hs_ w hb
    (try clear hb)
    refine hK.out _ _ ⟨gN, j8⟩ (fun hHeld => ?_)
    clear hK K
    refine no_ 39 ?_
    refine pq_ 5 HT_ ?_
    refine pq_ 6 HT_ ?_
    refine pq_ 7 HT_ ?_
    refine pq_ 8 HT_ ?_
    refine pq_ 10 HT_ ?_
    refine tq_ 9 HT_ HW_ hHeld rfl ax55_ ?_
    refine oq_ 11 HT_ (fun K hK => ?_)
    refine gr_ Tryz.func61 #[.int .i64 a3] (by rfl) ?_ rfl rfl rfl
    with_reducible refine (F61.calls ?s1 F0.out).mono ?_
    (case s1 => exact ax7_)
    rintro e U1 ⟨rfl, hb⟩
    have gN := pw_cell_below hb (hHeld.1)
    have j8 := pw_cell_below hb (hHeld.2)
    refine ⟨_, rfl, ?_⟩
    replace fU := am_ (Kd.R_below (rk_ fU) hb)
    replace dc := bb_ dc hb
    replace HB := hs_ w hb
    (try clear hb)
    refine hK.out _ _ ⟨gN, j8⟩ (fun hHeld => ?_)
    clear hK K
    refine no_ 46 ?_
    refine pq_ 12 HT_ ?_
    refine pq_ 13 HT_ ?_
    refine pq_ 14 HT_ ?_
    refine done_ (done_of HT_.out (by kernel_rfl)) ?_
    try go_wp2
    go_meet
    case rel => exact ⟨_, (((rdOf ByteArray.empty dP 1).toList != FU.toList)), er_, H', ⟨by have := AW.out; first | omega | exact Nat.le_refl _⟩, ⟨bk_ dc⟩, ⟨bl_⟩⟩
   case rest =>
    clear ph
    obtain ⟨kq, pA, rfl, HA, pe, dc, HB⟩ := hcut
    cases kq with
    | zero => exact absurd HA.out (by simp [F80.j1])
    | succ Fs =>
     have H := HA.out
     clear HA
     simp only [F80.j1] at H
     replace H := ib_ H; rcases H with ⟨rfl, H⟩ | ⟨rfl, H⟩
     rotate_left
     ·obtain rfl := Option.some.inj H
      go_wp2
      go_ret
      exact ⟨ax11_, bl_⟩
     obtain rfl := Option.some.inj H
     go_wp2
     go_ret
     exact ⟨ax11_, bl_⟩
end Go.Proofs.YtlghcbmkhdibdaaGreatDoor.PFnEnvelopes
