-- printed by a program of this session (wip/xp/xprint.py) out of the translation; Lean checks it
import Derived.Test.YtchoalagkcdbhaaPFnSegmentBackx0
import Derived.Test.YtchoalagkcdbhaaPFnSegmentBackx1
import Derived.Test.YtchoalagkcdbhaaPFnSegmentBackx3
import Derived.Test.YtchoalagkcdbhaaPFnSegmentBackx4
namespace Go.Proofs.Ytchoalagkcdbhaa.PFnSegmentBack
open Go.RowKit Go.Proofs.YtchoalagkcdbhaaW.PrintWords Go.Proofs.YtchoalagkcdbhaaW.PrintLast Go.Proofs.YtchoalagkcdbhaaW.PrintMore
attribute [local go_sem] max2_int min2_int max_two min_two max_three min_three max_four min_four   -- for this text's walks alone
set_option linter.unusedVariables false
set_option linter.unusedSimpArgs false
set_option maxHeartbeats 8000000
set_option maxRecDepth 100000

theorem is5_0_ {p : Prop} (h : p := by repeat (first | (with_reducible first | exact HI0.out | apply IsS121.alloc | apply IsS121.drewN | apply IsS121.drew | apply IsS121.set_1 | apply IsS121.set_2 | apply IsS121.set_3 | refine IsS121.far ?_ (Aside0.out (by assumption)) _) | exact HI0.out)) : p := h
theorem is5_1_ {p : Prop} (h : p := by repeat (first | (with_reducible first | exact HI614.out | apply IsS121.alloc | apply IsS121.drewN | apply IsS121.drew | apply IsS121.set_1 | apply IsS121.set_2 | apply IsS121.set_3 | refine IsS121.far ?_ (Aside0.out (by assumption)) _) | exact HI614.out)) : p := h

theorem au5_0 {p : Prop} (h : p := by repeat (first | (with_reducible first | exact HK.out | apply KeepBut.set_ | apply keep_drewN | apply keep_drew | apply keep_alloc | refine keep_far ?_ GW496.out _ | refine keep_far ?_ GW501.out _ | refine keep_far ?_ GW509.out _) | exact HK.out)) : p := h
theorem au5_1 {p : Prop} (h : p := by repeat (first | (with_reducible first | exact HI0.out | apply IsS121.alloc | apply IsS121.drewN | apply IsS121.drew | apply IsS121.set_1 | apply IsS121.set_2 | apply IsS121.set_3 | refine IsS121.far ?_ NB0_496.out _ | refine IsS121.far ?_ NB0_501.out _ | refine IsS121.far ?_ NB0_509.out _) | exact HI0.out)) : p := h
theorem au5_2 {p : Prop} (h : p := by repeat (first | (with_reducible first | exact HB.out | apply below_alloc | apply pw_below_drewN | apply below_drew1 | refine below_set ?_ (IsS121.ge HI0.out) | refine below_set ?_ GE496.out | refine below_set ?_ GE501.out | refine below_set ?_ GE509.out) | exact HB.out)) : p := h
theorem au5_3 {p : Prop} (h : p := by repeat (first | (with_reducible first | exact HB.out | apply below_alloc | apply pw_below_drewN | apply below_drew1 | refine below_set ?_ (IsS121.ge HI0.out) | refine below_set ?_ GE496.out | refine below_set ?_ GE501.out | refine below_set ?_ GE509.out) | exact HB.out)) : p := h
theorem au5_4 {p : Prop} (h : p := by repeat (first | (with_reducible first | exact HK.out | apply KeepBut.set_ | apply keep_drewN | apply keep_drew | apply keep_alloc | refine keep_far ?_ GW496.out _ | refine keep_far ?_ GW501.out _ | refine keep_far ?_ GW509.out _ | refine keep_far ?_ GW522.out _) | exact HK.out)) : p := h
theorem au5_5 {p : Prop} (h : p := by (with_reducible repeat (first | apply Kd.S_alloc | apply Kd.S_drewN | apply Kd.S_drew)); exact HO_510001.out) : p := h
theorem au5_6 {p : Prop} (h : p := by repeat (first | (with_reducible first | exact HB.out | apply below_alloc | apply pw_below_drewN | apply below_drew1 | refine below_set ?_ (IsS121.ge HI0.out) | refine below_set ?_ GE496.out | refine below_set ?_ GE501.out | refine below_set ?_ GE509.out) | exact HB.out)) : p := h
theorem au5_7 {p : Prop} (h : p := by repeat (first | (with_reducible first | exact HK.out | apply KeepBut.set_ | apply keep_drewN | apply keep_drew | apply keep_alloc | refine keep_far ?_ GW496.out _ | refine keep_far ?_ GW501.out _ | refine keep_far ?_ GW509.out _) | exact HK.out)) : p := h
theorem au5_8 {p : Prop} (h : p := by repeat (first | (with_reducible first | exact HI0.out | apply IsS121.alloc | apply IsS121.drewN | apply IsS121.drew | apply IsS121.set_1 | apply IsS121.set_2 | apply IsS121.set_3 | refine IsS121.far ?_ NB0_496.out _ | refine IsS121.far ?_ NB0_501.out _ | refine IsS121.far ?_ NB0_509.out _ | refine IsS121.far ?_ NB0_522.out _) | exact HI0.out)) : p := h
theorem au5_9 {p : Prop} (h : p := by repeat (first | (with_reducible first | exact HB.out | apply below_alloc | apply pw_below_drewN | apply below_drew1 | refine below_set ?_ (IsS121.ge HI0.out) | refine below_set ?_ GE496.out | refine below_set ?_ GE501.out | refine below_set ?_ GE509.out | refine below_set ?_ GE522.out) | exact HB.out)) : p := h
theorem au5_10 {p : Prop} (h : p := by repeat (first | (with_reducible first | exact HK.out | apply KeepBut.set_ | apply keep_drewN | apply keep_drew | apply keep_alloc | refine keep_far ?_ GW496.out _ | refine keep_far ?_ GW501.out _) | exact HK.out)) : p := h
theorem au5_11 {p : Prop} (h : p := by repeat (first | (with_reducible exact HR561_0.out) | (with_reducible refine Kd.C_alloc ?_ _) | (with_reducible refine Kd.C_drewN ?_ _) | (with_reducible refine Kd.C_drew ?_) | exact HR561_0.out)) : p := h
theorem au5_12 {p : Prop} (h : p := by repeat (first | (with_reducible first | exact HB.out | apply below_alloc | apply pw_below_drewN | apply below_drew1 | refine below_set ?_ (IsS121.ge HI0.out) | refine below_set ?_ GE496.out | refine below_set ?_ GE501.out | refine below_set ?_ GE509.out | refine below_set ?_ GE522.out) | exact HB.out)) : p := h
theorem au5_13 {p : Prop} (h : p := by repeat (first | (with_reducible first | exact HK.out | apply KeepBut.set_ | apply keep_drewN | apply keep_drew | apply keep_alloc | refine keep_far ?_ GW496.out _ | refine keep_far ?_ GW501.out _ | refine keep_far ?_ GW509.out _ | refine keep_far ?_ GW522.out _) | exact HK.out)) : p := h
theorem au5_14 {p : Prop} (h : p := by first | rfl | (simp [errW_none, errW_some] <;> rfl) | (simp [*, errW_none, errW_some] <;> rfl)) : p := h
theorem au5_15 {p : Prop} (h : p := by repeat (first | (with_reducible first | exact HB.out | apply below_alloc | apply pw_below_drewN | apply below_drew1 | refine below_set ?_ (IsS121.ge HI0.out) | refine below_set ?_ GE496.out | refine below_set ?_ GE501.out | refine below_set ?_ GE509.out | refine below_set ?_ GE522.out) | exact HB.out)) : p := h
theorem au5_16 {p : Prop} (h : p := by repeat (first | (with_reducible first | exact HK.out | apply KeepBut.set_ | apply keep_drewN | apply keep_drew | apply keep_alloc | refine keep_far ?_ GW496.out _) | exact HK.out)) : p := h
theorem au5_17 {p : Prop} (h : p := by repeat (first | (with_reducible first | exact HB.out | apply below_alloc | apply pw_below_drewN | apply below_drew1 | refine below_set ?_ (IsS121.ge HI614.out) | refine below_set ?_ GE608.out | refine below_set ?_ GE609.out) | exact HB.out)) : p := h
theorem au5_18 {p : Prop} (h : p := by exact (Reps.one (show Kd.M Kd.string _ _ _ (⟨#[]⟩ : ByteArray) [.string (⟨#[]⟩ : ByteArray)] from rfl) (Reps.one (show Kd.M Kd.string _ _ _ (⟨#[98]⟩ : ByteArray) [.string (⟨#[98]⟩ : ByteArray)] from rfl) (Reps.none _ _)))) : p := h
theorem au5_19 {p : Prop} (h : p := by (with_reducible repeat (first | apply Kd.R_alloc | apply Kd.R_drewN | apply Kd.R_drew)); exact HL561_0.out) : p := h
theorem au5_20 {p : Prop} (h : p := by repeat (first | exact (Kd.R_reads' HO590.out).2.2 | (with_reducible refine Kd.C_alloc ?_ _) | (with_reducible refine Kd.C_drewN ?_ _) | (with_reducible refine Kd.C_drew ?_))) : p := h
theorem au5_21 {p : Prop} (h : p := by exact (Reps.one (show Kd.M Kd.string _ _ _ (⟨#[10]⟩ : ByteArray) [.string (⟨#[10]⟩ : ByteArray)] from rfl) (Reps.one (show Kd.M Kd.string _ _ _ (⟨#[255]⟩ : ByteArray) [.string (⟨#[255]⟩ : ByteArray)] from rfl) (Reps.one (show Kd.M Kd.string _ _ _ (⟨#[97]⟩ : ByteArray) [.string (⟨#[97]⟩ : ByteArray)] from rfl) (Reps.none _ _))))) : p := h
theorem au5_22 {p : Prop} (h : p := by (with_reducible repeat (first | apply Kd.S_alloc | apply Kd.S_drewN | apply Kd.S_drew)); exact HO_510001.out) : p := h
theorem au5_24 {p : Prop} (h : p := by repeat (first | (with_reducible first | exact HK.out | apply KeepBut.set_ | apply keep_drewN | apply keep_drew | apply keep_alloc) | exact HK.out)) : p := h
theorem au5_25 {p : Prop} (h : p := by repeat (first | (with_reducible first | exact HB.out | apply below_alloc | apply pw_below_drewN | apply below_drew1 | refine below_set ?_ (IsS121.ge HI614.out) | refine below_set ?_ GE608.out | refine below_set ?_ GE609.out | refine below_set ?_ GE622.out) | exact HB.out)) : p := h
theorem au5_26 {p : Prop} (h : p := by (with_reducible repeat (first | apply Kd.R_alloc | apply Kd.R_drewN | apply Kd.R_drew)); exact Kd.R_mono HO590.out (fun _ hk => hk.2)) : p := h
theorem au5_27 {p : Prop} (h : p := by (with_reducible repeat (first | apply Kd.R_alloc | apply Kd.R_drewN | apply Kd.R_drew)); exact Kd.R_mono HO597.out (fun _ hk => hk.2)) : p := h
theorem au5_28 {p : Prop} (h : p := by repeat (first | (with_reducible first | exact HB.out | apply below_alloc | apply pw_below_drewN | apply below_drew1 | refine below_set ?_ (IsS121.ge HI0.out) | refine below_set ?_ GE496.out | refine below_set ?_ GE501.out) | exact HB.out)) : p := h
theorem au5_29 {p : Prop} (h : p := by repeat (first | (with_reducible first | exact HB.out | apply below_alloc | apply pw_below_drewN | apply below_drew1 | refine below_set ?_ (IsS121.ge HI0.out) | refine below_set ?_ GE496.out) | exact HB.out)) : p := h
theorem au5_30 {p : Prop} (h : p := by first | exact q561 | exact of_decide_eq_true as_ | (have e_ := (Kd.S_reads' HO_510001.out).1; omega)) : p := h
theorem au5_31 {p : Prop} (h : p := by simp only [putAll, Act.put, List.setIfInBounds_toArray, List.set_cons_zero, List.set_cons_succ]) : p := h
theorem au5_32 {p : Prop} (h : p := by exact (by (with_reducible repeat (first | apply Kd.S_alloc | apply Kd.S_drewN | apply Kd.S_drew)); exact Kd.S_mono HO_510001.out (fun k_ hk => ⟨hk.2, fun e_ => hk.1 e_⟩))) : p := h
theorem au5_33 {p : Prop} (h : p := by have := HJ5.out; have := HK2.out; have := HK3.out; first | omega | exact Nat.le_refl _) : p := h
theorem au5_34 {p : Prop} (h : p := by rintro w' ⟨s0, s1, s2, s3, s4⟩; go_simp; with_reducible rfl) : p := h
theorem au5_35 {p : Prop} (h : p := by have := HJ5.out; have := HK2.out; have := HK3.out; omega) : p := h
theorem au5_36 {p : Prop} (h : p := by (with_reducible repeat (first | apply Kd.S_alloc | apply Kd.S_drewN | apply Kd.S_drew)); exact Kd.S_mono HO_510001.out (fun _ hk => ⟨hk.1.2, hk.2⟩)) : p := h
theorem au5_37 {p : Prop} (h : p := by exact far_slice (IsS121.own_ne HI0.out HO590.out (by decide))) : p := h
theorem au5_39 {p : Prop} (h : p := by first | omega | exact Nat.le_refl _) : p := h
theorem au5_23 {p : Prop} (h : p := by repeat (first | exact au5_11 | (with_reducible refine Kd.C_alloc ?_ _) | (with_reducible refine Kd.C_drewN ?_ _) | (with_reducible refine Kd.C_drew ?_))) : p := h
theorem au5_38 {p : Prop} (h : p := by exact (keep_size (w := w) (g := g) (row := none) au5_4)) : p := h

/-! ### F97: function 97 -/
mutual
def F97.j0 : Nat → Int → List Int → Int → Int → Int → Int → Int → Int → Int → ByteArray → Option (ByteArray × (List (S102)) × Int × Int × Int)
  | 0, _, _, _, _, _, _, _, _, _, _ => none
  | k + 1, x5, x1000, x1001, x1002, x1003, x502000, x502001, x502002, x502003, x510000 => F97.l0 k x5 x1000 x1001 x1002 x1003 x502000 x502001 x502002 x502003 x510000 ([] : List (S102))
def F97.l0 : Nat → Int → List Int → Int → Int → Int → Int → Int → Int → Int → ByteArray → List (S102) → Option (ByteArray × (List (S102)) × Int × Int × Int)
  | 0, _, _, _, _, _, _, _, _, _, _, _ => none
  | k + 1, x5, x1000, x1001, x1002, x1003, x502000, x502001, x502002, x502003, x510000, x510001 => if x5 > 0 then ((F72.f x1000 x1001 x1002 x1003 2).bind fun bt523 => ((F72.f x1000 bt523.2.1 bt523.2.2.1 bt523.2.2.2 4).bind fun bt527 => (F97.l1 k x5 (wrap64 (1 + (wrap64 (bt523.1 * bt527.1)))) x1000 bt527.2.1 bt527.2.2.1 bt527.2.2.2 x502000 x502001 x502002 x502003 x510000 x510001 ([] : List ByteArray)))) else (F97.l2 k x1000 x1001 x1002 x1003 x510000 x510001)
def F97.l1 : Nat → Int → Int → List Int → Int → Int → Int → Int → Int → Int → Int → ByteArray → List (S102) → List ByteArray → Option (ByteArray × (List (S102)) × Int × Int × Int)
  | 0, _, _, _, _, _, _, _, _, _, _, _, _, _ => none
  | k + 1, x5, x7, x1000, x1001, x1002, x1003, x502000, x502001, x502002, x502003, x510000, x510001, x523000 => if x7 > 0 then ((F72.f x1000 x1001 x1002 x1003 6).bind fun bt531 => ((F71.f k x1000 bt531.2.1 bt531.2.2.1 bt531.2.2.2 x502000 x502001 x502002 x502003 bt531.1).bind fun bt535 => (if x523000.length < 8796093022208 then (F97.l1 k x5 (wrap64 (x7 - 1)) x1000 bt535.2.1 bt535.2.2.1 bt535.2.2.2 x502000 x502001 x502002 x502003 x510000 x510001 (x523000 ++ [bt535.1])) else (none)))) else ((F98.f x1000 x1001 x1002 x1003 60).bind fun bt542 => (if bt542.1 = true then ((F72.f x1000 bt542.2.1 bt542.2.2.1 bt542.2.2.2 3).bind fun bt546 => ((F71.f k x1000 bt546.2.1 bt546.2.2.1 bt546.2.2.2 x502000 x502001 x502002 x502003 (wrap64 (39 + bt546.1))).bind fun bt550 => (if 0 < (x523000.length : Int) then (if x510001.length < 5864062014805 then (F97.l0 k (wrap64 (x5 - 1)) x1000 bt550.2.1 bt550.2.2.1 bt550.2.2.2 x502000 x502001 x502002 x502003 x510000 (x510001 ++ [(⟨(x523000.set (0 : Int).toNat bt550.1)⟩ : S102)])) else (none)) else (none)))) else (if x510001.length < 5864062014805 then (F97.l0 k (wrap64 (x5 - 1)) x1000 bt542.2.1 bt542.2.2.1 bt542.2.2.2 x502000 x502001 x502002 x502003 x510000 (x510001 ++ [(⟨x523000⟩ : S102)])) else (none))))
def F97.j4 : Nat → List Int → Int → Int → Int → ByteArray → List (S102) → Option (ByteArray × (List (S102)) × Int × Int × Int)
  | 0, _, _, _, _, _, _ => none
  | k + 1, x1000, x1001, x1002, x1003, x510000, x510001 => (F98.f x1000 x1001 x1002 x1003 20).bind fun bt570 => (if bt570.1 = true then ((F72.f x1000 bt570.2.1 bt570.2.2.1 bt570.2.2.2 3).bind fun bt574 => (if bt574.1 = 0 then ((F119.f x1000 bt574.2.1 bt574.2.2.1 bt574.2.2.2 (([(⟨#[]⟩ : ByteArray), (⟨#[65, 66]⟩ : ByteArray), (⟨#[65, 66, 67, 68]⟩ : ByteArray), (⟨#[65, 66, 49]⟩ : ByteArray), (⟨#[97, 98, 99]⟩ : ByteArray)] : List ByteArray))).bind fun bt581 => (some (bt581.1, x510001, bt581.2.1, bt581.2.2.1, bt581.2.2.2))) else (if bt574.1 = 1 then (if x510001.length < 5864062014805 then (some (x510000, (x510001 ++ [(⟨([] : List ByteArray)⟩ : S102)]), bt574.2.1, bt574.2.2.1, bt574.2.2.2)) else (none)) else ((F119.f x1000 bt574.2.1 bt574.2.2.1 bt574.2.2.2 (([(⟨#[10]⟩ : ByteArray), (⟨#[255]⟩ : ByteArray), (⟨#[97]⟩ : ByteArray)] : List ByteArray))).bind fun bt591 => ((F119.f x1000 bt591.2.1 bt591.2.2.1 bt591.2.2.2 (([(⟨#[]⟩ : ByteArray), (⟨#[98]⟩ : ByteArray)] : List ByteArray))).bind fun bt598 => (if x510001.length < 5864062014805 then (some (x510000, (x510001 ++ [(⟨(([bt591.1, bt598.1] : List ByteArray))⟩ : S102)]), bt598.2.1, bt598.2.2.1, bt598.2.2.2)) else (none))))))) else (some (x510000, x510001, bt570.2.1, bt570.2.2.1, bt570.2.2.2)))
def F97.l2 : Nat → List Int → Int → Int → Int → ByteArray → List (S102) → Option (ByteArray × (List (S102)) × Int × Int × Int)
  | 0, _, _, _, _, _, _ => none
  | k + 1, x1000, x1001, x1002, x1003, x510000, x510001 => if (x510001.length : Int) > 0 then (if 0 ≤ (wrap64 ((x510001.length : Int) - 1)) then (if (wrap64 ((x510001.length : Int) - 1)) < (x510001.length : Int) then ((F77.f ((rd_T102 x510001 (wrap64 ((x510001.length : Int) - 1))).f0)).bind fun t562 => (if t562 = true then ((F98.f x1000 x1001 x1002 x1003 20).bind fun bt563 => (if bt563.1 = true then (F97.j4 k x1000 bt563.2.1 bt563.2.2.1 bt563.2.2.2 x510000 x510001) else (if (wrap64 ((x510001.length : Int) - 1)) ≤ (x510001.length : Int) then (F97.l2 k x1000 bt563.2.1 bt563.2.2.1 bt563.2.2.2 x510000 (x510001.take ((wrap64 ((x510001.length : Int) - 1)) : Int).toNat)) else (none)))) else (F97.j4 k x1000 x1001 x1002 x1003 x510000 x510001))) else (none)) else (none)) else (F97.j4 k x1000 x1001 x1002 x1003 x510000 x510001)
end
def F97.f (k : Nat) (s0_0 : List Int) (s0_1 : Int) (s0_2 : Int) (s0_3 : Int) : Option (ByteArray × (List (S102)) × Int × Int × Int) := (F107.f).bind fun bt497 => ((F119.f s0_0 s0_1 s0_2 s0_3 (([(⟨#[68, 79, 67]⟩ : ByteArray), (⟨#[76, 73, 78]⟩ : ByteArray), (⟨#[78, 79, 84]⟩ : ByteArray), (⟨#[65, 66, 67]⟩ : ByteArray), (⟨#[73, 88, 72]⟩ : ByteArray)] : List ByteArray))).bind fun bt505 => ((F72.f s0_0 bt505.2.1 bt505.2.2.1 bt505.2.2.2 5).bind fun bt510 => ((F98.f s0_0 bt510.2.1 bt510.2.2.1 bt510.2.2.2 40).bind fun bt514 => (if bt514.1 = true then ((F72.f s0_0 bt514.2.1 bt514.2.2.1 bt514.2.2.2 3).bind fun bt518 => (F97.j0 k (wrap64 (9 + bt518.1)) s0_0 bt518.2.1 bt518.2.2.1 bt518.2.2.2 bt497.1 bt497.2.1 bt497.2.2.1 bt497.2.2.2 bt505.1)) else (F97.j0 k bt510.1 s0_0 bt514.2.1 bt514.2.2.1 bt514.2.2.2 bt497.1 bt497.2.1 bt497.2.2.1 bt497.2.2.2 bt505.1)))))
theorem F97.mono_l : ∀ k, (∀ y0 y1 y2 y3 y4 y5 y6 y7 y8 y9, LeO (F97.j0 k y0 y1 y2 y3 y4 y5 y6 y7 y8 y9) (F97.j0 (k + 1) y0 y1 y2 y3 y4 y5 y6 y7 y8 y9)) ∧ (∀ y0 y1 y2 y3 y4 y5 y6 y7 y8 y9 y10, LeO (F97.l0 k y0 y1 y2 y3 y4 y5 y6 y7 y8 y9 y10) (F97.l0 (k + 1) y0 y1 y2 y3 y4 y5 y6 y7 y8 y9 y10)) ∧ (∀ y0 y1 y2 y3 y4 y5 y6 y7 y8 y9 y10 y11 y12, LeO (F97.l1 k y0 y1 y2 y3 y4 y5 y6 y7 y8 y9 y10 y11 y12) (F97.l1 (k + 1) y0 y1 y2 y3 y4 y5 y6 y7 y8 y9 y10 y11 y12)) ∧ (∀ y0 y1 y2 y3 y4 y5, LeO (F97.j4 k y0 y1 y2 y3 y4 y5) (F97.j4 (k + 1) y0 y1 y2 y3 y4 y5)) ∧ (∀ y0 y1 y2 y3 y4 y5, LeO (F97.l2 k y0 y1 y2 y3 y4 y5) (F97.l2 (k + 1) y0 y1 y2 y3 y4 y5))
 | 0 => ⟨fun _ _ _ _ _ _ _ _ _ _ r h => by simp [F97.j0] at h, fun _ _ _ _ _ _ _ _ _ _ _ r h => by simp [F97.l0] at h, fun _ _ _ _ _ _ _ _ _ _ _ _ _ r h => by simp [F97.l1] at h, fun _ _ _ _ _ _ r h => by simp [F97.j4] at h, fun _ _ _ _ _ _ r h => by simp [F97.l2] at h⟩
 | k + 1 => by
  obtain ⟨ih0, ih1, ih2, ih3, ih4⟩ := F97.mono_l k
  refine ⟨?_, ?_, ?_, ?_, ?_⟩
  rotate_left
  ·intro y0 y1 y2 y3 y4 y5 y6 y7 y8 y9 y10
   unfold F97.l0
   repeat' with_reducible first | exact ih0 _ _ _ _ _ _ _ _ _ _ | exact ih1 _ _ _ _ _ _ _ _ _ _ _ | exact ih2 _ _ _ _ _ _ _ _ _ _ _ _ _ | exact ih3 _ _ _ _ _ _ | exact ih4 _ _ _ _ _ _ | exact F71.mono _ _ _ _ _ _ _ _ _ _ | exact LeO.refl _ | exact LeO.none _ | refine LeO.ite ?_ ?_ | refine LeO.bind ?_ (fun _ => ?_)
  ·intro y0 y1 y2 y3 y4 y5 y6 y7 y8 y9 y10 y11 y12
   unfold F97.l1
   repeat' with_reducible first | exact ih0 _ _ _ _ _ _ _ _ _ _ | exact ih1 _ _ _ _ _ _ _ _ _ _ _ | exact ih2 _ _ _ _ _ _ _ _ _ _ _ _ _ | exact ih3 _ _ _ _ _ _ | exact ih4 _ _ _ _ _ _ | exact F71.mono _ _ _ _ _ _ _ _ _ _ | exact LeO.refl _ | exact LeO.none _ | refine LeO.ite ?_ ?_ | refine LeO.bind ?_ (fun _ => ?_)
  ·intro y0 y1 y2 y3 y4 y5
   unfold F97.j4
   repeat' with_reducible first | exact ih0 _ _ _ _ _ _ _ _ _ _ | exact ih1 _ _ _ _ _ _ _ _ _ _ _ | exact ih2 _ _ _ _ _ _ _ _ _ _ _ _ _ | exact ih3 _ _ _ _ _ _ | exact ih4 _ _ _ _ _ _ | exact F71.mono _ _ _ _ _ _ _ _ _ _ | exact LeO.refl _ | exact LeO.none _ | refine LeO.ite ?_ ?_ | refine LeO.bind ?_ (fun _ => ?_)
  ·intro y0 y1 y2 y3 y4 y5
   unfold F97.l2
   repeat' with_reducible first | exact ih0 _ _ _ _ _ _ _ _ _ _ | exact ih1 _ _ _ _ _ _ _ _ _ _ _ | exact ih2 _ _ _ _ _ _ _ _ _ _ _ _ _ | exact ih3 _ _ _ _ _ _ | exact ih4 _ _ _ _ _ _ | exact F71.mono _ _ _ _ _ _ _ _ _ _ | exact LeO.refl _ | exact LeO.none _ | refine LeO.ite ?_ ?_ | refine LeO.bind ?_ (fun _ => ?_)
  intro y0 y1 y2 y3 y4 y5 y6 y7 y8 y9
  unfold F97.j0
  repeat' with_reducible first | exact ih0 _ _ _ _ _ _ _ _ _ _ | exact ih1 _ _ _ _ _ _ _ _ _ _ _ | exact ih2 _ _ _ _ _ _ _ _ _ _ _ _ _ | exact ih3 _ _ _ _ _ _ | exact ih4 _ _ _ _ _ _ | exact F71.mono _ _ _ _ _ _ _ _ _ _ | exact LeO.refl _ | exact LeO.none _ | refine LeO.ite ?_ ?_ | refine LeO.bind ?_ (fun _ => ?_)
theorem F97.mono : ∀ a0 a1 a2 a3 k, LeO (F97.f k a0 a1 a2 a3) (F97.f (k + 1) a0 a1 a2 a3) := by
 intro a0 a1 a2 a3 k
 obtain ⟨ih0, ih1, ih2, ih3, ih4⟩ := F97.mono_l k
 unfold F97.f
 repeat' with_reducible first | exact ih0 _ _ _ _ _ _ _ _ _ _ | exact ih1 _ _ _ _ _ _ _ _ _ _ _ | exact ih2 _ _ _ _ _ _ _ _ _ _ _ _ _ | exact ih3 _ _ _ _ _ _ | exact ih4 _ _ _ _ _ _ | exact F71.mono _ _ _ _ _ _ _ _ _ _ | exact LeO.refl _ | exact LeO.none _ | refine LeO.ite ?_ ?_ | refine LeO.bind ?_ (fun _ => ?_)
def F97.T12 : Bool × List (List Nat × List Nat) := (true, [([], []), ([0], [0]), ([], []), ([], []), ([], []), ([4], [4]), ([2, 3, 5, 5], [2, 3, 5]), ([6], [6]), ([1, 7, 6], [1, 7]), ([0, 1, 2, 3, 4, 5, 6, 7, 8], []), ([9, 8, 8, 0, 1, 2, 3, 4, 5, 6, 7, 8], [8, 9])])
def F97.B12 : List Nat := [0, 1, 0, 0, 0, 16, 60, 124, 255, 511, 1023]
theorem F97.tab12 : rtab .any (opsOf Try.f97 12) = F97.T12 := by kernel_rfl
theorem F97.bits12 : waitsOk F97.T12.2 F97.B12 = true := by kernel_rfl
def F97.T14 : Bool × List (List Nat × List Nat) := (true, [([], []), ([0], [0]), ([], []), ([], []), ([], []), ([4], [4]), ([5], [5]), ([2, 3, 6, 5], [2, 3, 6]), ([1, 0, 1, 2, 3, 4, 5, 6, 7], [1]), ([8, 7, 7, 0, 1, 2, 3, 4, 5, 6, 7], [7, 8])])
def F97.B14 : List Nat := [0, 1, 0, 0, 0, 16, 48, 124, 255, 511]
theorem F97.tab14 : rtab .any (opsOf Try.f97 14) = F97.T14 := by kernel_rfl
theorem F97.bits14 : waitsOk F97.T14.2 F97.B14 = true := by kernel_rfl
def F97.T20 : Bool × List (List Nat × List Nat) := (true, [([], []), ([0], [0]), ([], []), ([], []), ([2, 3], [2, 3]), ([], []), ([], []), ([5, 6, 4], [5, 6]), ([4, 7], [4, 7]), ([8], [8]), ([9], [9]), ([1, 10, 7], [1, 10]), ([0, 1, 2, 3, 4, 5, 6, 7, 8, 9, 10, 11], []), ([12, 11, 11, 0, 1, 2, 3, 4, 5, 6, 7, 8, 9, 10, 11], [11, 12])])
def F97.B20 : List Nat := [0, 1, 0, 0, 12, 0, 0, 124, 252, 508, 1020, 2047, 4095, 8191]
theorem F97.tab20 : rtab .any (opsOf Try.f97 20) = F97.T20 := by kernel_rfl
theorem F97.bits20 : waitsOk F97.T20.2 F97.B20 = true := by kernel_rfl
theorem F97.calls (k : Nat) (g : Nat) (s0_0 : List Int) (s0_1 : Int) (s0_2 : Int) (s0_3 : Int) (r1 : ByteArray) (r2 : List (S102)) (r3 : Int) (r4 : Int) (r5 : Int) (w0 w : World) (hI : IsS121 w0 w g s0_0 s0_1 s0_2 s0_3) (hB : Below w0.heap.size w0 w) (h : F97.f k s0_0 s0_1 s0_2 s0_3 = some (r1, r2, r3, r4, r5)) :
  Calls Try.prog 97 #[.pointer (some ⟨g, 0, none⟩)] w fun e w' => ∃ v1_ : Value, e = .returned (.agg #[.string r1, v1_]) ∧ Kd.S k102 102 w' w.heap.size (fun _ => True) v1_ r2 ∧ IsS121 w0 w' g s0_0 r3 r4 r5 ∧ Below w0.heap.size w0 w' ∧ KeepBut w w' g none := by
 have hu59 := Try.underlying59
 have hu23 := Try.underlying23
 have hu102 := Try.underlying102
 have HI0 := am_ hI
 have HK := am_ (KeepBut.refl w g none)
 have HL := am_ hB.size
 clear hI
 have HW0 := am_ hB.size
 have HB := am_ hB
 clear hB
 have H : ((F107.f).bind fun bt497 => ((F119.f s0_0 s0_1 s0_2 s0_3 (([(⟨#[68, 79, 67]⟩ : ByteArray), (⟨#[76, 73, 78]⟩ : ByteArray), (⟨#[78, 79, 84]⟩ : ByteArray), (⟨#[65, 66, 67]⟩ : ByteArray), (⟨#[73, 88, 72]⟩ : ByteArray)] : List ByteArray))).bind fun bt505 => ((F72.f s0_0 bt505.2.1 bt505.2.2.1 bt505.2.2.2 5).bind fun bt510 => ((F98.f s0_0 bt510.2.1 bt510.2.2.1 bt510.2.2.2 40).bind fun bt514 => (if bt514.1 = true then ((F72.f s0_0 bt514.2.1 bt514.2.2.1 bt514.2.2.2 3).bind fun bt518 => (F97.j0 k (wrap64 (9 + bt518.1)) s0_0 bt518.2.1 bt518.2.2.1 bt518.2.2.2 bt497.1 bt497.2.1 bt497.2.2.1 bt497.2.2.2 bt505.1)) else (F97.j0 k bt510.1 s0_0 bt514.2.1 bt514.2.2.1 bt514.2.2.2 bt497.1 bt497.2.1 bt497.2.2.1 bt497.2.2.2 bt505.1)))))) = some (r1, r2, r3, r4, r5) := h
 clear h
 replace H := bi_ H; rcases H with ⟨⟨t497, t498, t499, t500⟩, A2, H⟩
 obtain ⟨y502, hy502⟩ : ∃ y_ : List ByteArray, y_ = (([(⟨#[68, 79, 67]⟩ : ByteArray), (⟨#[76, 73, 78]⟩ : ByteArray), (⟨#[78, 79, 84]⟩ : ByteArray), (⟨#[65, 66, 67]⟩ : ByteArray), (⟨#[73, 88, 72]⟩ : ByteArray)] : List ByteArray)) := ⟨_, rfl⟩
 replace H : ((F119.f s0_0 s0_1 s0_2 s0_3 y502).bind fun bt505 => ((F72.f s0_0 bt505.2.1 bt505.2.2.1 bt505.2.2.2 5).bind fun bt510 => ((F98.f s0_0 bt510.2.1 bt510.2.2.1 bt510.2.2.2 40).bind fun bt514 => (if bt514.1 = true then ((F72.f s0_0 bt514.2.1 bt514.2.2.1 bt514.2.2.2 3).bind fun bt518 => (F97.j0 k (wrap64 (9 + bt518.1)) s0_0 bt518.2.1 bt518.2.2.1 bt518.2.2.2 t497 t498 t499 t500 bt505.1)) else (F97.j0 k bt510.1 s0_0 bt514.2.1 bt514.2.2.1 bt514.2.2.2 t497 t498 t499 t500 bt505.1))))) = some (r1, r2, r3, r4, r5) := by first | (rw [hy502]; exact H) | exact H
 have Ny502 := am_ hy502
 clear hy502
 replace H := bi_ H; rcases H with ⟨⟨t505, t506, t507, t508⟩, A3, H⟩
 replace H := bi_ H; rcases H with ⟨⟨t510, t511, t512, t513⟩, A4, H⟩
 replace H := bi_ H; rcases H with ⟨⟨t514, t515, t516, t517⟩, A5, H⟩
 have HC6 := am_ H
 clear H
 go_enter Try.func97, Try.ntmps97
 go_upto_if 16 with (first | ((with_reducible refine gate_dst (N := 2) rfl ?_); (try (refine gate_guard (by rfl) ?_; dsimp only)); refine be_ 2 #[.string (⟨#[]⟩ : ByteArray), .slice none 0 0] 59 ?_; intro gb496 hg w7 hbox hb; replace HB := am_ (below_step (by repeat (first | (with_reducible first | exact HB.out | apply below_alloc | apply pw_below_drewN | apply below_drew1 | refine below_set ?_ (IsS121.ge HI0.out)) | exact HB.out)) hb); have BK496 := am_ (hbox); have GW496 := am_ ((by rw [hg]; exact (keep_size (w := w) (g := g) (row := none) au5_24) : w.heap.size ≤ gb496)); have GE496 := am_ ((Nat.le_trans HW0.out (by rw [hg]; exact (keep_size (w := w) (g := g) (row := none) au5_24) : w.heap.size ≤ gb496) : w0.heap.size ≤ gb496)); replace HK := am_ (KeepBut.trans au5_24 (KeepBut.of_below hb g none) (.inl rfl)); have NB0_496 := am_ (gn_ hg (IsS121.lt (is5_0_ : IsS121 w0 _ g s0_0 s0_1 s0_2 s0_3))); have NB496_0 := am_ (gm_ hg (IsS121.lt (is5_0_ : IsS121 w0 _ g s0_0 s0_1 s0_2 s0_3))); replace HI0 := am_ (IsS121.below is5_0_ hb); clear hb hbox hg) | (go_at_call 107; (with_reducible refine (F107.calls  t497 t498 t499 t500 _ A2.out).mono ?_); rintro e w8 ⟨rfl, hb⟩; (try clear A2); replace BK496 := bb_ BK496 hb; replace HK := am_ (KeepBut.trans au5_16 (KeepBut.of_below hb g none) (.inl rfl)); replace HB := am_ (below_step au5_29 hb); replace HI0 := am_ (IsS121.below is5_0_ hb); (try clear hb); (try clear hb2); (try clear hk); (try clear hi)) | ((with_reducible refine gate_dst (N := 3) rfl ?_); (try (refine gate_guard (by rfl) ?_; dsimp only)); refine be_ 3 #[.int .i64 0, .int .i64 0, .int .i64 0, .int .i64 0] 23 ?_; intro gb501 hg w9 hbox hb; replace HB := am_ (below_step au5_29 hb); have BK501 := am_ (hbox); have GW501 := am_ ((by rw [hg]; exact (keep_size (w := w) (g := g) (row := none) au5_16) : w.heap.size ≤ gb501)); have GE501 := am_ ((Nat.le_trans HW0.out (by rw [hg]; exact (keep_size (w := w) (g := g) (row := none) au5_16) : w.heap.size ≤ gb501) : w0.heap.size ≤ gb501)); replace HK := am_ (KeepBut.trans au5_16 (KeepBut.of_below hb g none) (.inl rfl)); have NB496_501 := am_ (gn_ hg (blkl_ BK496)); have NB501_496 := am_ (gm_ hg (blkl_ BK496)); replace BK496 := bb_ BK496 hb; have NB0_501 := am_ (gn_ hg (IsS121.lt (is5_0_ : IsS121 w0 _ g s0_0 s0_1 s0_2 s0_3))); have NB501_0 := am_ (gm_ hg (IsS121.lt (is5_0_ : IsS121 w0 _ g s0_0 s0_1 s0_2 s0_3))); replace HI0 := am_ (IsS121.below is5_0_ hb); clear hb hbox hg; have hnb10 := NB501_496.out; have hnc10 := NB496_501.out; have hnb11 := NB501_0.out; have hnc11 := NB0_501.out; obtain ⟨hcz12_0, hcz12_1, hcz12_2, hcz12_3, hfz12_0, hfz12_1, hfz12_2, hfz12_3⟩ := cellsF4 BK501.out) | ((with_reducible refine gate_dst (N := 10) rfl ?_); (try (refine gate_guard (by rfl) ?_; dsimp only)); refine Kd.R_lit Kd.string _ 9 ?hg (N := 10) ?hd (xs := ([(⟨#[68, 79, 67]⟩ : ByteArray), (⟨#[76, 73, 78]⟩ : ByteArray), (⟨#[78, 79, 84]⟩ : ByteArray), (⟨#[65, 66, 67]⟩ : ByteArray), (⟨#[73, 88, 72]⟩ : ByteArray)] : List ByteArray)) (inner := [.string (⟨#[68, 79, 67]⟩ : ByteArray), .string (⟨#[76, 73, 78]⟩ : ByteArray), .string (⟨#[78, 79, 84]⟩ : ByteArray), .string (⟨#[65, 66, 67]⟩ : ByteArray), .string (⟨#[73, 88, 72]⟩ : ByteArray)]) (ok := fun _ => True) (okp := fun _ => True) ?hr ?hp (fun _ hk => hk) trivial (Below.refl _ _) (Nat.le_refl _) (by simp) ?_; (case hd => rfl); (case hg => rfl); (case hr => exact hr_); (case hp => exact (Reps.one (show Kd.M Kd.string _ _ _ (⟨#[68, 79, 67]⟩ : ByteArray) [.string (⟨#[68, 79, 67]⟩ : ByteArray)] from rfl) (Reps.one (show Kd.M Kd.string _ _ _ (⟨#[76, 73, 78]⟩ : ByteArray) [.string (⟨#[76, 73, 78]⟩ : ByteArray)] from rfl) (Reps.one (show Kd.M Kd.string _ _ _ (⟨#[78, 79, 84]⟩ : ByteArray) [.string (⟨#[78, 79, 84]⟩ : ByteArray)] from rfl) (Reps.one (show Kd.M Kd.string _ _ _ (⟨#[65, 66, 67]⟩ : ByteArray) [.string (⟨#[65, 66, 67]⟩ : ByteArray)] from rfl) (Reps.one (show Kd.M Kd.string _ _ _ (⟨#[73, 88, 72]⟩ : ByteArray) [.string (⟨#[73, 88, 72]⟩ : ByteArray)] from rfl) (Reps.none _ _))))))); intro v503 w13 ho14 hb hg_ hnew_; clear hg_ hnew_; (first | rw [← Ny502.out] at ho14 | (simp only [Int.reduceToNat] at ho14; rw [← Ny502.out] at ho14)); have HO504 := am_ (Kd.R_lower ho14 (keep_size (w := w) (g := g) (row := none) au5_10)); replace BK496 := am_ (blk_below (g := gb496) (o := .cells #[.string (⟨#[]⟩ : ByteArray), .slice none 0 0] 59 (0, 0)) (bf_ BK496) hb); replace BK501 := am_ (blk_below (g := gb501) (o := .cells #[.int .i64 t497, .int .i64 t498, .int .i64 t499, .int .i64 t500] 23 (0, 0)) (bq_ BK501) hb); replace HK := am_ (KeepBut.trans au5_10 (KeepBut.of_below hb g none) (.inl rfl)); replace HB := am_ (below_step au5_28 hb); replace HI0 := am_ (IsS121.below (show IsS121 w0 ((((w9.setCell ⟨gb501, 0, none⟩ (.int .i64 t497)).setCell ⟨gb501, 1, none⟩ (.int .i64 t498)).setCell ⟨gb501, 2, none⟩ (.int .i64 t499)).setCell ⟨gb501, 3, none⟩ (.int .i64 t500)) g s0_0 s0_1 s0_2 s0_3 from by repeat (first | (with_reducible first | exact HI0.out | apply IsS121.alloc | apply IsS121.drewN | apply IsS121.drew | apply IsS121.set_1 | apply IsS121.set_2 | apply IsS121.set_3 | refine IsS121.far ?_ NB0_496.out _ | refine IsS121.far ?_ NB0_501.out _) | exact HI0.out)) hb); clear hb ho14; obtain ⟨Ao15, co15, eo15⟩ := Kd.R_slice HO504.out; subst eo15) | (go_at_call 119; (with_reducible refine (F119.calls g s0_0 s0_1 s0_2 s0_3 _ _ y502 t505 t506 t507 t508 w0 _ ?s1 ?s2 ?s3 ?s4 ?s5 A3.out).mono ?_); (case s1 => repeat (first | (with_reducible first | exact HI0.out | apply IsS121.alloc | apply IsS121.drewN | apply IsS121.drew | apply IsS121.set_1 | apply IsS121.set_2 | apply IsS121.set_3 | refine IsS121.far ?_ NB0_496.out _ | refine IsS121.far ?_ NB0_501.out _) | exact HI0.out)); (case s2 => repeat (first | (with_reducible first | exact HB.out | apply below_alloc | apply pw_below_drewN | apply below_drew1 | refine below_set ?_ (IsS121.ge HI0.out) | refine below_set ?_ GE496.out | refine below_set ?_ GE501.out) | exact HB.out)); (case s3 => repeat (first | exact (Kd.R_reads' HO504.out).2.2 | (with_reducible refine Kd.C_alloc ?_ _) | (with_reducible refine Kd.C_drewN ?_ _) | (with_reducible refine Kd.C_drew ?_))); (case s4 => exact (Kd.R_reads' HO504.out).2.1); (case s5 => exact far_slice (IsS121.own_ne HI0.out HO504.out (by decide))); rintro e w16 ⟨rfl, hi, hb, hk⟩; (try clear A3); replace BK496 := ka_ hk BK496 NB496_0; replace BK501 := ka_ hk BK501 NB501_0; replace HO504 := am_ (Kd.R_mono (Kd.R_keep (IsS121.apart (is5_0_ : IsS121 w0 _ g s0_0 s0_1 s0_2 s0_3) (rk_ HO504) (by decide)) hk (fun _ h => h.2)) (fun _ h => h.1)); replace HK := am_ (KeepBut.trans au5_10 hk (.inl rfl)); replace HB := am_ (hb); replace HI0 := am_ (hi); (try clear hb); (try clear hb2); (try clear hk); (try clear hi)) | ((with_reducible refine gate_dst (N := 4) rfl ?_); (try (refine gate_guard (by rfl) ?_; dsimp only)); refine be_ 4 #[.string (⟨#[]⟩ : ByteArray), .slice none 0 0] 59 ?_; intro gb509 hg w17 hbox hb; replace HO504 := am_ (Kd.R_below (rk_ HO504) hb); replace HB := am_ (below_step au5_28 hb); have BK509 := am_ (hbox); have GW509 := am_ ((by rw [hg]; exact (keep_size (w := w) (g := g) (row := none) au5_10) : w.heap.size ≤ gb509)); have GE509 := am_ ((Nat.le_trans HW0.out (by rw [hg]; exact (keep_size (w := w) (g := g) (row := none) au5_10) : w.heap.size ≤ gb509) : w0.heap.size ≤ gb509)); replace HK := am_ (KeepBut.trans au5_10 (KeepBut.of_below hb g none) (.inl rfl)); have NB496_509 := am_ (gn_ hg (blkl_ BK496)); have NB509_496 := am_ (gm_ hg (blkl_ BK496)); replace BK496 := bb_ BK496 hb; have NB501_509 := am_ (gn_ hg (blkl_ BK501)); have NB509_501 := am_ (gm_ hg (blkl_ BK501)); replace BK501 := bb_ BK501 hb; have NB0_509 := am_ (gn_ hg (IsS121.lt (is5_0_ : IsS121 w0 _ g s0_0 t506 t507 t508))); have NB509_0 := am_ (gm_ hg (IsS121.lt (is5_0_ : IsS121 w0 _ g s0_0 t506 t507 t508))); replace HI0 := am_ (IsS121.below is5_0_ hb); clear hb hbox hg; have hnb18 := NB509_496.out; have hnc18 := NB496_509.out; have hnb19 := NB509_501.out; have hnc19 := NB501_509.out; have hnb20 := NB509_0.out; have hnc20 := NB0_509.out; obtain ⟨hcz21_0, hcz21_1, hfz21_0, hfz21_1⟩ := cellsF2 BK509.out) | (go_at_call 72; (with_reducible refine (F72.calls g s0_0 t506 t507 t508 5 t510 t511 t512 t513 w0 _ ?s1 ?s2 A4.out).mono ?_); (case s1 => exact au5_1); (case s2 => exact au5_2); rintro e w22 ⟨rfl, hi, hb, hk⟩; (try clear A4); replace BK496 := ka_ hk BK496 NB496_0; replace BK501 := ka_ hk BK501 NB501_0; replace HO504 := am_ (Kd.R_mono (Kd.R_keep (IsS121.apart (is5_0_ : IsS121 w0 _ g s0_0 t506 t507 t508) (by (with_reducible repeat (first | apply Kd.R_alloc | apply Kd.R_drewN | apply Kd.R_drew)); exact (Kd.R_mono (Kd.R_far (p := ⟨gb509, 1, none⟩) (Kd.R_far (p := ⟨gb509, 0, none⟩) (Kd.R_types HO504.out BK509.out (by decide)) (fun _ hk => hk.2) (.string t505)) (fun _ hk => hk.2) (.slice none 0 0)) (fun _ h_ => h_.1))) (by decide)) hk (fun _ h => h.2)) (fun _ h => h.1)); replace BK509 := am_ (KeepBut.blk hk (g' := gb509) (o := .cells #[.string t505, .slice none 0 0] 59 (0, 0)) (bq_ BK509) NB509_0.out (by simp)); replace HK := am_ (KeepBut.trans au5_0 hk (.inl rfl)); replace HB := am_ (hb); replace HI0 := am_ (hi); (try clear hb); (try clear hb2); (try clear hk); (try clear hi)) | (go_at_call 98; (with_reducible refine (F98.calls g s0_0 t511 t512 t513 40 t514 t515 t516 t517 w0 _ ?s1 ?s2 A5.out).mono ?_); (case s1 => exact au5_1); (case s2 => exact au5_2); rintro e w23 ⟨rfl, hi, hb, hk⟩; (try clear A5); replace BK496 := ka_ hk BK496 NB496_0; replace BK501 := ka_ hk BK501 NB501_0; replace HO504 := am_ (Kd.R_mono (Kd.R_keep (IsS121.apart (is5_0_ : IsS121 w0 _ g s0_0 t511 t512 t513) (rk_ HO504) (by decide)) hk (fun _ h => h.2)) (fun _ h => h.1)); replace BK509 := ka_ hk BK509 NB509_0; replace HK := am_ (KeepBut.trans au5_0 hk (.inl rfl)); replace HB := am_ (hb); replace HI0 := am_ (hi); (try clear hb); (try clear hb2); (try clear hk); (try clear hi)))
 (try simp only [Act.put, List.setIfInBounds_toArray, List.set_cons_zero, List.set_cons_succ])
 go_cut [5] (fun v5 wc => ∃ (kq : Nat) (x5_5 : Int) (x1001_5 : Int) (x1002_5 : Int) (x1003_5 : Int), v5 = .int .i64 x5_5 ∧ Aside0 (F97.j0 kq x5_5 s0_0 x1001_5 x1002_5 x1003_5 t497 t498 t499 t500 t505 = some (r1, r2, r3, r4, r5)) ∧ Aside0 (kq ≤ k) ∧ Aside0 (wc.heap[gb496]? = some (.cells #[.string (⟨#[]⟩ : ByteArray), (.slice none 0 0)] 59 (0, 0))) ∧ Aside0 (wc.heap[gb501]? = some (.cells #[.int .i64 t497, .int .i64 t498, .int .i64 t499, .int .i64 t500] 23 (0, 0))) ∧ Aside0 (wc.heap[gb509]? = some (.cells #[.string t505, (.slice none 0 0)] 59 (0, 0))) ∧ Aside0 (IsS121 w0 wc g s0_0 x1001_5 x1002_5 x1003_5) ∧ Aside0 (KeepBut w wc g none) ∧ Aside0 (Below w0.heap.size w0 wc))
 case first =>
  have H := HC6.out
  clear HC6
  replace H := ib_ H; rcases H with ⟨rfl, H⟩ | ⟨rfl, H⟩
  rotate_left
  ·have H' := am_ H
   clear H
   go_wp2
   go_meet
   case rel => exact ⟨_, (t510), (t515), (t516), (t517), er_, H', ⟨au5_39⟩, ⟨bk_ BK496⟩, ⟨bk_ BK501⟩, ⟨bk_ BK509⟩, ⟨is5_0_⟩, ⟨au5_7⟩, ⟨au5_6⟩⟩
  replace H := bi_ H; rcases H with ⟨⟨t518, t519, t520, t521⟩, A25, H⟩
  have H' := am_ H
  clear H
  go_wp2_with (first | (go_at_call 72; (with_reducible refine (F72.calls g s0_0 t515 t516 t517 3 t518 t519 t520 t521 w0 _ ?s1 ?s2 A25.out).mono ?_); (case s1 => exact au5_1); (case s2 => exact au5_2); rintro e w26 ⟨rfl, hi, hb, hk⟩; (try clear A25); replace BK496 := ka_ hk BK496 NB496_0; replace BK501 := ka_ hk BK501 NB501_0; replace HO504 := am_ (Kd.R_mono (Kd.R_keep (IsS121.apart (is5_0_ : IsS121 w0 _ g s0_0 t515 t516 t517) (rk_ HO504) (by decide)) hk (fun _ h => h.2)) (fun _ h => h.1)); replace BK509 := ka_ hk BK509 NB509_0; replace HK := am_ (KeepBut.trans au5_0 hk (.inl rfl)); replace HB := am_ (hb); replace HI0 := am_ (hi); (try clear hb); (try clear hb2); (try clear hk); (try clear hi)))
  go_meet
  case rel => exact ⟨_, (wrap64 (9 + t518)), (t519), (t520), (t521), er_, H', ⟨au5_39⟩, ⟨bk_ BK496⟩, ⟨bk_ BK501⟩, ⟨bk_ BK509⟩, ⟨is5_0_⟩, ⟨au5_7⟩, ⟨au5_6⟩⟩
 case rest =>
  clear HC6
  try clear hcz12_0 hcz12_1 hcz12_2 hcz12_3
  try clear hcz21_0 hcz21_1
  try clear hfz12_0 hfz12_1 hfz12_2 hfz12_3
  try clear hfz21_0 hfz21_1
  obtain ⟨kq, x5_5, x1001_5, x1002_5, x1003_5, rfl, HA, HJ5, BK496, BK501, BK509, HI0, HK, HB⟩ := hcut
  cases kq with
  | zero => exact absurd HA.out (by simp [F97.j0])
  | succ kj5 =>
   have H := HA.out
   clear HA
   simp only [F97.j0] at H
   have H' := am_ H
   clear H
   go_wp2
   go_loopg [5] kj5 (fun kq v5 w' => ∃ (x5_2 : Int) (x1001_2 : Int) (x1002_2 : Int) (x1003_2 : Int) (x510001_2 : List (S102)) (u510001 : Value), v5 = .int .i64 x5_2 ∧ Aside0 (F97.l0 kq x5_2 s0_0 x1001_2 x1002_2 x1003_2 t497 t498 t499 t500 t505 x510001_2 = some (r1, r2, r3, r4, r5)) ∧ Aside0 (kq ≤ kj5) ∧ Aside0 (Kd.S k102 102 w' w.heap.size (fun _ => True) u510001 x510001_2) ∧ Aside0 (w'.heap[gb496]? = some (.cells #[.string (⟨#[]⟩ : ByteArray), (.slice none 0 0)] 59 (0, 0))) ∧ Aside0 (w'.heap[gb501]? = some (.cells #[.int .i64 t497, .int .i64 t498, .int .i64 t499, .int .i64 t500] 23 (0, 0))) ∧ Aside0 (w'.heap[gb509]? = some (.cells #[.string t505, u510001] 59 (0, 0))) ∧ Aside0 (IsS121 w0 w' g s0_0 x1001_2 x1002_2 x1003_2) ∧ Aside0 (KeepBut w w' g none) ∧ Aside0 (Below w0.heap.size w0 w'))
   case atStart => exact ⟨(x5_5), (x1001_5), (x1002_5), (x1003_5), (([] : List (S102))), (.slice none 0 0), er_, H', ⟨Nat.le_refl _⟩, ⟨by first | exact Kd.S_nil _ _ _ _ _ | exact Kd.N_nil _ _ _ _ _ | exact Kd.V_nil _ _ _ _ _ | exact Kd.Q_nil _ _ _ _ _ | exact Kd.R_nil _ _ _ _ _⟩, ⟨bk_ BK496⟩, ⟨bk_ BK501⟩, ⟨bk_ BK509⟩, ⟨is5_0_⟩, ⟨au5_7⟩, ⟨au5_6⟩⟩
   case round =>
    clear H'
    try clear hcz12_0 hcz12_1 hcz12_2 hcz12_3
    try clear hcz21_0 hcz21_1
    try clear hfz12_0 hfz12_1 hfz12_2 hfz12_3
    try clear hfz21_0 hfz21_1
    obtain ⟨x5_2, x1001_2, x1002_2, x1003_2, x510001_2, u510001, rfl, HA, HK2, HO_510001, BK496, BK501, BK509, HI0, HK, HB⟩ := hrel
    cases gk with
    | zero => exact absurd HA.out (by simp [F97.l0])
    | succ k2 =>
     have H := HA.out
     clear HA
     simp only [F97.l0] at H
     replace H := it_ H; rcases H with ⟨(c27b0 : decide (0 < x5_2) = true), H⟩ | ⟨(c27b0 : decide (0 < x5_2) = false), H⟩
     ·replace H := bi_ H; rcases H with ⟨⟨t523, t524, t525, t526⟩, A28, H⟩
      replace H := bi_ H; rcases H with ⟨⟨t527, t528, t529, t530⟩, A29, H⟩
      have H' := am_ H
      clear H
      go_wp2_with (first | ((with_reducible refine gate_dst (N := 6) rfl ?_); (try (refine gate_guard (by rfl) ?_; dsimp only)); refine be_ 6 #[.slice none 0 0] 102 ?_; intro gb522 hg w30 hbox hb; replace HO_510001 := am_ (Kd.S_below (Kd.S_elderB au5_5 gb522 (Nat.le_of_eq hg.symm)) hb); replace HB := am_ (below_step au5_3 hb); have BK522 := am_ (hbox); have GW522 := am_ ((by rw [hg]; exact (keep_size (w := w) (g := g) (row := none) au5_0) : w.heap.size ≤ gb522)); have GE522 := am_ ((Nat.le_trans HW0.out (by rw [hg]; exact (keep_size (w := w) (g := g) (row := none) au5_0) : w.heap.size ≤ gb522) : w0.heap.size ≤ gb522)); replace HK := am_ (KeepBut.trans au5_0 (KeepBut.of_below hb g none) (.inl rfl)); have NB496_522 := am_ (gn_ hg (blkl_ BK496)); have NB522_496 := am_ (gm_ hg (blkl_ BK496)); replace BK496 := bb_ BK496 hb; have NB501_522 := am_ (gn_ hg (blkl_ BK501)); have NB522_501 := am_ (gm_ hg (blkl_ BK501)); replace BK501 := bb_ BK501 hb; have NB509_522 := am_ (gn_ hg (blkl_ BK509)); have NB522_509 := am_ (gm_ hg (blkl_ BK509)); replace BK509 := bb_ BK509 hb; have NB0_522 := am_ (gn_ hg (IsS121.lt (is5_0_ : IsS121 w0 _ g s0_0 x1001_2 x1002_2 x1003_2))); have NB522_0 := am_ (gm_ hg (IsS121.lt (is5_0_ : IsS121 w0 _ g s0_0 x1001_2 x1002_2 x1003_2))); replace HI0 := am_ (IsS121.below is5_0_ hb); clear hb hbox hg; have hnb31 := NB522_496.out; have hnc31 := NB496_522.out; have hnb32 := NB522_501.out; have hnc32 := NB501_522.out; have hnb33 := NB522_509.out; have hnc33 := NB509_522.out; have hnb34 := NB522_0.out; have hnc34 := NB0_522.out; have hcz35_0 : w30.cell? ⟨gb522, 0, none⟩ = some (.slice none 0 0) := (blk_cell BK522.out 0).trans rfl; have hfz35_0 := blk_frozen BK522.out 0) | (go_at_call 72; (with_reducible refine (F72.calls g s0_0 x1001_2 x1002_2 x1003_2 2 t523 t524 t525 t526 w0 _ ?s1 ?s2 A28.out).mono ?_); (case s1 => exact au5_8); (case s2 => exact au5_9); rintro e w36 ⟨rfl, hi, hb, hk⟩; (try clear A28); replace HO_510001 := am_ (Kd.S_mono (Kd.S_keep (IsS121.apartS (is5_0_ : IsS121 w0 _ g s0_0 x1001_2 x1002_2 x1003_2) (by (with_reducible repeat (first | apply Kd.S_alloc | apply Kd.S_drewN | apply Kd.S_drew)); exact (Kd.S_mono (Kd.S_far (p := ⟨gb522, 0, none⟩) (Kd.S_mono HO_510001.out (fun k_ hk => (⟨hk, hk.2⟩ : _ ∧ k_ ≠ gb522))) (fun _ hk => hk.2) (.slice none 0 0)) (fun _ h_ => h_.1))) (by decide)) hk (fun _ h => h.2)) (fun _ h => h.1)); replace BK496 := ka_ hk BK496 NB496_0; replace BK501 := ka_ hk BK501 NB501_0; replace BK509 := ka_ hk BK509 NB509_0; replace BK522 := am_ (KeepBut.blk hk (g' := gb522) (o := .cells #[.slice none 0 0] 102 (0, 0)) (bq_ BK522) NB522_0.out (by simp)); replace HK := am_ (KeepBut.trans au5_4 hk (.inl rfl)); replace HB := am_ (hb); replace HI0 := am_ (hi); (try clear hb); (try clear hb2); (try clear hk); (try clear hi)) | (go_at_call 72; (with_reducible refine (F72.calls g s0_0 t524 t525 t526 4 t527 t528 t529 t530 w0 _ ?s1 ?s2 A29.out).mono ?_); (case s1 => exact au5_8); (case s2 => exact au5_9); rintro e w37 ⟨rfl, hi, hb, hk⟩; (try clear A29); replace HO_510001 := am_ (Kd.S_mono (Kd.S_keep (IsS121.apartS (is5_0_ : IsS121 w0 _ g s0_0 t524 t525 t526) au5_5 (by decide)) hk (fun _ h => h.2)) (fun _ h => h.1)); replace BK496 := ka_ hk BK496 NB496_0; replace BK501 := ka_ hk BK501 NB501_0; replace BK509 := ka_ hk BK509 NB509_0; replace BK522 := ka_ hk BK522 NB522_0; replace HK := am_ (KeepBut.trans au5_4 hk (.inl rfl)); replace HB := am_ (hb); replace HI0 := am_ (hi); (try clear hb); (try clear hb2); (try clear hk); (try clear hi)))
      go_loopg [7] k2 (fun kq v7 w' => ∃ (x7_3 : Int) (x1001_3 : Int) (x1002_3 : Int) (x1003_3 : Int) (x523000_3 : List ByteArray) (u523000 : Value), v7 = .int .i64 x7_3 ∧ Aside0 (F97.l1 kq x5_2 x7_3 s0_0 x1001_3 x1002_3 x1003_3 t497 t498 t499 t500 t505 x510001_2 x523000_3 = some (r1, r2, r3, r4, r5)) ∧ Aside0 (kq ≤ k2) ∧ Aside0 (Kd.S k102 102 w' w.heap.size (fun k_ => some k_ ≠ (u523000 : Value).ownBlock ∧ k_ ≠ gb522) u510001 x510001_2) ∧ Aside0 (Kd.R Kd.string 9 w' w.heap.size (fun _ => True) u523000 x523000_3) ∧ Aside0 (w'.heap[gb496]? = some (.cells #[.string (⟨#[]⟩ : ByteArray), (.slice none 0 0)] 59 (0, 0))) ∧ Aside0 (w'.heap[gb501]? = some (.cells #[.int .i64 t497, .int .i64 t498, .int .i64 t499, .int .i64 t500] 23 (0, 0))) ∧ Aside0 (w'.heap[gb509]? = some (.cells #[.string t505, u510001] 59 (0, 0))) ∧ Aside0 (w'.heap[gb522]? = some (.cells #[u523000] 102 (0, 0))) ∧ Aside0 (IsS121 w0 w' g s0_0 x1001_3 x1002_3 x1003_3) ∧ Aside0 (KeepBut w w' g none) ∧ Aside0 (Below w0.heap.size w0 w'))
      case atStart => exact ⟨(wrap64 (1 + (wrap64 (t523 * t527)))), (t528), (t529), (t530), (([] : List ByteArray)), (.slice none 0 0), er_, H', ⟨Nat.le_refl _⟩, ⟨by (with_reducible repeat (first | apply Kd.S_alloc | apply Kd.S_drewN | apply Kd.S_drew)); exact Kd.S_mono HO_510001.out (fun _ hk => ⟨(by simp [Value.ownBlock]), hk.2⟩)⟩, ⟨by first | exact Kd.R_nil _ _ _ _ _ | exact Kd.N_nil _ _ _ _ _ | exact Kd.V_nil _ _ _ _ _ | exact Kd.Q_nil _ _ _ _ _ | exact Kd.S_nil _ _ _ _ _⟩, ⟨bk_ BK496⟩, ⟨bk_ BK501⟩, ⟨bk_ BK509⟩, ⟨bk_ BK522⟩, ⟨is5_0_⟩, ⟨au5_13⟩, ⟨au5_12⟩⟩
      case round =>
       clear H'
       try clear c27b0
       try clear hcz12_0 hcz12_1 hcz12_2 hcz12_3
       try clear hcz21_0 hcz21_1
       try clear hcz35_0
       try clear hfz12_0 hfz12_1 hfz12_2 hfz12_3
       try clear hfz21_0 hfz21_1
       try clear hfz35_0
       obtain ⟨x7_3, x1001_3, x1002_3, x1003_3, x523000_3, u523000, rfl, HA, HK3, HO_510001, HO_523000, BK496, BK501, BK509, BK522, HI0, HK, HB⟩ := hrel
       cases gk with
       | zero => exact absurd HA.out (by simp [F97.l1])
       | succ k3 =>
        have H := HA.out
        clear HA
        simp only [F97.l1] at H
        replace H := it_ H; rcases H with ⟨(c38b0 : decide (0 < x7_3) = true), H⟩ | ⟨(c38b0 : decide (0 < x7_3) = false), H⟩
        ·replace H := bi_ H; rcases H with ⟨⟨t531, t532, t533, t534⟩, A39, H⟩
         replace H := bi_ H; rcases H with ⟨⟨t535, t536, t537, t538⟩, A40, H⟩
         replace H := iln_ H; rcases H with ⟨LMc41, H⟩
         obtain ⟨y539, hy539⟩ : ∃ y_ : List ByteArray, y_ = (x523000_3 ++ [t535]) := ⟨_, rfl⟩
         replace H : (F97.l1 k3 x5_2 (wrap64 (x7_3 - 1)) s0_0 t536 t537 t538 t497 t498 t499 t500 t505 x510001_2 y539) = some (r1, r2, r3, r4, r5) := by first | (rw [hy539]; exact H) | exact H
         have Ny539 := am_ hy539
         clear hy539
         have H' := am_ H
         clear H
         try go_wp2
         replace HO_510001 := am_ (Kd.S_drew HO_510001.out)
         replace HO_523000 := am_ (Kd.R_drew HO_523000.out)
         replace BK496 := bd_ BK496
         replace BK501 := bd_ BK501
         replace BK509 := bd_ BK509
         replace BK522 := bd_ BK522
         replace HI0 := am_ (IsS121.drew HI0.out)
         replace HK := am_ (keep_drew HK.out)
         replace HB := am_ (below_drew1 HB.out)
         refine start_ (n := 11) (S := fun w' => w'.cell? ⟨gb522, 0, none⟩ = some (u523000) ∧ w'.cell? ⟨gb501, 0, none⟩ = some (.int .i64 t497) ∧ w'.cell? ⟨gb501, 1, none⟩ = some (.int .i64 t498) ∧ w'.cell? ⟨gb501, 2, none⟩ = some (.int .i64 t499) ∧ w'.cell? ⟨gb501, 3, none⟩ = some (.int .i64 t500)) (ds := [10]) (bs 11 0) (by kernel_rfl) rfl rfl ⟨(blk_cell BK522.out 0).trans rfl, (blk_cell BK501.out 0).trans rfl, (blk_cell BK501.out 1).trans rfl, (blk_cell BK501.out 2).trans rfl, (blk_cell BK501.out 3).trans rfl⟩ (fun hHeld => ?_); refine with_tabW F97.tab12 F97.bits12 (fun HT_ HW_ => ?_)
         generalize wr.drew = w42 at HO_510001 HO_523000 BK496 BK501 BK509 BK522 HI0 HK HB hHeld ⊢
         refine pu_ 0 35 (bs 11 1) HT_ ?_ rfl rfl
         refine pu_ 2 37 (bs 11 5) HT_ ?_ rfl rfl
         refine pu_ 4 39 (bs 11 21) HT_ ?_ rfl rfl
         refine tk_ 1 36 (bs 11 23) HT_ HW_ hHeld au5_34 ?_ rfl rfl
         refine tk_ 3 38 (bs 11 31) HT_ HW_ hHeld au5_34 ?_ rfl rfl
         refine one_ (i := 5) (N := some 40) (bs 11 63) rfl rfl (one_of HT_.out (by kernel_rfl)) (by decide) (fun K hK => ?_)
         refine gr_ Try.func72 #[.pointer (some ⟨g, 0, none⟩), .int .i64 6] (by rfl) ?_ rfl rfl rfl
         with_reducible refine (F72.calls g s0_0 x1001_3 x1002_3 x1003_3 6 t531 t532 t533 t534 w0 _ ?s1 ?s2 A39.out).mono ?_
         (case s1 => exact au5_8)
         (case s2 => exact au5_9)
         rintro e w43 ⟨rfl, hi, hb, hk⟩
         refine ⟨_, rfl, ?_⟩
         replace HO_510001 := am_ (Kd.S_mono (Kd.S_keep (IsS121.apartS (is5_0_ : IsS121 w0 _ g s0_0 x1001_3 x1002_3 x1003_3) au5_5 (by decide)) hk (fun _ h => h.2)) (fun _ h => h.1))
         replace HO_523000 := am_ (Kd.R_mono (Kd.R_keep (IsS121.apart (is5_0_ : IsS121 w0 _ g s0_0 x1001_3 x1002_3 x1003_3) (rk_ HO_523000) (by decide)) hk (fun _ h => h.2)) (fun _ h => h.1))
         replace BK496 := ka_ hk BK496 NB496_0
         replace BK501 := ka_ hk BK501 NB501_0
         replace BK509 := ka_ hk BK509 NB509_0
         replace BK522 := ka_ hk BK522 NB522_0
         replace HK := am_ (KeepBut.trans au5_4 hk (.inl rfl))
         replace HB := am_ (hb)
         replace HI0 := am_ (hi)
         (try clear hb)
         (try clear hb2)
         (try clear hk)
         (try clear hi)
         refine hK.out _ _ ⟨(blk_cell BK522.out 0).trans rfl, (blk_cell BK501.out 0).trans rfl, (blk_cell BK501.out 1).trans rfl, (blk_cell BK501.out 2).trans rfl, (blk_cell BK501.out 3).trans rfl⟩ (fun hHeld => ?_)
         clear hK K
         refine no_ 40 ?_
         refine one_ (i := 6) (N := some 41) (bs 11 127) rfl rfl (one_of HT_.out (by kernel_rfl)) (by decide) (fun K hK => ?_)
         refine gr_ Try.func71 #[.pointer (some ⟨g, 0, none⟩), .agg #[.int .i64 t497, .int .i64 t498, .int .i64 t499, .int .i64 t500], .int .i64 t531] (by rfl) ?_ rfl rfl rfl
         with_reducible refine (F71.calls k3 g s0_0 t532 t533 t534 t497 t498 t499 t500 t531 t535 t536 t537 t538 w0 _ ?s1 ?s2 A40.out).mono ?_
         (case s1 => exact au5_8)
         (case s2 => exact au5_9)
         rintro e w44 ⟨rfl, hi, hb, hk⟩
         refine ⟨_, rfl, ?_⟩
         replace HO_510001 := am_ (Kd.S_mono (Kd.S_keep (IsS121.apartS (is5_0_ : IsS121 w0 _ g s0_0 t532 t533 t534) au5_5 (by decide)) hk (fun _ h => h.2)) (fun _ h => h.1))
         replace HO_523000 := am_ (Kd.R_mono (Kd.R_keep (IsS121.apart (is5_0_ : IsS121 w0 _ g s0_0 t532 t533 t534) (rk_ HO_523000) (by decide)) hk (fun _ h => h.2)) (fun _ h => h.1))
         replace BK496 := ka_ hk BK496 NB496_0
         replace BK501 := ka_ hk BK501 NB501_0
         replace BK509 := ka_ hk BK509 NB509_0
         replace BK522 := ka_ hk BK522 NB522_0
         replace HK := am_ (KeepBut.trans au5_4 hk (.inl rfl))
         replace HB := am_ (hb)
         replace HI0 := am_ (hi)
         (try clear hb)
         (try clear hb2)
         (try clear hk)
         (try clear hi)
         refine hK.out _ _ ⟨(blk_cell BK522.out 0).trans rfl, (blk_cell BK501.out 0).trans rfl, (blk_cell BK501.out 1).trans rfl, (blk_cell BK501.out 2).trans rfl, (blk_cell BK501.out 3).trans rfl⟩ (fun hHeld => ?_)
         clear hK K
         refine no_ 41 ?_
         refine one_ (i := 7) (N := some 42) (bs 11 255) rfl rfl (one_of HT_.out (by kernel_rfl)) (by decide) (fun K hK => ?_)
         refine value_ (w1 := ?_) (v := ?_) (by rfl) rfl ?_ ?_
         rotate_left 2
         ·go_simp
          constructor
          ·rfl
          ·rfl
         refine hK.out _ _ ⟨(blk_cell (blk_alloc BK522.out _) 0).trans rfl, (blk_cell (blk_alloc BK501.out _) 0).trans rfl, (blk_cell (blk_alloc BK501.out _) 1).trans rfl, (blk_cell (blk_alloc BK501.out _) 2).trans rfl, (blk_cell (blk_alloc BK501.out _) 3).trans rfl⟩ (fun hHeld => ?_)
         clear hK K
         refine no_ 42 ?_
         refine one_ (i := 8) (N := some 43) (bs 11 511) rfl rfl (one_of HT_.out (by kernel_rfl)) (by decide) (fun K hK => ?_)
         refine Kd.R_append_step Kd.string w.heap.size (by rfl) (.tmp 36) (.tmp 42) 41 9 (.string ⟨#[]⟩) 16 rfl Try.underlying41 info9 rfl (by decide) (by omega) u523000 x523000_3 t535 [.string t535] (fun _ => True) (fun _ => False) rfl rfl ?aP (fun _ hk => hk.elim) ?aF ?aO (Below.refl _ _) ?aS ?aL ?_
         (case aP => exact rfl)
         (case aF => exact (fun _ _ => trivial))
         (case aO => exact (rk_ HO_523000))
         (case aS => exact au5_38)
         (case aL => have := LMc41.out; omega)
         intro v540 w45 ho hb hg hat
         rw [← Ny539.out] at ho
         have n0_ := am_ (Kd.S_after (ok := (fun k_ => k_ ≠ gb522)) (by (with_reducible repeat (first | apply Kd.S_alloc | apply Kd.S_drewN | apply Kd.S_drew)); exact Kd.S_mono HO_510001.out (fun _ hk => ⟨hk.2, hk.1⟩)) hg hat)
         have n1_ := am_ (bg_ BK496 hg (Kd.R_ne HO_523000.out BK496.out (by decide)))
         have n2_ := am_ (bg_ BK501 hg (Kd.R_ne HO_523000.out BK501.out (by decide)))
         have n3_ := am_ (bg_ BK509 hg (Kd.R_ne HO_523000.out BK509.out (by decide)))
         have n4_ := am_ (bg_ BK522 hg (Kd.R_ne HO_523000.out BK522.out (by decide)))
         have n5_ := am_ (IsS121.grown is5_0_ hg (IsS121.own_ne HI0.out HO_523000.out (by decide)))
         have n6_ := am_ (below_weaken au5_15 HL.out hb)
         have n7_ := am_ (KeepBut.trans au5_4 (KeepBut.of_grown hg g) (Kd.R_base2 HO_523000.out))
         have n8_ := am_ (ho)
         clear HO_510001
         clear BK496
         clear BK501
         clear BK509
         clear BK522
         clear HI0
         clear HB
         clear HK
         clear HO_523000
         have HO_510001 := n0_
         have BK496 := n1_
         have BK501 := n2_
         have BK509 := n3_
         have BK522 := n4_
         have HI0 := n5_
         have HB := n6_
         have HK := n7_
         have HO541 := n8_
         clear n0_ n1_ n2_ n3_ n4_ n5_ n6_ n7_ n8_
         clear ho hb hg hat
         obtain ⟨Ao46, co46, eo46⟩ := Kd.R_slice HO541.out
         (first | subst eo46 | (injection eo46 with f1_ f2_ f3_; have f4_ := f1_.symm; have f5_ := f3_.symm; clear f1_ f2_ f3_; subst f4_; subst f5_))
         refine hK.out _ _ ⟨(blk_cell BK522.out 0).trans rfl, (blk_cell BK501.out 0).trans rfl, (blk_cell BK501.out 1).trans rfl, (blk_cell BK501.out 2).trans rfl, (blk_cell BK501.out 3).trans rfl⟩ (fun hHeld => ?_)
         clear hK K
         refine no_ 43 ?_
         refine pu_ 9 44 (bs 11 1023) HT_ ?_ rfl rfl
         refine last_ (i := 10) (N := none) (bs 11 2047) rfl rfl (one_of HT_.out (by kernel_rfl)) (by decide) (fun K hK => ?_)
         have hs47 : w45.cell? ⟨gb522, 0, none⟩ = some (u523000) := (blk_cell BK522.out 0).trans rfl
         have hfs47 := blk_frozen BK522.out 0
         have hns47_0 := NB496_522.out
         have hns47_1 := NB501_522.out
         have hns47_2 := NB509_522.out
         have hms47_0 := NB522_496.out
         have hms47_1 := NB522_501.out
         have hms47_2 := NB522_509.out
         refine skip_ (w1 := ?_) (by rfl) rfl ?_ ?_
         rotate_left
         ·go_simp
          rfl
         refine hK.out _ _ ?_
         clear hK K
         refine done_ (done_of HT_.out (by kernel_rfl)) ?_
         try go_wp2
         go_roundg k3
         case measure => have := HJ5.out; have := HK2.out; have := HK3.out; omega
         case rel => exact ⟨(wrap64 (x7_3 - 1)), (t536), (t537), (t538), (y539), (.slice Ao46 y539.length co46), er_, H', ⟨au5_35⟩, ⟨by (with_reducible repeat (first | apply Kd.S_alloc | apply Kd.S_drewN | apply Kd.S_drew)); exact Kd.S_mono (Kd.S_far (p := ⟨gb522, 0, none⟩) (Kd.S_mono HO_510001.out (fun k_ hk => (⟨hk, hk.1⟩ : _ ∧ k_ ≠ gb522))) (fun _ hk => hk.2) (.slice Ao46 y539.length co46)) (fun _ hk => ⟨hk.1.2, hk.1.1⟩)⟩, ⟨by (with_reducible repeat (first | apply Kd.R_alloc | apply Kd.R_drewN | apply Kd.R_drew)); exact Kd.R_mono (Kd.R_far (p := ⟨gb522, 0, none⟩) (Kd.R_types HO541.out BK522.out (by decide)) (fun _ hk => hk.2) (.slice Ao46 y539.length co46)) (fun _ hk => trivial)⟩, ⟨bf_ BK496⟩, ⟨bf_ BK501⟩, ⟨bf_ BK509⟩, ⟨bq_ BK522⟩, ⟨is5_0_⟩, ⟨au5_13⟩, ⟨au5_12⟩⟩
        replace H := bi_ H; rcases H with ⟨⟨t542, t543, t544, t545⟩, A48, H⟩
        replace H := ib_ H; rcases H with ⟨rfl, H⟩ | ⟨rfl, H⟩
        rotate_left
        ·replace H := iln_ H; rcases H with ⟨LMc73, H⟩
         obtain ⟨y558, hy558⟩ : ∃ y_ : List (S102), y_ = (x510001_2 ++ [(⟨x523000_3⟩ : S102)]) := ⟨_, rfl⟩
         replace H : (F97.l0 k3 (wrap64 (x5_2 - 1)) s0_0 t543 t544 t545 t497 t498 t499 t500 t505 y558) = some (r1, r2, r3, r4, r5) := by first | (rw [hy558]; exact H) | exact H
         have Ny558 := am_ hy558
         clear hy558
         have H' := am_ H
         clear H
         go_wp2_with (first | (go_at_call 98; (with_reducible refine (F98.calls g s0_0 x1001_3 x1002_3 x1003_3 60 false t543 t544 t545 w0 _ ?s1 ?s2 A48.out).mono ?_); (case s1 => exact au5_8); (case s2 => exact au5_9); rintro e w74 ⟨rfl, hi, hb, hk⟩; (try clear A48); replace HO_510001 := am_ (Kd.S_mono (Kd.S_keep (IsS121.apartS (is5_0_ : IsS121 w0 _ g s0_0 x1001_3 x1002_3 x1003_3) au5_5 (by decide)) hk (fun _ h => h.2)) (fun _ h => h.1)); replace HO_523000 := am_ (Kd.R_mono (Kd.R_keep (IsS121.apart (is5_0_ : IsS121 w0 _ g s0_0 x1001_3 x1002_3 x1003_3) (rk_ HO_523000) (by decide)) hk (fun _ h => h.2)) (fun _ h => h.1)); replace BK496 := ka_ hk BK496 NB496_0; replace BK501 := ka_ hk BK501 NB501_0; replace BK509 := ka_ hk BK509 NB509_0; replace BK522 := ka_ hk BK522 NB522_0; replace HK := am_ (KeepBut.trans au5_4 hk (.inl rfl)); replace HB := am_ (hb); replace HI0 := am_ (hi); (try clear hb); (try clear hb2); (try clear hk); (try clear hi); have hnb75 := NB509_496.out; have hnc75 := NB496_509.out; have hnb76 := NB509_501.out; have hnc76 := NB501_509.out; have hnb77 := NB509_522.out; have hnc77 := NB522_509.out; have hnb78 := NB509_0.out; have hnc78 := NB0_509.out; obtain ⟨hcz79_0, hcz79_1, hfz79_0, hfz79_1⟩ := cellsF2 BK509.out; have hnb80 := NB522_496.out; have hnc80 := NB496_522.out; have hnb81 := NB522_501.out; have hnc81 := NB501_522.out; have hnb82 := NB522_0.out; have hnc82 := NB0_522.out; have hcz83_0 : w74.cell? ⟨gb522, 0, none⟩ = some (u523000) := (blk_cell BK522.out 0).trans rfl; have hfz83_0 := blk_frozen BK522.out 0; obtain ⟨Ao85, co85, eo85⟩ := Kd.R_slice HO_523000.out; subst eo85) | ((with_reducible refine gate_builtin (b := .append) (xs := #[.tmp 57, .tmp 59]) rfl ?_); (try (refine gate_guard (by rfl) ?_; dsimp only)); at_builtin; refine Kd.S_append k102 w.heap.size rfl (.tmp 57) (.tmp 59) 57 102 (.agg #[(.slice none 0 0)]) 24 rfl Try.underlying57 info102 rfl (by decide) (by omega) u510001 x510001_2 (⟨x523000_3⟩ : S102) [.slice Ao85 x523000_3.length co85] (fun k_ => k_ ≠ gb522) (fun k_ => some k_ = (.slice Ao85 x523000_3.length co85 : Value).ownBlock) rfl rfl ?aP (fun k_ hk_ => ((Kd.R_mono (ok' := fun k_ => ((fun k_ => k_ ≠ gb522)) k_ ∧ some k_ ≠ (u510001 : Value).ownBlock) (Kd.R_types (Kd.R_apart' (HO_523000.out) (Kd.S_typed HO_510001.out) (by decide)) BK522.out (by decide)) (fun k_ hk => ⟨hk.2, hk.1.2⟩))).1 k_ hk_.symm) ?aF ?aO (Below.refl _ _) ?aS ?aL ?_; (case aP => exact k102_mkM _ _ _ (⟨x523000_3⟩ : S102) (Kd.R_mono (Kd.R_tight rfl (Kd.R_mono (ok' := fun k_ => ((fun k_ => k_ ≠ gb522)) k_ ∧ some k_ ≠ (u510001 : Value).ownBlock) (Kd.R_types (Kd.R_apart' (HO_523000.out) (Kd.S_typed HO_510001.out) (by decide)) BK522.out (by decide)) (fun k_ hk => ⟨hk.2, hk.1.2⟩))) (fun _ h_ => h_))); (case aF => exact (fun k_ hk => Kd.freshB (g := gb522) (o := .cells #[.slice Ao85 x523000_3.length co85] 102 (0, 0)) (bk_ BK522) k_ hk)); (case aO => exact au5_32); (case aS => exact au5_38); (case aL => have := LMc73.out; omega); intro v559 w84 ho hb hg hat; rw [← Ny558.out] at ho; have n0_ := am_ (bg_ BK496 hg (Kd.S_ne HO_510001.out BK496.out (by decide))); have n1_ := am_ (bg_ BK501 hg (Kd.S_ne HO_510001.out BK501.out (by decide))); have n2_ := am_ (bg_ BK509 hg (Kd.S_ne HO_510001.out BK509.out (by decide))); have n3_ := am_ (bg_ BK522 hg (Kd.S_away HO_510001.out (fun _ hk => hk.2))); have n4_ := am_ (IsS121.grown is5_0_ hg (IsS121.own_neS HI0.out HO_510001.out (by decide))); have n5_ := am_ (below_weaken au5_15 HL.out hb); have n6_ := am_ (KeepBut.trans au5_4 (KeepBut.of_grown hg g) (Kd.S_base2 HO_510001.out)); have n7_ := am_ (ho); clear BK496; clear BK501; clear BK509; clear BK522; clear HI0; clear HB; clear HK; clear HO_510001; clear HO_523000; have BK496 := n0_; have BK501 := n1_; have BK509 := n2_; have BK522 := n3_; have HI0 := n4_; have HB := n5_; have HK := n6_; have HO560 := n7_; clear n0_ n1_ n2_ n3_ n4_ n5_ n6_ n7_; clear ho hb hg hat; obtain ⟨Ao86, co86, eo86⟩ := Kd.S_slice HO560.out; subst eo86; obtain ⟨hcz87_0, hcz87_1, hfz87_0, hfz87_1⟩ := cellsF2 BK509.out))
         go_roundg k3
         case measure => have := HJ5.out; have := HK2.out; have := HK3.out; omega
         case rel => exact ⟨(wrap64 (x5_2 - 1)), (t543), (t544), (t545), (y558), (.slice Ao86 y558.length co86), er_, H', ⟨au5_35⟩, ⟨by (with_reducible repeat (first | apply Kd.S_alloc | apply Kd.S_drewN | apply Kd.S_drew)); exact Kd.S_mono (Kd.S_far (p := ⟨gb509, 1, none⟩) (Kd.S_types HO560.out BK509.out (by decide)) (fun _ hk => hk.2) (.slice Ao86 y558.length co86)) (fun _ hk => trivial)⟩, ⟨bf_ BK496⟩, ⟨bf_ BK501⟩, ⟨bq_ BK509⟩, ⟨is5_0_⟩, ⟨au5_13⟩, ⟨au5_12⟩⟩
        replace H := bi_ H; rcases H with ⟨⟨t546, t547, t548, t549⟩, A50, H⟩
        replace H := bi_ H; rcases H with ⟨⟨t550, t551, t552, t553⟩, A51, H⟩
        replace H := itn_ H; rcases H with ⟨c52b0, H⟩
        have c52b1 : decide (0 < x523000_3.length) = true := n2_ c52b0
        obtain ⟨y554, hy554⟩ : ∃ y_ : List ByteArray, y_ = (x523000_3.set (0 : Int).toNat t550) := ⟨_, rfl⟩
        replace H : (if x510001_2.length < 5864062014805 then (F97.l0 k3 (wrap64 (x5_2 - 1)) s0_0 t551 t552 t553 t497 t498 t499 t500 t505 (x510001_2 ++ [(⟨y554⟩ : S102)])) else (none)) = some (r1, r2, r3, r4, r5) := by first | (rw [hy554]; exact H) | exact H
        have Ny554 := am_ hy554
        clear hy554
        replace H := iln_ H; rcases H with ⟨LMc54, H⟩
        obtain ⟨y555, hy555⟩ : ∃ y_ : List (S102), y_ = (x510001_2 ++ [(⟨y554⟩ : S102)]) := ⟨_, rfl⟩
        replace H : (F97.l0 k3 (wrap64 (x5_2 - 1)) s0_0 t551 t552 t553 t497 t498 t499 t500 t505 y555) = some (r1, r2, r3, r4, r5) := by first | (rw [hy555]; exact H) | exact H
        have Ny555 := am_ hy555
        clear hy555
        have H' := am_ H
        clear H
        try go_wp2_with (first | (go_at_call 98; (with_reducible refine (F98.calls g s0_0 x1001_3 x1002_3 x1003_3 60 true t543 t544 t545 w0 _ ?s1 ?s2 A48.out).mono ?_); (case s1 => exact au5_8); (case s2 => exact au5_9); rintro e w55 ⟨rfl, hi, hb, hk⟩; (try clear A48); replace HO_510001 := am_ (Kd.S_mono (Kd.S_keep (IsS121.apartS (is5_0_ : IsS121 w0 _ g s0_0 x1001_3 x1002_3 x1003_3) au5_5 (by decide)) hk (fun _ h => h.2)) (fun _ h => h.1)); replace HO_523000 := am_ (Kd.R_mono (Kd.R_keep (IsS121.apart (is5_0_ : IsS121 w0 _ g s0_0 x1001_3 x1002_3 x1003_3) (rk_ HO_523000) (by decide)) hk (fun _ h => h.2)) (fun _ h => h.1)); replace BK496 := ka_ hk BK496 NB496_0; replace BK501 := ka_ hk BK501 NB501_0; replace BK509 := ka_ hk BK509 NB509_0; replace BK522 := ka_ hk BK522 NB522_0; replace HK := am_ (KeepBut.trans au5_4 hk (.inl rfl)); replace HB := am_ (hb); replace HI0 := am_ (hi); (try clear hb); (try clear hb2); (try clear hk); (try clear hi)))
        replace HO_510001 := am_ (Kd.S_drew HO_510001.out)
        replace HO_523000 := am_ (Kd.R_drew HO_523000.out)
        replace BK496 := bd_ BK496
        replace BK501 := bd_ BK501
        replace BK509 := bd_ BK509
        replace BK522 := bd_ BK522
        replace HI0 := am_ (IsS121.drew HI0.out)
        replace HK := am_ (keep_drew HK.out)
        replace HB := am_ (below_drew1 HB.out)
        refine start_ (n := 10) (S := fun w' => w'.cell? ⟨gb522, 0, none⟩ = some (u523000) ∧ w'.cell? ⟨gb501, 0, none⟩ = some (.int .i64 t497) ∧ w'.cell? ⟨gb501, 1, none⟩ = some (.int .i64 t498) ∧ w'.cell? ⟨gb501, 2, none⟩ = some (.int .i64 t499) ∧ w'.cell? ⟨gb501, 3, none⟩ = some (.int .i64 t500)) (ds := [9]) (bs 10 0) (by kernel_rfl) rfl rfl ⟨(blk_cell BK522.out 0).trans rfl, (blk_cell BK501.out 0).trans rfl, (blk_cell BK501.out 1).trans rfl, (blk_cell BK501.out 2).trans rfl, (blk_cell BK501.out 3).trans rfl⟩ (fun hHeld => ?_); refine with_tabW F97.tab14 F97.bits14 (fun HT_ HW_ => ?_)
        generalize w55.drew = w56 at HO_510001 HO_523000 BK496 BK501 BK509 BK522 HI0 HK HB hHeld ⊢
        refine pu_ 0 47 (bs 10 1) HT_ ?_ rfl rfl
        refine pu_ 2 49 (bs 10 5) HT_ ?_ rfl rfl
        refine pu_ 4 51 (bs 10 21) HT_ ?_ rfl rfl
        refine tk_ 1 48 (bs 10 23) HT_ HW_ hHeld au5_34 ?_ rfl rfl
        refine tk_ 3 50 (bs 10 31) HT_ HW_ hHeld au5_34 ?_ rfl rfl
        refine one_ (i := 5) (N := some 52) (bs 10 63) rfl rfl (one_of HT_.out (by kernel_rfl)) (by decide) (fun K hK => ?_)
        refine gr_ Try.func72 #[.pointer (some ⟨g, 0, none⟩), .int .i64 3] (by rfl) ?_ rfl rfl rfl
        with_reducible refine (F72.calls g s0_0 t543 t544 t545 3 t546 t547 t548 t549 w0 _ ?s1 ?s2 A50.out).mono ?_
        (case s1 => exact au5_8)
        (case s2 => exact au5_9)
        rintro e w57 ⟨rfl, hi, hb, hk⟩
        refine ⟨_, rfl, ?_⟩
        replace HO_510001 := am_ (Kd.S_mono (Kd.S_keep (IsS121.apartS (is5_0_ : IsS121 w0 _ g s0_0 t543 t544 t545) au5_5 (by decide)) hk (fun _ h => h.2)) (fun _ h => h.1))
        replace HO_523000 := am_ (Kd.R_mono (Kd.R_keep (IsS121.apart (is5_0_ : IsS121 w0 _ g s0_0 t543 t544 t545) (rk_ HO_523000) (by decide)) hk (fun _ h => h.2)) (fun _ h => h.1))
        replace BK496 := ka_ hk BK496 NB496_0
        replace BK501 := ka_ hk BK501 NB501_0
        replace BK509 := ka_ hk BK509 NB509_0
        replace BK522 := ka_ hk BK522 NB522_0
        replace HK := am_ (KeepBut.trans au5_4 hk (.inl rfl))
        replace HB := am_ (hb)
        replace HI0 := am_ (hi)
        (try clear hb)
        (try clear hb2)
        (try clear hk)
        (try clear hi)
        refine hK.out _ _ ⟨(blk_cell BK522.out 0).trans rfl, (blk_cell BK501.out 0).trans rfl, (blk_cell BK501.out 1).trans rfl, (blk_cell BK501.out 2).trans rfl, (blk_cell BK501.out 3).trans rfl⟩ (fun hHeld => ?_)
        clear hK K
        refine no_ 52 ?_
        refine pu_ 6 53 (bs 10 127) HT_ ?_ rfl rfl
        refine one_ (i := 7) (N := some 54) (bs 10 255) rfl rfl (one_of HT_.out (by kernel_rfl)) (by decide) (fun K hK => ?_)
        refine gr_ Try.func71 #[.pointer (some ⟨g, 0, none⟩), .agg #[.int .i64 t497, .int .i64 t498, .int .i64 t499, .int .i64 t500], .int .i64 (wrap64 (39 + t546))] (by rfl) ?_ rfl rfl rfl
        with_reducible refine (F71.calls k3 g s0_0 t547 t548 t549 t497 t498 t499 t500 (wrap64 (39 + t546)) t550 t551 t552 t553 w0 _ ?s1 ?s2 A51.out).mono ?_
        (case s1 => exact au5_8)
        (case s2 => exact au5_9)
        rintro e w58 ⟨rfl, hi, hb, hk⟩
        refine ⟨_, rfl, ?_⟩
        replace HO_510001 := am_ (Kd.S_mono (Kd.S_keep (IsS121.apartS (is5_0_ : IsS121 w0 _ g s0_0 t547 t548 t549) au5_5 (by decide)) hk (fun _ h => h.2)) (fun _ h => h.1))
        replace HO_523000 := am_ (Kd.R_mono (Kd.R_keep (IsS121.apart (is5_0_ : IsS121 w0 _ g s0_0 t547 t548 t549) (rk_ HO_523000) (by decide)) hk (fun _ h => h.2)) (fun _ h => h.1))
        replace BK496 := ka_ hk BK496 NB496_0
        replace BK501 := ka_ hk BK501 NB501_0
        replace BK509 := ka_ hk BK509 NB509_0
        replace BK522 := ka_ hk BK522 NB522_0
        replace HK := am_ (KeepBut.trans au5_4 hk (.inl rfl))
        replace HB := am_ (hb)
        replace HI0 := am_ (hi)
        (try clear hb)
        (try clear hb2)
        (try clear hk)
        (try clear hi)
        have p53 : 0 ≤ (0 : Int) := (by omega)
        have q53 : (0 : Int) < ((x523000_3.length : Int) : Int) := od_
        have qi53 : (0 < x523000_3.length) = True := eq_true (by omega)
        obtain ⟨go53, co53, eo53, gb53, gl53, cl53, HG53⟩ := Kd.R_form HO_523000.out (by omega)
        (first | cases eo53 | (injection eo53 with ea_ en_ ec_; (first | subst ea_ | (injection ea_ with ea_; subst ea_)); subst ec_; clear en_))
        have GB53 := am_ gb53
        have GG53 := am_ HG53
        clear gb53 gl53 HG53
        obtain ⟨hx53_0, hf53_0⟩ := Kd.R_celln (⟨#[]⟩ : ByteArray) HO_523000.out (0 : Int) p53 q53
        (try rw [show ((0 : Int)).toNat = 0 from rfl] at hx53_0)
        (try simp only [Nat.reduceMul, Nat.zero_mul, Nat.zero_add, Nat.reduceAdd] at hx53_0)
        (try rw [show ((0 : Int)).toNat = 0 from rfl] at hf53_0)
        (try simp only [Nat.reduceMul, Nat.zero_mul, Nat.zero_add, Nat.reduceAdd] at hf53_0)
        replace p53 := eq_true p53
        replace q53 := eq_true q53
        have HN0_go53 := am_ (show g ≠ go53 from by have h_ := IsS121.own_ne HI0.out HO_523000.out (by decide); intro e_; exact h_ (by rw [e_]; rfl))
        have HP59 := Kd.R_putn HO_523000.out (0 : Int) t550
        rw [← Ny554.out] at HP59
        have HQ59 := am_ HP59
        clear HP59
        refine hK.out _ _ ⟨(blk_cell BK522.out 0).trans rfl, (blk_cell BK501.out 0).trans rfl, (blk_cell BK501.out 1).trans rfl, (blk_cell BK501.out 2).trans rfl, (blk_cell BK501.out 3).trans rfl⟩ (fun hHeld => ?_)
        clear hK K
        refine no_ 54 ?_
        refine pu_ 8 55 (bs 10 511) HT_ ?_ rfl rfl
        refine last_ (i := 9) (N := none) (bs 10 1023) rfl rfl (one_of HT_.out (by kernel_rfl)) (by decide) (fun K hK => ?_)
        refine skip_ (w1 := ?_) (by rfl) rfl ?_ ?_
        rotate_left
        ·go_simp
         rfl
        refine hK.out _ _ ?_
        clear hK K
        refine done_ (done_of HT_.out (by kernel_rfl)) ?_
        have n0_ : Aside0 (Kd.S k102 102 (w58.setCell ⟨go53, 0, none⟩ (.string t550)) w.heap.size (fun k_ => some k_ ≠ (.slice (some ⟨go53, 0, none⟩) x523000_3.length co53 : Value).ownBlock ∧ k_ ≠ gb522) u510001 x510001_2) := ⟨by (with_reducible repeat (first | apply Kd.S_alloc | apply Kd.S_drewN | apply Kd.S_drew)); exact Kd.S_mono (Kd.S_far (p := ⟨go53, 0, none⟩) (Kd.S_mono HO_510001.out (fun k_ hk => (⟨hk, fun e_ => hk.1 (by rw [e_]; rfl)⟩ : _ ∧ k_ ≠ go53))) (fun _ hk => hk.2) (.string t550)) (fun _ hk => ⟨hk.1.1, hk.1.2⟩)⟩
        have n1_ : Aside0 (Kd.R Kd.string 9 (w58.setCell ⟨go53, 0, none⟩ (.string t550)) w.heap.size (fun _ => True) (.slice (some ⟨go53, 0, none⟩) x523000_3.length co53) y554) := ⟨by (with_reducible repeat (first | apply Kd.R_alloc | apply Kd.R_drewN | apply Kd.R_drew)); exact HQ59.out⟩
        have n2_ : Aside0 ((w58.setCell ⟨go53, 0, none⟩ (.string t550)).heap[gb496]? = some (.cells #[.string (⟨#[]⟩ : ByteArray), .slice none 0 0] 59 (0, 0))) := ⟨by (with_reducible repeat (first | refine blk_drewN ?_ _ | refine blk_drew ?_ | refine blk_alloc ?_ _)); refine blk_far ?_ (by have h_ := Kd.R_ne HO_523000.out BK496.out (by decide); intro e_; exact h_ (by rw [e_]; rfl)) _; (with_reducible repeat (first | refine blk_drewN ?_ _ | refine blk_drew ?_ | refine blk_alloc ?_ _)); exact BK496.out⟩
        have n3_ : Aside0 ((w58.setCell ⟨go53, 0, none⟩ (.string t550)).heap[gb501]? = some (.cells #[.int .i64 t497, .int .i64 t498, .int .i64 t499, .int .i64 t500] 23 (0, 0))) := ⟨by (with_reducible repeat (first | refine blk_drewN ?_ _ | refine blk_drew ?_ | refine blk_alloc ?_ _)); refine blk_far ?_ (by have h_ := Kd.R_ne HO_523000.out BK501.out (by decide); intro e_; exact h_ (by rw [e_]; rfl)) _; (with_reducible repeat (first | refine blk_drewN ?_ _ | refine blk_drew ?_ | refine blk_alloc ?_ _)); exact BK501.out⟩
        have n4_ : Aside0 ((w58.setCell ⟨go53, 0, none⟩ (.string t550)).heap[gb509]? = some (.cells #[.string t505, u510001] 59 (0, 0))) := ⟨by (with_reducible repeat (first | refine blk_drewN ?_ _ | refine blk_drew ?_ | refine blk_alloc ?_ _)); refine blk_far ?_ (by have h_ := Kd.R_ne HO_523000.out BK509.out (by decide); intro e_; exact h_ (by rw [e_]; rfl)) _; (with_reducible repeat (first | refine blk_drewN ?_ _ | refine blk_drew ?_ | refine blk_alloc ?_ _)); exact BK509.out⟩
        have n5_ : Aside0 ((w58.setCell ⟨go53, 0, none⟩ (.string t550)).heap[gb522]? = some (.cells #[.slice (some ⟨go53, 0, none⟩) x523000_3.length co53] 102 (0, 0))) := ⟨by (with_reducible repeat (first | refine blk_drewN ?_ _ | refine blk_drew ?_ | refine blk_alloc ?_ _)); refine blk_far ?_ (by have h_ := Kd.R_ne HO_523000.out BK522.out (by decide); intro e_; exact h_ (by rw [e_]; rfl)) _; (with_reducible repeat (first | refine blk_drewN ?_ _ | refine blk_drew ?_ | refine blk_alloc ?_ _)); exact BK522.out⟩
        have n6_ : Aside0 (IsS121 w0 (w58.setCell ⟨go53, 0, none⟩ (.string t550)) g s0_0 t551 t552 t553) := ⟨by repeat (first | (with_reducible first | exact HI0.out | apply IsS121.alloc | apply IsS121.drewN | apply IsS121.drew | apply IsS121.set_1 | apply IsS121.set_2 | apply IsS121.set_3 | refine IsS121.far ?_ HN0_go53.out _ | refine IsS121.far ?_ NB0_496.out _ | refine IsS121.far ?_ NB0_501.out _ | refine IsS121.far ?_ NB0_509.out _ | refine IsS121.far ?_ NB0_522.out _) | exact HI0.out)⟩
        have n7_ : Aside0 (KeepBut w (w58.setCell ⟨go53, 0, none⟩ (.string t550)) g none) := ⟨by repeat (first | (with_reducible first | exact HK.out | apply KeepBut.set_ | apply keep_drewN | apply keep_drew | apply keep_alloc | refine keep_far ?_ GB53.out _ | refine keep_far ?_ GW496.out _ | refine keep_far ?_ GW501.out _ | refine keep_far ?_ GW509.out _ | refine keep_far ?_ GW522.out _) | exact HK.out)⟩
        have n8_ : Aside0 (Below w0.heap.size w0 (w58.setCell ⟨go53, 0, none⟩ (.string t550))) := ⟨by repeat (first | (with_reducible first | exact HB.out | apply below_alloc | apply pw_below_drewN | apply below_drew1 | refine below_set ?_ (Nat.le_trans HL.out GB53.out) | refine below_set ?_ (IsS121.ge HI0.out) | refine below_set ?_ GE496.out | refine below_set ?_ GE501.out | refine below_set ?_ GE509.out | refine below_set ?_ GE522.out) | exact HB.out)⟩
        (try clear HO_510001)
        (try clear HO_523000)
        (try clear BK496)
        (try clear BK501)
        (try clear BK509)
        (try clear BK522)
        (try clear HI0)
        (try clear HK)
        (try clear HB)
        generalize (w58.setCell ⟨go53, 0, none⟩ (.string t550)) = w60 at n0_ n1_ n2_ n3_ n4_ n5_ n6_ n7_ n8_ ⊢
        have HO_510001 := n0_
        have HO_523000 := n1_
        have BK496 := n2_
        have BK501 := n3_
        have BK509 := n4_
        have BK522 := n5_
        have HI0 := n6_
        have HK := n7_
        have HB := n8_
        clear n0_ n1_ n2_ n3_ n4_ n5_ n6_ n7_ n8_
        have hnb61 := NB509_496.out
        have hnc61 := NB496_509.out
        have hnb62 := NB509_501.out
        have hnc62 := NB501_509.out
        have hnb63 := NB509_522.out
        have hnc63 := NB522_509.out
        have hnb64 := NB509_0.out
        have hnc64 := NB0_509.out
        obtain ⟨hcz65_0, hcz65_1, hfz65_0, hfz65_1⟩ := cellsF2 BK509.out
        have hnb66 := NB522_496.out
        have hnc66 := NB496_522.out
        have hnb67 := NB522_501.out
        have hnc67 := NB501_522.out
        have hnb68 := NB522_0.out
        have hnc68 := NB0_522.out
        have hcz69_0 : w60.cell? ⟨gb522, 0, none⟩ = some (.slice (some ⟨go53, 0, none⟩) x523000_3.length co53) := (blk_cell BK522.out 0).trans rfl
        have hfz69_0 := blk_frozen BK522.out 0
        try go_wp2_with (first | ((with_reducible refine gate_builtin (b := .append) (xs := #[.tmp 57, .tmp 59]) rfl ?_); (try (refine gate_guard (by rfl) ?_; dsimp only)); at_builtin; refine Kd.S_append k102 w.heap.size rfl (.tmp 57) (.tmp 59) 57 102 (.agg #[(.slice none 0 0)]) 24 rfl Try.underlying57 info102 rfl (by decide) (by omega) u510001 x510001_2 (⟨y554⟩ : S102) [.slice (some ⟨go53, 0, none⟩) x523000_3.length co53] (fun k_ => k_ ≠ gb522) (fun k_ => some k_ = (.slice (some ⟨go53, 0, none⟩) x523000_3.length co53 : Value).ownBlock) rfl rfl ?aP (fun k_ hk_ => ((Kd.R_mono (ok' := fun k_ => ((fun k_ => k_ ≠ gb522)) k_ ∧ some k_ ≠ (u510001 : Value).ownBlock) (Kd.R_types (Kd.R_apart' (HO_523000.out) (Kd.S_typed HO_510001.out) (by decide)) BK522.out (by decide)) (fun k_ hk => ⟨hk.2, hk.1.2⟩))).1 k_ hk_.symm) ?aF ?aO (Below.refl _ _) ?aS ?aL ?_; (case aP => exact k102_mkM _ _ _ (⟨y554⟩ : S102) (Kd.R_mono (Kd.R_tight rfl (Kd.R_mono (ok' := fun k_ => ((fun k_ => k_ ≠ gb522)) k_ ∧ some k_ ≠ (u510001 : Value).ownBlock) (Kd.R_types (Kd.R_apart' (HO_523000.out) (Kd.S_typed HO_510001.out) (by decide)) BK522.out (by decide)) (fun k_ hk => ⟨hk.2, hk.1.2⟩))) (fun _ h_ => h_))); (case aF => exact (fun k_ hk => Kd.freshB (g := gb522) (o := .cells #[.slice (some ⟨go53, 0, none⟩) x523000_3.length co53] 102 (0, 0)) (bk_ BK522) k_ hk)); (case aO => exact au5_32); (case aS => exact au5_38); (case aL => have := LMc54.out; omega); intro v556 w70 ho hb hg hat; rw [← Ny555.out] at ho; have n0_ := am_ (bg_ BK496 hg (Kd.S_ne HO_510001.out BK496.out (by decide))); have n1_ := am_ (bg_ BK501 hg (Kd.S_ne HO_510001.out BK501.out (by decide))); have n2_ := am_ (bg_ BK509 hg (Kd.S_ne HO_510001.out BK509.out (by decide))); have n3_ := am_ (bg_ BK522 hg (Kd.S_away HO_510001.out (fun _ hk => hk.2))); have n4_ := am_ (IsS121.grown is5_0_ hg (IsS121.own_neS HI0.out HO_510001.out (by decide))); have n5_ := am_ (below_weaken au5_15 HL.out hb); have n6_ := am_ (KeepBut.trans au5_4 (KeepBut.of_grown hg g) (Kd.S_base2 HO_510001.out)); have n7_ := am_ (ho); clear BK496; clear BK501; clear BK509; clear BK522; clear HI0; clear HB; clear HK; clear HO_510001; clear HO_523000; have BK496 := n0_; have BK501 := n1_; have BK509 := n2_; have BK522 := n3_; have HI0 := n4_; have HB := n5_; have HK := n6_; have HO557 := n7_; clear n0_ n1_ n2_ n3_ n4_ n5_ n6_ n7_; clear ho hb hg hat; obtain ⟨Ao71, co71, eo71⟩ := Kd.S_slice HO557.out; subst eo71; obtain ⟨hcz72_0, hcz72_1, hfz72_0, hfz72_1⟩ := cellsF2 BK509.out))
        go_roundg k3
        case measure => have := HJ5.out; have := HK2.out; have := HK3.out; omega
        case rel => exact ⟨(wrap64 (x5_2 - 1)), (t551), (t552), (t553), (y555), (.slice Ao71 y555.length co71), er_, H', ⟨au5_35⟩, ⟨by (with_reducible repeat (first | apply Kd.S_alloc | apply Kd.S_drewN | apply Kd.S_drew)); exact Kd.S_mono (Kd.S_far (p := ⟨gb509, 1, none⟩) (Kd.S_types HO557.out BK509.out (by decide)) (fun _ hk => hk.2) (.slice Ao71 y555.length co71)) (fun _ hk => trivial)⟩, ⟨bf_ BK496⟩, ⟨bf_ BK501⟩, ⟨bq_ BK509⟩, ⟨is5_0_⟩, ⟨au5_13⟩, ⟨au5_12⟩⟩
     have HC88 := am_ H
     clear H
     go_upto_block 4 with (fail)
     go_cut [] (fun wc => ∃ (kq : Nat) (x1001_87 : Int) (x1002_87 : Int) (x1003_87 : Int) (x510001_87 : List (S102)) (u510001 : Value), Aside0 (F97.j4 kq s0_0 x1001_87 x1002_87 x1003_87 t505 x510001_87 = some (r1, r2, r3, r4, r5)) ∧ Aside0 (kq ≤ k2) ∧ Aside0 (Kd.S k102 102 wc w.heap.size (fun _ => True) u510001 x510001_87) ∧ Aside0 (wc.heap[gb496]? = some (.cells #[.string (⟨#[]⟩ : ByteArray), (.slice none 0 0)] 59 (0, 0))) ∧ Aside0 (wc.heap[gb501]? = some (.cells #[.int .i64 t497, .int .i64 t498, .int .i64 t499, .int .i64 t500] 23 (0, 0))) ∧ Aside0 (wc.heap[gb509]? = some (.cells #[.string t505, u510001] 59 (0, 0))) ∧ Aside0 (IsS121 w0 wc g s0_0 x1001_87 x1002_87 x1003_87) ∧ Aside0 (KeepBut w wc g none) ∧ Aside0 (Below w0.heap.size w0 wc))
     case first =>
      have H := HC88.out
      clear HC88
      have H' := am_ H
      clear H
      go_wp2
      go_loopg [] k2 (fun kq w' => ∃ (x1001_3 : Int) (x1002_3 : Int) (x1003_3 : Int) (x510001_3 : List (S102)) (u510001 : Value), Aside0 (F97.l2 kq s0_0 x1001_3 x1002_3 x1003_3 t505 x510001_3 = some (r1, r2, r3, r4, r5)) ∧ Aside0 (kq ≤ k2) ∧ Aside0 (Kd.S k102 102 w' w.heap.size (fun _ => True) u510001 x510001_3) ∧ Aside0 (w'.heap[gb496]? = some (.cells #[.string (⟨#[]⟩ : ByteArray), (.slice none 0 0)] 59 (0, 0))) ∧ Aside0 (w'.heap[gb501]? = some (.cells #[.int .i64 t497, .int .i64 t498, .int .i64 t499, .int .i64 t500] 23 (0, 0))) ∧ Aside0 (w'.heap[gb509]? = some (.cells #[.string t505, u510001] 59 (0, 0))) ∧ Aside0 (IsS121 w0 w' g s0_0 x1001_3 x1002_3 x1003_3) ∧ Aside0 (KeepBut w w' g none) ∧ Aside0 (Below w0.heap.size w0 w'))
      case atStart => exact ⟨(x1001_2), (x1002_2), (x1003_2), (x510001_2), (u510001), H', ⟨Nat.le_refl _⟩, ⟨au5_22⟩, ⟨bk_ BK496⟩, ⟨bk_ BK501⟩, ⟨bk_ BK509⟩, ⟨is5_0_⟩, ⟨au5_7⟩, ⟨au5_6⟩⟩
      case round =>
       clear H'
       try clear c27b0
       try clear c38b0
       try clear c52b0
       try clear c52b1
       try clear p53
       try clear q53
       try clear qi53
       try clear hcz65_0 hcz65_1
       try clear hcz69_0
       try clear hcz72_0 hcz72_1
       try clear hcz79_0 hcz79_1
       try clear hcz83_0
       try clear hcz87_0 hcz87_1
       try clear hfz65_0 hfz65_1
       try clear hfz69_0
       try clear hfz72_0 hfz72_1
       try clear hfz79_0 hfz79_1
       try clear hfz83_0
       try clear hfz87_0 hfz87_1
       try clear hx53_0
       try clear p53
       try clear q53
       obtain ⟨x1001_3, x1002_3, x1003_3, x510001_3, u510001, HA, HK3, HO_510001, BK496, BK501, BK509, HI0, HK, HB⟩ := hrel
       cases gk with
       | zero => exact absurd HA.out (by simp [F97.l2])
       | succ k3 =>
        have H := HA.out
        clear HA
        simp only [F97.l2] at H
        replace H := it_ H; rcases H with ⟨(c89b0 : decide (0 < (x510001_3.length : Int)) = true), H⟩ | ⟨(c89b0 : decide (0 < (x510001_3.length : Int)) = false), H⟩
        rotate_left
        ·have c89b1 : decide (0 < x510001_3.length) = false := n2_ c89b0
         (first | rw [c89b0] | (simp only [i64_w, i32_w]; rw [c89b0]) | skip)
         have H' := am_ H
         clear H
         have hnb120 := NB509_496.out
         have hnc120 := NB496_509.out
         have hnb121 := NB509_501.out
         have hnc121 := NB501_509.out
         have hnb122 := NB509_0.out
         have hnc122 := NB0_509.out
         obtain ⟨hcz123_0, hcz123_1, hfz123_0, hfz123_1⟩ := cellsF2 BK509.out
         obtain ⟨Ao124, co124, eo124⟩ := Kd.S_slice HO_510001.out
         subst eo124
         go_wp2
         go_meet
         case rel => exact ⟨_, (x1001_3), (x1002_3), (x1003_3), (x510001_3), (.slice Ao124 x510001_3.length co124), H', ⟨au5_33⟩, ⟨au5_22⟩, ⟨bk_ BK496⟩, ⟨bk_ BK501⟩, ⟨bk_ BK509⟩, ⟨is5_0_⟩, ⟨au5_7⟩, ⟨au5_6⟩⟩
        have c89b1 : decide (0 < x510001_3.length) = true := n2_ c89b0
        (first | rw [c89b0] | (simp only [i64_w, i32_w]; rw [c89b0]) | skip)
        obtain ⟨ji90, hji90⟩ : ∃ j_ : Int, (wrap64 ((x510001_3.length : Int) - 1)) = j_ := ⟨_, rfl⟩
        replace H : (if 0 ≤ (ji90) then (if (ji90) < (x510001_3.length : Int) then ((F77.f ((rd_T102 x510001_3 (ji90)).f0)).bind fun t562 => (if t562 = true then ((F98.f s0_0 x1001_3 x1002_3 x1003_3 20).bind fun bt563 => (if bt563.1 = true then (F97.j4 k3 s0_0 bt563.2.1 bt563.2.2.1 bt563.2.2.2 t505 x510001_3) else (if (ji90) ≤ (x510001_3.length : Int) then (F97.l2 k3 s0_0 bt563.2.1 bt563.2.2.1 bt563.2.2.2 t505 (x510001_3.take ((ji90) : Int).toNat)) else (none)))) else (F97.j4 k3 s0_0 x1001_3 x1002_3 x1003_3 t505 x510001_3))) else (none)) else (none)) = some (r1, r2, r3, r4, r5) := by first | (rw [hji90] at H; exact H) | (simp only [hji90] at H ⊢; exact H)
        have hji90w : (IntKind.i64.wrap ((x510001_3.length : Int) - 1)) = ji90 := (i64_w _).trans hji90
        replace H := itn_ H; rcases H with ⟨c91b0, H⟩
        replace H := itn_ H; rcases H with ⟨c92b0, H⟩
        replace H := bi_ H; rcases H with ⟨t562, A93, H⟩
        replace H := ib_ H; rcases H with ⟨rfl, H⟩ | ⟨rfl, H⟩
        rotate_left
        ·have H' := am_ H
         clear H
         have hnb114 := NB509_496.out
         have hnc114 := NB496_509.out
         have hnb115 := NB509_501.out
         have hnc115 := NB501_509.out
         have hnb116 := NB509_0.out
         have hnc116 := NB0_509.out
         obtain ⟨hcz117_0, hcz117_1, hfz117_0, hfz117_1⟩ := cellsF2 BK509.out
         obtain ⟨Ao118, co118, eo118⟩ := Kd.S_slice HO_510001.out
         subst eo118
         have p561 : 0 ≤ ((ji90) : Int) := od_
         have q561 : (ji90) < (x510001_3.length : Int) := od_
         obtain ⟨ad561, A561_0, c561_0, e561, hx561_0, hl561_0, hi561_0⟩ := at_T102 (Kd.S_reads' HO_510001.out).2.2 (ji90) p561 q561
         cases e561
         obtain ⟨ce561, hce561, hMe561, hcc561⟩ := Kd.S_get HO_510001.out z102 (ji90) p561 au5_30
         obtain ⟨ve561_0, rfl, ge561_0⟩ := k102_openM hMe561
         have hv561_0 := hcc561 0 _ rfl
         rw [Nat.add_zero, show (k102).sz = 1 from rfl, Nat.mul_one] at hv561_0
         replace hv561_0 := Option.some.inj (hv561_0.symm.trans hx561_0)
         rw [hv561_0] at ge561_0
         have HL561_0 := am_ (show Kd.R Kd.string 9 _ _ _ _ ((rd_T102 x510001_3 (ji90)).f0) from ge561_0)
         clear hv561_0 ge561_0
         clear hcc561 hce561
         have HR561_0 := am_ hi561_0
         have HC561_0 := am_ hl561_0
         clear hi561_0 hl561_0
         replace p561 := eq_true p561
         replace q561 := eq_true q561
         go_wp2_with (first | (go_at_call 77; (with_reducible refine (F77.calls _ _ ((rd_T102 x510001_3 (ji90)).f0) false _ ?s1 ?s2 A93.out).mono ?_); (case s1 => exact au5_23); (case s2 => exact HC561_0.out); rintro e w119 ⟨rfl, hb⟩; (try clear A93); replace HO_510001 := am_ (Kd.S_below au5_5 hb); replace HL561_0 := am_ (Kd.R_below au5_19 hb); replace BK496 := bb_ BK496 hb; replace BK501 := bb_ BK501 hb; replace BK509 := bb_ BK509 hb; replace HR561_0 := am_ (Kd.C_below au5_11 hb); replace HK := am_ (KeepBut.trans au5_0 (KeepBut.of_below hb g none) (.inl rfl)); replace HB := am_ (below_step au5_3 hb); replace HI0 := am_ (IsS121.below is5_0_ hb); (try clear hb); (try clear hb2); (try clear hk); (try clear hi)))
         go_meet
         case rel => exact ⟨_, (x1001_3), (x1002_3), (x1003_3), (x510001_3), (.slice (some ad561) x510001_3.length co118), H', ⟨au5_33⟩, ⟨au5_22⟩, ⟨bk_ BK496⟩, ⟨bk_ BK501⟩, ⟨bk_ BK509⟩, ⟨is5_0_⟩, ⟨au5_7⟩, ⟨au5_6⟩⟩
        replace H := bi_ H; rcases H with ⟨⟨t563, t564, t565, t566⟩, A95, H⟩
        replace H := ib_ H; rcases H with ⟨rfl, H⟩ | ⟨rfl, H⟩
        ·have H' := am_ H
         clear H
         have hnb97 := NB509_496.out
         have hnc97 := NB496_509.out
         have hnb98 := NB509_501.out
         have hnc98 := NB501_509.out
         have hnb99 := NB509_0.out
         have hnc99 := NB0_509.out
         obtain ⟨hcz100_0, hcz100_1, hfz100_0, hfz100_1⟩ := cellsF2 BK509.out
         obtain ⟨Ao101, co101, eo101⟩ := Kd.S_slice HO_510001.out
         subst eo101
         have p561 : 0 ≤ ((ji90) : Int) := od_
         have q561 : (ji90) < (x510001_3.length : Int) := od_
         obtain ⟨ad561, A561_0, c561_0, e561, hx561_0, hl561_0, hi561_0⟩ := at_T102 (Kd.S_reads' HO_510001.out).2.2 (ji90) p561 q561
         cases e561
         obtain ⟨ce561, hce561, hMe561, hcc561⟩ := Kd.S_get HO_510001.out z102 (ji90) p561 au5_30
         obtain ⟨ve561_0, rfl, ge561_0⟩ := k102_openM hMe561
         have hv561_0 := hcc561 0 _ rfl
         rw [Nat.add_zero, show (k102).sz = 1 from rfl, Nat.mul_one] at hv561_0
         replace hv561_0 := Option.some.inj (hv561_0.symm.trans hx561_0)
         rw [hv561_0] at ge561_0
         have HL561_0 := am_ (show Kd.R Kd.string 9 _ _ _ _ ((rd_T102 x510001_3 (ji90)).f0) from ge561_0)
         clear hv561_0 ge561_0
         clear hcc561 hce561
         have HR561_0 := am_ hi561_0
         have HC561_0 := am_ hl561_0
         clear hi561_0 hl561_0
         replace p561 := eq_true p561
         replace q561 := eq_true q561
         go_wp2_with (first | (go_at_call 77; (with_reducible refine (F77.calls _ _ ((rd_T102 x510001_3 (ji90)).f0) true _ ?s1 ?s2 A93.out).mono ?_); (case s1 => exact au5_23); (case s2 => exact HC561_0.out); rintro e w102 ⟨rfl, hb⟩; (try clear A93); replace HO_510001 := am_ (Kd.S_below au5_5 hb); replace HL561_0 := am_ (Kd.R_below au5_19 hb); replace BK496 := bb_ BK496 hb; replace BK501 := bb_ BK501 hb; replace BK509 := bb_ BK509 hb; replace HR561_0 := am_ (Kd.C_below au5_11 hb); replace HK := am_ (KeepBut.trans au5_0 (KeepBut.of_below hb g none) (.inl rfl)); replace HB := am_ (below_step au5_3 hb); replace HI0 := am_ (IsS121.below is5_0_ hb); (try clear hb); (try clear hb2); (try clear hk); (try clear hi)) | (go_at_call 98; (with_reducible refine (F98.calls g s0_0 x1001_3 x1002_3 x1003_3 20 true t564 t565 t566 w0 _ ?s1 ?s2 A95.out).mono ?_); (case s1 => exact au5_1); (case s2 => exact au5_2); rintro e w103 ⟨rfl, hi, hb, hk⟩; (try clear A95); replace HO_510001 := am_ (Kd.S_mono (Kd.S_keep (IsS121.apartS (is5_0_ : IsS121 w0 _ g s0_0 x1001_3 x1002_3 x1003_3) au5_5 (by decide)) hk (fun _ h => h.2)) (fun _ h => h.1)); replace BK496 := ka_ hk BK496 NB496_0; replace BK501 := ka_ hk BK501 NB501_0; replace BK509 := ka_ hk BK509 NB509_0; replace HL561_0 := am_ (Kd.R_mono (Kd.R_keep (IsS121.apart (is5_0_ : IsS121 w0 _ g s0_0 x1001_3 x1002_3 x1003_3) au5_19 (by decide)) hk (fun _ h => h.2)) (fun _ h => h.1)); replace HK := am_ (KeepBut.trans au5_0 hk (.inl rfl)); replace HB := am_ (hb); replace HI0 := am_ (hi); (try clear hb); (try clear hb2); (try clear hk); (try clear hi)))
         go_meet
         case rel => exact ⟨_, (t564), (t565), (t566), (x510001_3), (.slice (some ad561) x510001_3.length co101), H', ⟨au5_33⟩, ⟨au5_22⟩, ⟨bk_ BK496⟩, ⟨bk_ BK501⟩, ⟨bk_ BK509⟩, ⟨is5_0_⟩, ⟨au5_7⟩, ⟨au5_6⟩⟩
        by_cases c104 : (ji90) ≤ (x510001_3.length : Int)
        rotate_left
        ·rw [if_neg c104] at H
         exact absurd H (by simp)
        rw [if_pos c104] at H
        have c104b0 := eq_true c104
        have c104b1 : decide ((ji90) ≤ (x510001_3.length : Int)) = true := decide_eq_true c104
        clear c104
        obtain ⟨y567, hy567⟩ : ∃ y_ : List (S102), y_ = (x510001_3.take ((ji90) : Int).toNat) := ⟨_, rfl⟩
        replace H : (F97.l2 k3 s0_0 t564 t565 t566 t505 y567) = some (r1, r2, r3, r4, r5) := by first | (rw [hy567]; exact H) | exact H
        have Ny567 := am_ hy567
        clear hy567
        have H' := am_ H
        clear H
        have hnb105 := NB509_496.out
        have hnc105 := NB496_509.out
        have hnb106 := NB509_501.out
        have hnc106 := NB501_509.out
        have hnb107 := NB509_0.out
        have hnc107 := NB0_509.out
        obtain ⟨hcz108_0, hcz108_1, hfz108_0, hfz108_1⟩ := cellsF2 BK509.out
        obtain ⟨Ao109, co109, eo109⟩ := Kd.S_slice HO_510001.out
        subst eo109
        have p561 : 0 ≤ ((ji90) : Int) := od_
        have q561 : (ji90) < (x510001_3.length : Int) := od_
        obtain ⟨ad561, A561_0, c561_0, e561, hx561_0, hl561_0, hi561_0⟩ := at_T102 (Kd.S_reads' HO_510001.out).2.2 (ji90) p561 q561
        cases e561
        obtain ⟨ce561, hce561, hMe561, hcc561⟩ := Kd.S_get HO_510001.out z102 (ji90) p561 au5_30
        obtain ⟨ve561_0, rfl, ge561_0⟩ := k102_openM hMe561
        have hv561_0 := hcc561 0 _ rfl
        rw [Nat.add_zero, show (k102).sz = 1 from rfl, Nat.mul_one] at hv561_0
        replace hv561_0 := Option.some.inj (hv561_0.symm.trans hx561_0)
        rw [hv561_0] at ge561_0
        have HL561_0 := am_ (show Kd.R Kd.string 9 _ _ _ _ ((rd_T102 x510001_3 (ji90)).f0) from ge561_0)
        clear hv561_0 ge561_0
        clear hcc561 hce561
        have HR561_0 := am_ hi561_0
        have HC561_0 := am_ hl561_0
        clear hi561_0 hl561_0
        replace p561 := eq_true p561
        replace q561 := eq_true q561
        go_wp2_with (first | (go_at_call 77; (with_reducible refine (F77.calls _ _ ((rd_T102 x510001_3 (ji90)).f0) true _ ?s1 ?s2 A93.out).mono ?_); (case s1 => exact au5_23); (case s2 => exact HC561_0.out); rintro e w110 ⟨rfl, hb⟩; (try clear A93); replace HO_510001 := am_ (Kd.S_below au5_5 hb); replace HL561_0 := am_ (Kd.R_below au5_19 hb); replace BK496 := bb_ BK496 hb; replace BK501 := bb_ BK501 hb; replace BK509 := bb_ BK509 hb; replace HR561_0 := am_ (Kd.C_below au5_11 hb); replace HK := am_ (KeepBut.trans au5_0 (KeepBut.of_below hb g none) (.inl rfl)); replace HB := am_ (below_step au5_3 hb); replace HI0 := am_ (IsS121.below is5_0_ hb); (try clear hb); (try clear hb2); (try clear hk); (try clear hi)) | (go_at_call 98; (with_reducible refine (F98.calls g s0_0 x1001_3 x1002_3 x1003_3 20 false t564 t565 t566 w0 _ ?s1 ?s2 A95.out).mono ?_); (case s1 => exact au5_1); (case s2 => exact au5_2); rintro e w111 ⟨rfl, hi, hb, hk⟩; (try clear A95); replace HO_510001 := am_ (Kd.S_mono (Kd.S_keep (IsS121.apartS (is5_0_ : IsS121 w0 _ g s0_0 x1001_3 x1002_3 x1003_3) au5_5 (by decide)) hk (fun _ h => h.2)) (fun _ h => h.1)); replace BK496 := ka_ hk BK496 NB496_0; replace BK501 := ka_ hk BK501 NB501_0; replace BK509 := ka_ hk BK509 NB509_0; replace HL561_0 := am_ (Kd.R_mono (Kd.R_keep (IsS121.apart (is5_0_ : IsS121 w0 _ g s0_0 x1001_3 x1002_3 x1003_3) au5_19 (by decide)) hk (fun _ h => h.2)) (fun _ h => h.1)); replace HK := am_ (KeepBut.trans au5_0 hk (.inl rfl)); replace HB := am_ (hb); replace HI0 := am_ (hi); (try clear hb); (try clear hb2); (try clear hk); (try clear hi); obtain ⟨hcz112_0, hcz112_1, hfz112_0, hfz112_1⟩ := cellsF2 BK509.out; have q113 : ((ji90) : Int) ≤ ((x510001_3.length : Int) : Int) := od_; obtain ⟨i0113, hi0113, _, hsz113, _⟩ := info_parts info102; have hcut113 := cut_to (P := Try.prog) 57 102 .i64 Try.underlying57 hi0113 (some ad561) x510001_3.length co109 (ji90) (of_decide_eq_true as_) q113 (Kd.S_reads' HO_510001.out).2.1; have hr113 := Kd.S_take (m := ((ji90) : Int).toNat) HO_510001.out (by omega); have hy113 : y567.length = ((ji90) : Int).toNat := (by rw [Ny567.out, List.length_take]; omega); rw [← Ny567.out] at hr113; rw [← hy113] at hr113 hcut113; clear hy113 hi0113 hsz113 HO_510001; have HO569 := am_ hr113; clear hr113; replace q113 := eq_true q113))
        go_roundg k3
        case measure => have := HJ5.out; have := HK2.out; have := HK3.out; omega
        case rel => exact ⟨(t564), (t565), (t566), (y567), (.slice (some ad561) y567.length co109), H', ⟨au5_35⟩, ⟨by (with_reducible repeat (first | apply Kd.S_alloc | apply Kd.S_drewN | apply Kd.S_drew)); exact Kd.S_mono (Kd.S_far (p := ⟨gb509, 1, none⟩) (Kd.S_types HO569.out BK509.out (by decide)) (fun _ hk => hk.2) (.slice (some ad561) y567.length co109)) (fun _ hk => trivial)⟩, ⟨bf_ BK496⟩, ⟨bf_ BK501⟩, ⟨bq_ BK509⟩, ⟨is5_0_⟩, ⟨au5_7⟩, ⟨au5_6⟩⟩
     case rest =>
      clear HC88
      try clear c27b0
      try clear c38b0
      try clear c52b0
      try clear c52b1
      try clear p53
      try clear q53
      try clear qi53
      try clear c89b0
      try clear c89b1
      try clear c91b0
      try clear c92b0
      try clear c104
      try clear c104b0
      try clear c104b1
      try clear q113
      try clear hcz100_0 hcz100_1
      try clear hcz108_0 hcz108_1
      try clear hcz112_0 hcz112_1
      try clear hcz117_0 hcz117_1
      try clear hcz123_0 hcz123_1
      try clear hcz65_0 hcz65_1
      try clear hcz69_0
      try clear hcz72_0 hcz72_1
      try clear hcz79_0 hcz79_1
      try clear hcz83_0
      try clear hcz87_0 hcz87_1
      try clear hfz100_0 hfz100_1
      try clear hfz108_0 hfz108_1
      try clear hfz112_0 hfz112_1
      try clear hfz117_0 hfz117_1
      try clear hfz123_0 hfz123_1
      try clear hfz65_0 hfz65_1
      try clear hfz69_0
      try clear hfz72_0 hfz72_1
      try clear hfz79_0 hfz79_1
      try clear hfz83_0
      try clear hfz87_0 hfz87_1
      try clear hx53_0
      try clear hx561_0
      try clear p53
      try clear p561
      try clear q113
      try clear q53
      try clear q561
      obtain ⟨kq, x1001_87, x1002_87, x1003_87, x510001_87, u510001, HA, HJ87, HO_510001, BK496, BK501, BK509, HI0, HK, HB⟩ := hcut
      cases kq with
      | zero => exact absurd HA.out (by simp [F97.j4])
      | succ kj87 =>
       have H := HA.out
       clear HA
       simp only [F97.j4] at H
       replace H := bi_ H; rcases H with ⟨⟨t570, t571, t572, t573⟩, A125, H⟩
       replace H := ib_ H; rcases H with ⟨rfl, H⟩ | ⟨rfl, H⟩
       rotate_left
       ·simp only [Option.some.injEq, Prod.mk.injEq] at H
        obtain ⟨rfl, rfl, rfl, rfl, rfl⟩ := H
        go_wp2_with (first | (go_at_call 98; (with_reducible refine (F98.calls g s0_0 x1001_87 x1002_87 x1003_87 20 false t571 t572 t573 w0 _ ?s1 ?s2 A125.out).mono ?_); (case s1 => exact au5_1); (case s2 => exact au5_2); rintro e w187 ⟨rfl, hi, hb, hk⟩; (try clear A125); replace HO_510001 := am_ (Kd.S_mono (Kd.S_keep (IsS121.apartS (is5_0_ : IsS121 w0 _ g s0_0 x1001_87 x1002_87 x1003_87) au5_5 (by decide)) hk (fun _ h => h.2)) (fun _ h => h.1)); replace BK496 := ka_ hk BK496 NB496_0; replace BK501 := ka_ hk BK501 NB501_0; replace BK509 := ka_ hk BK509 NB509_0; replace HK := am_ (KeepBut.trans au5_0 hk (.inl rfl)); replace HB := am_ (hb); replace HI0 := am_ (hi); (try clear hb); (try clear hb2); (try clear hk); (try clear hi); have hnb188 := NB509_496.out; have hnc188 := NB496_509.out; have hnb189 := NB509_501.out; have hnc189 := NB501_509.out; have hnb190 := NB509_0.out; have hnc190 := NB0_509.out; obtain ⟨hcz191_0, hcz191_1, hfz191_0, hfz191_1⟩ := cellsF2 BK509.out; have hnb192 := NB496_501.out; have hnc192 := NB501_496.out; have hnb193 := NB496_0.out; have hnc193 := NB0_496.out; obtain ⟨hcz194_0, hcz194_1, hfz194_0, hfz194_1⟩ := cellsF2 BK496.out; obtain ⟨Ao195, co195, eo195⟩ := Kd.S_slice HO_510001.out; subst eo195))
        refine bodyPost_ret (results_cell_row rfl _ _ gb496 59 #[.string t505, .slice Ao195 x510001_87.length co195] (0, 0) _ rfl (bq_ BK496) Try.underlying59 rfl (by kernel_rfl)) rfl ?_
        exact ⟨_, au5_14, by (with_reducible repeat (first | apply Kd.S_alloc | apply Kd.S_drewN | apply Kd.S_drew)); exact Kd.S_mono (Kd.S_far (p := ⟨gb496, 1, none⟩) (Kd.S_far (p := ⟨gb496, 0, none⟩) (Kd.S_types HO_510001.out BK496.out (by decide)) (fun _ hk => hk.2) (.string t505)) (fun _ hk => hk.2) (.slice Ao195 x510001_87.length co195)) (fun _ hk => trivial), is5_0_, au5_6, au5_7⟩

       replace H := bi_ H; rcases H with ⟨⟨t574, t575, t576, t577⟩, A127, H⟩
       by_cases c128 : t574 = 0
       ·rw [if_pos c128] at H
        have c128b0 : (t574 == 0) = true := beq_iff_eq.mpr c128
        have c128b1 : (t574 != 0) = false := bne_eq_false_iff_eq.mpr c128
        clear c128
        obtain ⟨y578, hy578⟩ : ∃ y_ : List ByteArray, y_ = (([(⟨#[]⟩ : ByteArray), (⟨#[65, 66]⟩ : ByteArray), (⟨#[65, 66, 67, 68]⟩ : ByteArray), (⟨#[65, 66, 49]⟩ : ByteArray), (⟨#[97, 98, 99]⟩ : ByteArray)] : List ByteArray)) := ⟨_, rfl⟩
        replace H : ((F119.f s0_0 t575 t576 t577 y578).bind fun bt581 => (some (bt581.1, x510001_87, bt581.2.1, bt581.2.2.1, bt581.2.2.2))) = some (r1, r2, r3, r4, r5) := by first | (rw [hy578]; exact H) | exact H
        have Ny578 := am_ hy578
        clear hy578
        replace H := bi_ H; rcases H with ⟨⟨t581, t582, t583, t584⟩, A129, H⟩
        simp only [Option.some.injEq, Prod.mk.injEq] at H
        obtain ⟨rfl, rfl, rfl, rfl, rfl⟩ := H
        go_wp2_with (first | (go_at_call 98; (with_reducible refine (F98.calls g s0_0 x1001_87 x1002_87 x1003_87 20 true t571 t572 t573 w0 _ ?s1 ?s2 A125.out).mono ?_); (case s1 => exact au5_1); (case s2 => exact au5_2); rintro e w130 ⟨rfl, hi, hb, hk⟩; (try clear A125); replace HO_510001 := am_ (Kd.S_mono (Kd.S_keep (IsS121.apartS (is5_0_ : IsS121 w0 _ g s0_0 x1001_87 x1002_87 x1003_87) au5_5 (by decide)) hk (fun _ h => h.2)) (fun _ h => h.1)); replace BK496 := ka_ hk BK496 NB496_0; replace BK501 := ka_ hk BK501 NB501_0; replace BK509 := ka_ hk BK509 NB509_0; replace HK := am_ (KeepBut.trans au5_0 hk (.inl rfl)); replace HB := am_ (hb); replace HI0 := am_ (hi); (try clear hb); (try clear hb2); (try clear hk); (try clear hi)) | (go_at_call 72; (with_reducible refine (F72.calls g s0_0 t571 t572 t573 3 t574 t575 t576 t577 w0 _ ?s1 ?s2 A127.out).mono ?_); (case s1 => exact au5_1); (case s2 => exact au5_2); rintro e w131 ⟨rfl, hi, hb, hk⟩; (try clear A127); replace HO_510001 := am_ (Kd.S_mono (Kd.S_keep (IsS121.apartS (is5_0_ : IsS121 w0 _ g s0_0 t571 t572 t573) au5_5 (by decide)) hk (fun _ h => h.2)) (fun _ h => h.1)); replace BK496 := ka_ hk BK496 NB496_0; replace BK501 := ka_ hk BK501 NB501_0; replace BK509 := ka_ hk BK509 NB509_0; replace HK := am_ (KeepBut.trans au5_0 hk (.inl rfl)); replace HB := am_ (hb); replace HI0 := am_ (hi); (try clear hb); (try clear hb2); (try clear hk); (try clear hi)) | ((with_reducible refine gate_dst (N := 110) rfl ?_); (try (refine gate_guard (by rfl) ?_; dsimp only)); refine Kd.R_lit Kd.string _ 9 ?hg (N := 110) ?hd (xs := ([(⟨#[]⟩ : ByteArray), (⟨#[65, 66]⟩ : ByteArray), (⟨#[65, 66, 67, 68]⟩ : ByteArray), (⟨#[65, 66, 49]⟩ : ByteArray), (⟨#[97, 98, 99]⟩ : ByteArray)] : List ByteArray)) (inner := [.string (⟨#[]⟩ : ByteArray), .string (⟨#[65, 66]⟩ : ByteArray), .string (⟨#[65, 66, 67, 68]⟩ : ByteArray), .string (⟨#[65, 66, 49]⟩ : ByteArray), .string (⟨#[97, 98, 99]⟩ : ByteArray)]) (ok := fun _ => True) (okp := fun _ => True) ?hr ?hp (fun _ hk => hk) trivial (Below.refl _ _) (Nat.le_refl _) (by simp) ?_; (case hd => rfl); (case hg => rfl); (case hr => exact hr_); (case hp => exact (Reps.one (show Kd.M Kd.string _ _ _ (⟨#[]⟩ : ByteArray) [.string (⟨#[]⟩ : ByteArray)] from rfl) (Reps.one (show Kd.M Kd.string _ _ _ (⟨#[65, 66]⟩ : ByteArray) [.string (⟨#[65, 66]⟩ : ByteArray)] from rfl) (Reps.one (show Kd.M Kd.string _ _ _ (⟨#[65, 66, 67, 68]⟩ : ByteArray) [.string (⟨#[65, 66, 67, 68]⟩ : ByteArray)] from rfl) (Reps.one (show Kd.M Kd.string _ _ _ (⟨#[65, 66, 49]⟩ : ByteArray) [.string (⟨#[65, 66, 49]⟩ : ByteArray)] from rfl) (Reps.one (show Kd.M Kd.string _ _ _ (⟨#[97, 98, 99]⟩ : ByteArray) [.string (⟨#[97, 98, 99]⟩ : ByteArray)] from rfl) (Reps.none _ _))))))); intro v579 w132 ho133 hb hg_ hnew_; clear hg_ hnew_; (first | rw [← Ny578.out] at ho133 | (simp only [Int.reduceToNat] at ho133; rw [← Ny578.out] at ho133)); replace HO_510001 := am_ (Kd.S_elder' au5_5 (Kd.R_base ho133) hb); have HO580 := am_ (Kd.R_lower ho133 (keep_size (w := w) (g := g) (row := none) au5_0)); replace BK496 := bb_ BK496 hb; replace BK501 := bb_ BK501 hb; replace BK509 := bb_ BK509 hb; replace HK := am_ (KeepBut.trans au5_0 (KeepBut.of_below hb g none) (.inl rfl)); replace HB := am_ (below_step au5_3 hb); replace HI0 := am_ (IsS121.below is5_0_ hb); clear hb ho133; obtain ⟨Ao134, co134, eo134⟩ := Kd.R_slice HO580.out; subst eo134) | (go_at_call 119; (with_reducible refine (F119.calls g s0_0 t575 t576 t577 _ _ y578 t581 t582 t583 t584 w0 _ ?s1 ?s2 ?s3 ?s4 ?s5 A129.out).mono ?_); (case s1 => exact au5_1); (case s2 => exact au5_2); (case s3 => repeat (first | exact (Kd.R_reads' HO580.out).2.2 | (with_reducible refine Kd.C_alloc ?_ _) | (with_reducible refine Kd.C_drewN ?_ _) | (with_reducible refine Kd.C_drew ?_))); (case s4 => exact (Kd.R_reads' HO580.out).2.1); (case s5 => exact far_slice (IsS121.own_ne HI0.out HO580.out (by decide))); rintro e w135 ⟨rfl, hi, hb, hk⟩; (try clear A129); replace HO_510001 := am_ (Kd.S_mono (Kd.S_keep (IsS121.apartS (is5_0_ : IsS121 w0 _ g s0_0 t575 t576 t577) au5_5 (by decide)) hk (fun _ h => h.2)) (fun _ h => h.1)); replace BK496 := ka_ hk BK496 NB496_0; replace BK501 := ka_ hk BK501 NB501_0; replace BK509 := ka_ hk BK509 NB509_0; replace HO580 := am_ (Kd.R_mono (Kd.R_keep (IsS121.apart (is5_0_ : IsS121 w0 _ g s0_0 t575 t576 t577) (rk_ HO580) (by decide)) hk (fun _ h => h.2)) (fun _ h => h.1)); replace HK := am_ (KeepBut.trans au5_0 hk (.inl rfl)); replace HB := am_ (hb); replace HI0 := am_ (hi); (try clear hb); (try clear hb2); (try clear hk); (try clear hi); have hnb136 := NB509_496.out; have hnc136 := NB496_509.out; have hnb137 := NB509_501.out; have hnc137 := NB501_509.out; have hnb138 := NB509_0.out; have hnc138 := NB0_509.out; obtain ⟨hcz139_0, hcz139_1, hfz139_0, hfz139_1⟩ := cellsF2 BK509.out; have hnb140 := NB496_501.out; have hnc140 := NB501_496.out; have hnb141 := NB496_0.out; have hnc141 := NB0_496.out; obtain ⟨hcz142_0, hcz142_1, hfz142_0, hfz142_1⟩ := cellsF2 BK496.out; obtain ⟨Ao143, co143, eo143⟩ := Kd.S_slice HO_510001.out; subst eo143))
        refine bodyPost_ret (results_cell_row rfl _ _ gb496 59 #[.string t581, .slice Ao143 x510001_87.length co143] (0, 0) _ rfl (bq_ BK496) Try.underlying59 rfl (by kernel_rfl)) rfl ?_
        exact ⟨_, au5_14, by (with_reducible repeat (first | apply Kd.S_alloc | apply Kd.S_drewN | apply Kd.S_drew)); exact Kd.S_mono (Kd.S_far (p := ⟨gb496, 1, none⟩) (Kd.S_far (p := ⟨gb496, 0, none⟩) (Kd.S_far (p := ⟨gb509, 0, none⟩) (Kd.S_types (Kd.S_types HO_510001.out BK509.out (by decide)) BK496.out (by decide)) (fun _ hk => hk.1.2) (.string t581)) (fun _ hk => hk.2) (.string t581)) (fun _ hk => hk.2) (.slice Ao143 x510001_87.length co143)) (fun _ hk => trivial), is5_0_, au5_6, au5_7⟩
       rw [if_neg c128] at H
       have c128b0 : (t574 == 0) = false := beq_eq_false_iff_ne.mpr c128
       have c128b1 : (t574 != 0) = true := bne_iff_ne.mpr c128
       by_cases c144 : t574 = 1
       ·rw [if_pos c144] at H
        have c144b0 : (t574 == 1) = true := beq_iff_eq.mpr c144
        have c144b1 : (t574 != 1) = false := bne_eq_false_iff_eq.mpr c144
        clear c144
        replace H := iln_ H; rcases H with ⟨LMc145, H⟩
        obtain ⟨y585, hy585⟩ : ∃ y_ : List (S102), y_ = (x510001_87 ++ [(⟨([] : List ByteArray)⟩ : S102)]) := ⟨_, rfl⟩
        replace H : (some (t505, y585, t575, t576, t577)) = some (r1, r2, r3, r4, r5) := by first | (rw [hy585]; exact H) | exact H
        have Ny585 := am_ hy585
        clear hy585
        simp only [Option.some.injEq, Prod.mk.injEq] at H
        obtain ⟨rfl, rfl, rfl, rfl, rfl⟩ := H
        go_wp2_with (first | (go_at_call 98; (with_reducible refine (F98.calls g s0_0 x1001_87 x1002_87 x1003_87 20 true t571 t572 t573 w0 _ ?s1 ?s2 A125.out).mono ?_); (case s1 => exact au5_1); (case s2 => exact au5_2); rintro e w146 ⟨rfl, hi, hb, hk⟩; (try clear A125); replace HO_510001 := am_ (Kd.S_mono (Kd.S_keep (IsS121.apartS (is5_0_ : IsS121 w0 _ g s0_0 x1001_87 x1002_87 x1003_87) au5_5 (by decide)) hk (fun _ h => h.2)) (fun _ h => h.1)); replace BK496 := ka_ hk BK496 NB496_0; replace BK501 := ka_ hk BK501 NB501_0; replace BK509 := ka_ hk BK509 NB509_0; replace HK := am_ (KeepBut.trans au5_0 hk (.inl rfl)); replace HB := am_ (hb); replace HI0 := am_ (hi); (try clear hb); (try clear hb2); (try clear hk); (try clear hi)) | (go_at_call 72; (with_reducible refine (F72.calls g s0_0 t571 t572 t573 3 t574 t575 t576 t577 w0 _ ?s1 ?s2 A127.out).mono ?_); (case s1 => exact au5_1); (case s2 => exact au5_2); rintro e w147 ⟨rfl, hi, hb, hk⟩; (try clear A127); replace HO_510001 := am_ (Kd.S_mono (Kd.S_keep (IsS121.apartS (is5_0_ : IsS121 w0 _ g s0_0 t571 t572 t573) au5_5 (by decide)) hk (fun _ h => h.2)) (fun _ h => h.1)); replace BK496 := ka_ hk BK496 NB496_0; replace BK501 := ka_ hk BK501 NB501_0; replace BK509 := ka_ hk BK509 NB509_0; replace HK := am_ (KeepBut.trans au5_0 hk (.inl rfl)); replace HB := am_ (hb); replace HI0 := am_ (hi); (try clear hb); (try clear hb2); (try clear hk); (try clear hi); have hnb148 := NB509_496.out; have hnc148 := NB496_509.out; have hnb149 := NB509_501.out; have hnc149 := NB501_509.out; have hnb150 := NB509_0.out; have hnc150 := NB0_509.out; obtain ⟨hcz151_0, hcz151_1, hfz151_0, hfz151_1⟩ := cellsF2 BK509.out) | ((with_reducible refine gate_builtin (b := .append) (xs := #[.tmp 116, .tmp 118]) rfl ?_); (try (refine gate_guard (by rfl) ?_; dsimp only)); at_builtin; refine Kd.S_append k102 w.heap.size rfl (.tmp 116) (.tmp 118) 57 102 (.agg #[(.slice none 0 0)]) 24 rfl Try.underlying57 info102 rfl (by decide) (by omega) u510001 x510001_87 (⟨([] : List ByteArray)⟩ : S102) [.slice none 0 0] (fun _ => True) (fun _ => False) rfl rfl ?aP (fun k_ hk_ => hk_.elim) ?aF ?aO (Below.refl _ _) ?aS ?aL ?_; (case aP => exact k102_mkM _ _ _ (⟨([] : List ByteArray)⟩ : S102) (Kd.R_nil _ _ _ _ _)); (case aF => exact (fun _ _ => trivial)); (case aO => exact (by (with_reducible repeat (first | apply Kd.S_alloc | apply Kd.S_drewN | apply Kd.S_drew)); exact Kd.S_mono HO_510001.out (fun k_ hk => ⟨trivial, fun e_ => e_⟩))); (case aS => exact (keep_size (w := w) (g := g) (row := none) au5_0)); (case aL => have := LMc145.out; omega); intro v586 w152 ho hb hg hat; rw [← Ny585.out] at ho; have n0_ := am_ (bg_ BK496 hg (Kd.S_ne HO_510001.out BK496.out (by decide))); have n1_ := am_ (bg_ BK501 hg (Kd.S_ne HO_510001.out BK501.out (by decide))); have n2_ := am_ (bg_ BK509 hg (Kd.S_ne HO_510001.out BK509.out (by decide))); have n3_ := am_ (IsS121.grown is5_0_ hg (IsS121.own_neS HI0.out HO_510001.out (by decide))); have n4_ := am_ (below_weaken au5_3 HL.out hb); have n5_ := am_ (KeepBut.trans au5_0 (KeepBut.of_grown hg g) (Kd.S_base2 HO_510001.out)); have n6_ := am_ (ho); clear BK496; clear BK501; clear BK509; clear HI0; clear HB; clear HK; clear HO_510001; have BK496 := n0_; have BK501 := n1_; have BK509 := n2_; have HI0 := n3_; have HB := n4_; have HK := n5_; have HO587 := n6_; clear n0_ n1_ n2_ n3_ n4_ n5_ n6_; clear ho hb hg hat; obtain ⟨Ao153, co153, eo153⟩ := Kd.S_slice HO587.out; subst eo153; obtain ⟨hcz154_0, hcz154_1, hfz154_0, hfz154_1⟩ := cellsF2 BK509.out; have hnb155 := NB496_501.out; have hnc155 := NB501_496.out; have hnb156 := NB496_0.out; have hnc156 := NB0_496.out; obtain ⟨hcz157_0, hcz157_1, hfz157_0, hfz157_1⟩ := cellsF2 BK496.out))
        refine bodyPost_ret (results_cell_row rfl _ _ gb496 59 #[.string t505, .slice Ao153 y585.length co153] (0, 0) _ rfl (bq_ BK496) Try.underlying59 rfl (by kernel_rfl)) rfl ?_
        exact ⟨_, au5_14, by (with_reducible repeat (first | apply Kd.S_alloc | apply Kd.S_drewN | apply Kd.S_drew)); exact Kd.S_mono (Kd.S_far (p := ⟨gb496, 1, none⟩) (Kd.S_far (p := ⟨gb496, 0, none⟩) (Kd.S_far (p := ⟨gb509, 1, none⟩) (Kd.S_types (Kd.S_types HO587.out BK509.out (by decide)) BK496.out (by decide)) (fun _ hk => hk.1.2) (.slice Ao153 y585.length co153)) (fun _ hk => hk.2) (.string t505)) (fun _ hk => hk.2) (.slice Ao153 y585.length co153)) (fun _ hk => trivial), is5_0_, au5_6, au5_7⟩
       rw [if_neg c144] at H
       have c144b0 : (t574 == 1) = false := beq_eq_false_iff_ne.mpr c144
       have c144b1 : (t574 != 1) = true := bne_iff_ne.mpr c144
       obtain ⟨y588, hy588⟩ : ∃ y_ : List ByteArray, y_ = (([(⟨#[10]⟩ : ByteArray), (⟨#[255]⟩ : ByteArray), (⟨#[97]⟩ : ByteArray)] : List ByteArray)) := ⟨_, rfl⟩
       replace H : ((F119.f s0_0 t575 t576 t577 y588).bind fun bt591 => ((F119.f s0_0 bt591.2.1 bt591.2.2.1 bt591.2.2.2 (([(⟨#[]⟩ : ByteArray), (⟨#[98]⟩ : ByteArray)] : List ByteArray))).bind fun bt598 => (if x510001_87.length < 5864062014805 then (some (t505, (x510001_87 ++ [(⟨(([bt591.1, bt598.1] : List ByteArray))⟩ : S102)]), bt598.2.1, bt598.2.2.1, bt598.2.2.2)) else (none)))) = some (r1, r2, r3, r4, r5) := by first | (rw [hy588]; exact H) | exact H
       have Ny588 := am_ hy588
       clear hy588
       replace H := bi_ H; rcases H with ⟨⟨t591, t592, t593, t594⟩, A158, H⟩
       obtain ⟨y595, hy595⟩ : ∃ y_ : List ByteArray, y_ = (([(⟨#[]⟩ : ByteArray), (⟨#[98]⟩ : ByteArray)] : List ByteArray)) := ⟨_, rfl⟩
       replace H : ((F119.f s0_0 t592 t593 t594 y595).bind fun bt598 => (if x510001_87.length < 5864062014805 then (some (t505, (x510001_87 ++ [(⟨(([t591, bt598.1] : List ByteArray))⟩ : S102)]), bt598.2.1, bt598.2.2.1, bt598.2.2.2)) else (none))) = some (r1, r2, r3, r4, r5) := by first | (rw [hy595]; exact H) | exact H
       have Ny595 := am_ hy595
       clear hy595
       replace H := bi_ H; rcases H with ⟨⟨t598, t599, t600, t601⟩, A159, H⟩
       obtain ⟨y602, hy602⟩ : ∃ y_ : List ByteArray, y_ = (([t591, t598] : List ByteArray)) := ⟨_, rfl⟩
       replace H : (if x510001_87.length < 5864062014805 then (some (t505, (x510001_87 ++ [(⟨y602⟩ : S102)]), t599, t600, t601)) else (none)) = some (r1, r2, r3, r4, r5) := by first | (rw [hy602]; exact H) | exact H
       have Ny602 := am_ hy602
       clear hy602
       replace H := iln_ H; rcases H with ⟨LMc160, H⟩
       obtain ⟨y605, hy605⟩ : ∃ y_ : List (S102), y_ = (x510001_87 ++ [(⟨y602⟩ : S102)]) := ⟨_, rfl⟩
       replace H : (some (t505, y605, t599, t600, t601)) = some (r1, r2, r3, r4, r5) := by first | (rw [hy605]; exact H) | exact H
       have Ny605 := am_ hy605
       clear hy605
       simp only [Option.some.injEq, Prod.mk.injEq] at H
       obtain ⟨rfl, rfl, rfl, rfl, rfl⟩ := H
       try go_wp2_with (first | (go_at_call 98; (with_reducible refine (F98.calls g s0_0 x1001_87 x1002_87 x1003_87 20 true t571 t572 t573 w0 _ ?s1 ?s2 A125.out).mono ?_); (case s1 => exact au5_1); (case s2 => exact au5_2); rintro e w161 ⟨rfl, hi, hb, hk⟩; (try clear A125); replace HO_510001 := am_ (Kd.S_mono (Kd.S_keep (IsS121.apartS (is5_0_ : IsS121 w0 _ g s0_0 x1001_87 x1002_87 x1003_87) au5_5 (by decide)) hk (fun _ h => h.2)) (fun _ h => h.1)); replace BK496 := ka_ hk BK496 NB496_0; replace BK501 := ka_ hk BK501 NB501_0; replace BK509 := ka_ hk BK509 NB509_0; replace HK := am_ (KeepBut.trans au5_0 hk (.inl rfl)); replace HB := am_ (hb); replace HI0 := am_ (hi); (try clear hb); (try clear hb2); (try clear hk); (try clear hi)) | (go_at_call 72; (with_reducible refine (F72.calls g s0_0 t571 t572 t573 3 t574 t575 t576 t577 w0 _ ?s1 ?s2 A127.out).mono ?_); (case s1 => exact au5_1); (case s2 => exact au5_2); rintro e w162 ⟨rfl, hi, hb, hk⟩; (try clear A127); replace HO_510001 := am_ (Kd.S_mono (Kd.S_keep (IsS121.apartS (is5_0_ : IsS121 w0 _ g s0_0 t571 t572 t573) au5_5 (by decide)) hk (fun _ h => h.2)) (fun _ h => h.1)); replace BK496 := ka_ hk BK496 NB496_0; replace BK501 := ka_ hk BK501 NB501_0; replace BK509 := ka_ hk BK509 NB509_0; replace HK := am_ (KeepBut.trans au5_0 hk (.inl rfl)); replace HB := am_ (hb); replace HI0 := am_ (hi); (try clear hb); (try clear hb2); (try clear hk); (try clear hi); obtain ⟨Ao163, co163, eo163⟩ := Kd.S_slice HO_510001.out; subst eo163))
       replace HO_510001 := am_ (Kd.S_drew HO_510001.out)
       replace BK496 := bd_ BK496
       replace BK501 := bd_ BK501
       replace BK509 := bd_ BK509
       replace HI0 := am_ (IsS121.drew HI0.out)
       replace HK := am_ (keep_drew HK.out)
       replace HB := am_ (below_drew1 HB.out)
       refine start_ (n := 14) (S := fun w' => w'.cell? ⟨gb509, 0, none⟩ = some (.string t505) ∧ w'.cell? ⟨gb509, 1, none⟩ = some (.slice Ao163 x510001_87.length co163)) (ds := [13]) (bs 14 0) (by kernel_rfl) rfl rfl ⟨(blk_cell BK509.out 0).trans rfl, (blk_cell BK509.out 1).trans rfl⟩ (fun hHeld => ?_); refine with_tabW F97.tab20 F97.bits20 (fun HT_ HW_ => ?_)
       generalize w162.drew = w164 at HO_510001 BK496 BK501 BK509 HI0 HK HB hHeld ⊢
       refine pu_ 0 94 (bs 14 1) HT_ ?_ rfl rfl
       refine pu_ 2 96 (bs 14 5) HT_ ?_ rfl rfl
       refine pu_ 5 99 (bs 14 37) HT_ ?_ rfl rfl
       refine tk_ 1 95 (bs 14 39) HT_ HW_ hHeld (by rintro w' ⟨s0, s1⟩; go_simp; with_reducible rfl) ?_ rfl rfl
       refine join_ (σ := Value × Value) 7 (bs 14 127) (fun s_ => [(97, s_.1), (98, .string t591), (100, s_.2)]) (fun s_ w' => (w'.cell? ⟨gb509, 0, none⟩ = some (.string t505) ∧ w'.cell? ⟨gb509, 1, none⟩ = some (.slice Ao163 x510001_87.length co163)) ∧ (Kd.R Kd.string 9 w' w.heap.size (fun k_ => some k_ ≠ (s_.2 : Value).ownBlock) s_.1 y588) ∧ (Kd.R Kd.string 9 w' w.heap.size (fun k_ => some k_ ≠ (s_.1 : Value).ownBlock) s_.2 y595) ∧ (Kd.S k102 102 w' w.heap.size (fun k_ => some k_ ≠ (s_.1 : Value).ownBlock ∧ some k_ ≠ (s_.2 : Value).ownBlock) (.slice Ao163 x510001_87.length co163) x510001_87) ∧ (w'.heap[gb496]? = some (.cells #[.string (⟨#[]⟩ : ByteArray), .slice none 0 0] 59 (0, 0))) ∧ (w'.heap[gb501]? = some (.cells #[.int .i64 t497, .int .i64 t498, .int .i64 t499, .int .i64 t500] 23 (0, 0))) ∧ (w'.heap[gb509]? = some (.cells #[.string t505, .slice Ao163 x510001_87.length co163] 59 (0, 0))) ∧ (IsS121 w0 w' g s0_0 t592 t593 t594) ∧ (KeepBut w w' g none) ∧ (Below w0.heap.size w0 w')) ?_ ?_
       rotate_left
       ·intro hCont
        refine two_ (i := 3) (j := 6) (Ni := some 97) (Nj := some 100) (bs 14 47) (bs 14 103) rfl rfl rfl rfl (two_of HT_.out (by kernel_rfl)) (by decide) (by decide) (fun K hK => ?_) (fun K hK => ?_)
        rotate_left
        ·skip
         refine Kd.R_lit_step Kd.string _ 9 ?hg (N := 100) ?hd (xs := ([(⟨#[]⟩ : ByteArray), (⟨#[98]⟩ : ByteArray)] : List ByteArray)) (inner := [.string (⟨#[]⟩ : ByteArray), .string (⟨#[98]⟩ : ByteArray)]) (ok := fun _ => True) (okp := fun _ => True) ?hr ?hp (fun _ hk => hk) trivial (Below.refl _ _) (Nat.le_refl _) (by simp) ?_; (case hd => rfl); (case hg => rfl); (case hr => exact hr_); (case hp => exact au5_18)
         intro v596 w165 ho166 hb hg_ hnew_
         clear hg_ hnew_
         (first | rw [← Ny595.out] at ho166 | (simp only [Int.reduceToNat] at ho166; rw [← Ny595.out] at ho166))
         replace HO_510001 := am_ (Kd.S_elder' au5_5 (Kd.R_base ho166) hb)
         have HO597 := am_ (Kd.R_lower ho166 (keep_size (w := w) (g := g) (row := none) au5_0))
         replace BK496 := bb_ BK496 hb
         replace BK501 := bb_ BK501 hb
         replace BK509 := bb_ BK509 hb
         replace HK := am_ (KeepBut.trans au5_0 (KeepBut.of_below hb g none) (.inl rfl))
         replace HB := am_ (below_step au5_3 hb)
         replace HI0 := am_ (IsS121.below is5_0_ hb)
         clear hb ho166
         refine hK.out _ _ ⟨(blk_cell BK509.out 0).trans rfl, (blk_cell BK509.out 1).trans rfl⟩ (fun hHeld => ?_)
         clear hK K
         refine no_ 100 ?_
         refine one_ (i := 3) (N := some 97) (bs 14 111) rfl rfl (one_of HT_.out (by kernel_rfl)) (by decide) (fun K hK => ?_)
         refine Kd.R_lit_step Kd.string _ 9 ?hg (N := 97) ?hd (xs := ([(⟨#[10]⟩ : ByteArray), (⟨#[255]⟩ : ByteArray), (⟨#[97]⟩ : ByteArray)] : List ByteArray)) (inner := [.string (⟨#[10]⟩ : ByteArray), .string (⟨#[255]⟩ : ByteArray), .string (⟨#[97]⟩ : ByteArray)]) (ok := fun _ => True) (okp := fun _ => True) ?hr ?hp (fun _ hk => hk) trivial (Below.refl _ _) (Nat.le_refl _) (by simp) ?_; (case hd => rfl); (case hg => rfl); (case hr => exact hr_); (case hp => exact au5_21)
         intro v589 w167 ho168 hb hg_ hnew_
         clear hg_ hnew_
         (first | rw [← Ny588.out] at ho168 | (simp only [Int.reduceToNat] at ho168; rw [← Ny588.out] at ho168))
         replace HO_510001 := am_ (Kd.S_elder' au5_5 (Kd.R_base ho168) hb)
         have HO590 := am_ (Kd.R_lower (Kd.R_new' ho168 (Kd.R_lt (rk_ HO597))) (keep_size (w := w) (g := g) (row := none) au5_0))
         replace HO597 := am_ (Kd.R_elder' (rk_ HO597) (Kd.R_base ho168) hb)
         replace BK496 := bb_ BK496 hb
         replace BK501 := bb_ BK501 hb
         replace BK509 := bb_ BK509 hb
         replace HK := am_ (KeepBut.trans au5_0 (KeepBut.of_below hb g none) (.inl rfl))
         replace HB := am_ (below_step au5_3 hb)
         replace HI0 := am_ (IsS121.below is5_0_ hb)
         clear hb ho168
         obtain ⟨Ao169, co169, eo169⟩ := Kd.R_slice HO590.out
         (first | subst eo169 | (injection eo169 with f1_ f2_ f3_; have f4_ := f1_.symm; have f5_ := f3_.symm; clear f1_ f2_ f3_; subst f4_; subst f5_))
         refine hK.out _ _ ⟨(blk_cell BK509.out 0).trans rfl, (blk_cell BK509.out 1).trans rfl⟩ (fun hHeld => ?_)
         clear hK K
         refine no_ 97 ?_
         refine one_ (i := 4) (N := some 98) (bs 14 127) rfl rfl (one_of HT_.out (by kernel_rfl)) (by decide) (fun K hK => ?_)
         refine gr_ Try.func119 #[.pointer (some ⟨g, 0, none⟩), .slice Ao169 y588.length co169] (by rfl) ?_ rfl rfl rfl
         with_reducible refine (F119.calls g s0_0 t575 t576 t577 _ _ y588 t591 t592 t593 t594 w0 _ ?s1 ?s2 ?s3 ?s4 ?s5 A158.out).mono ?_
         (case s1 => exact au5_1)
         (case s2 => exact au5_2)
         (case s3 => exact au5_20)
         (case s4 => exact (Kd.R_reads' HO590.out).2.1)
         (case s5 => exact au5_37)
         rintro e w170 ⟨rfl, hi, hb, hk⟩
         refine ⟨_, rfl, ?_⟩
         replace HO_510001 := am_ (Kd.S_mono (Kd.S_keep (IsS121.apartS (is5_0_ : IsS121 w0 _ g s0_0 t575 t576 t577) au5_5 (by decide)) hk (fun _ h => h.2)) (fun _ h => h.1))
         replace BK496 := ka_ hk BK496 NB496_0
         replace BK501 := ka_ hk BK501 NB501_0
         replace BK509 := ka_ hk BK509 NB509_0
         replace HO597 := am_ (Kd.R_mono (Kd.R_keep (IsS121.apart (is5_0_ : IsS121 w0 _ g s0_0 t575 t576 t577) (rk_ HO597) (by decide)) hk (fun _ h => h.2)) (fun _ h => h.1))
         replace HO590 := am_ (Kd.R_mono (Kd.R_keep (IsS121.apart (is5_0_ : IsS121 w0 _ g s0_0 t575 t576 t577) (rk_ HO590) (by decide)) hk (fun _ h => h.2)) (fun _ h => h.1))
         replace HK := am_ (KeepBut.trans au5_0 hk (.inl rfl))
         replace HB := am_ (hb)
         replace HI0 := am_ (hi)
         (try clear hb)
         (try clear hb2)
         (try clear hk)
         (try clear hi)
         refine hK.out _ _ ⟨(blk_cell BK509.out 0).trans rfl, (blk_cell BK509.out 1).trans rfl⟩ (fun hHeld => ?_)
         clear hK K
         refine no_ 98 ?_
         exact norm_ au5_31 (hCont (.slice Ao169 y588.length co169, v596) _ ⟨hHeld, au5_26, au5_27, (by (with_reducible repeat (first | apply Kd.S_alloc | apply Kd.S_drewN | apply Kd.S_drew)); exact Kd.S_mono HO_510001.out (fun _ hk => ⟨hk.2, hk.1.2⟩)), (bk_ BK496), (bk_ BK501), (bk_ BK509), is5_0_, au5_0, au5_3⟩)
        skip
        refine Kd.R_lit_step Kd.string _ 9 ?hg (N := 97) ?hd (xs := ([(⟨#[10]⟩ : ByteArray), (⟨#[255]⟩ : ByteArray), (⟨#[97]⟩ : ByteArray)] : List ByteArray)) (inner := [.string (⟨#[10]⟩ : ByteArray), .string (⟨#[255]⟩ : ByteArray), .string (⟨#[97]⟩ : ByteArray)]) (ok := fun _ => True) (okp := fun _ => True) ?hr ?hp (fun _ hk => hk) trivial (Below.refl _ _) (Nat.le_refl _) (by simp) ?_; (case hd => rfl); (case hg => rfl); (case hr => exact hr_); (case hp => exact au5_21)
        intro v589 w165 ho166 hb hg_ hnew_
        clear hg_ hnew_
        (first | rw [← Ny588.out] at ho166 | (simp only [Int.reduceToNat] at ho166; rw [← Ny588.out] at ho166))
        replace HO_510001 := am_ (Kd.S_elder' au5_5 (Kd.R_base ho166) hb)
        have HO590 := am_ (Kd.R_lower ho166 (keep_size (w := w) (g := g) (row := none) au5_0))
        replace BK496 := bb_ BK496 hb
        replace BK501 := bb_ BK501 hb
        replace BK509 := bb_ BK509 hb
        replace HK := am_ (KeepBut.trans au5_0 (KeepBut.of_below hb g none) (.inl rfl))
        replace HB := am_ (below_step au5_3 hb)
        replace HI0 := am_ (IsS121.below is5_0_ hb)
        clear hb ho166
        obtain ⟨Ao167, co167, eo167⟩ := Kd.R_slice HO590.out
        (first | subst eo167 | (injection eo167 with f1_ f2_ f3_; have f4_ := f1_.symm; have f5_ := f3_.symm; clear f1_ f2_ f3_; subst f4_; subst f5_))
        refine hK.out _ _ ⟨(blk_cell BK509.out 0).trans rfl, (blk_cell BK509.out 1).trans rfl⟩ (fun hHeld => ?_)
        clear hK K
        refine no_ 97 ?_
        refine two_ (i := 4) (j := 6) (Ni := some 98) (Nj := some 100) (bs 14 63) (bs 14 111) rfl rfl rfl rfl (two_of HT_.out (by kernel_rfl)) (by decide) (by decide) (fun K hK => ?_) (fun K hK => ?_)
        ·skip
         refine gr_ Try.func119 #[.pointer (some ⟨g, 0, none⟩), .slice Ao167 y588.length co167] (by rfl) ?_ rfl rfl rfl
         with_reducible refine (F119.calls g s0_0 t575 t576 t577 _ _ y588 t591 t592 t593 t594 w0 _ ?s1 ?s2 ?s3 ?s4 ?s5 A158.out).mono ?_
         (case s1 => exact au5_1)
         (case s2 => exact au5_2)
         (case s3 => exact au5_20)
         (case s4 => exact (Kd.R_reads' HO590.out).2.1)
         (case s5 => exact au5_37)
         rintro e w168 ⟨rfl, hi, hb, hk⟩
         refine ⟨_, rfl, ?_⟩
         replace HO_510001 := am_ (Kd.S_mono (Kd.S_keep (IsS121.apartS (is5_0_ : IsS121 w0 _ g s0_0 t575 t576 t577) au5_5 (by decide)) hk (fun _ h => h.2)) (fun _ h => h.1))
         replace BK496 := ka_ hk BK496 NB496_0
         replace BK501 := ka_ hk BK501 NB501_0
         replace BK509 := ka_ hk BK509 NB509_0
         replace HO590 := am_ (Kd.R_mono (Kd.R_keep (IsS121.apart (is5_0_ : IsS121 w0 _ g s0_0 t575 t576 t577) (rk_ HO590) (by decide)) hk (fun _ h => h.2)) (fun _ h => h.1))
         replace HK := am_ (KeepBut.trans au5_0 hk (.inl rfl))
         replace HB := am_ (hb)
         replace HI0 := am_ (hi)
         (try clear hb)
         (try clear hb2)
         (try clear hk)
         (try clear hi)
         refine hK.out _ _ ⟨(blk_cell BK509.out 0).trans rfl, (blk_cell BK509.out 1).trans rfl⟩ (fun hHeld => ?_)
         clear hK K
         refine no_ 98 ?_
         refine one_ (i := 6) (N := some 100) (bs 14 127) rfl rfl (one_of HT_.out (by kernel_rfl)) (by decide) (fun K hK => ?_)
         refine Kd.R_lit_step Kd.string _ 9 ?hg (N := 100) ?hd (xs := ([(⟨#[]⟩ : ByteArray), (⟨#[98]⟩ : ByteArray)] : List ByteArray)) (inner := [.string (⟨#[]⟩ : ByteArray), .string (⟨#[98]⟩ : ByteArray)]) (ok := fun _ => True) (okp := fun _ => True) ?hr ?hp (fun _ hk => hk) trivial (Below.refl _ _) (Nat.le_refl _) (by simp) ?_; (case hd => rfl); (case hg => rfl); (case hr => exact hr_); (case hp => exact au5_18)
         intro v596 w169 ho170 hb hg_ hnew_
         clear hg_ hnew_
         (first | rw [← Ny595.out] at ho170 | (simp only [Int.reduceToNat] at ho170; rw [← Ny595.out] at ho170))
         replace HO_510001 := am_ (Kd.S_elder' au5_5 (Kd.R_base ho170) hb)
         have HO597 := am_ (Kd.R_lower (Kd.R_new' ho170 (Kd.R_lt (rk_ HO590))) (keep_size (w := w) (g := g) (row := none) au5_0))
         replace HO590 := am_ (Kd.R_elder' (rk_ HO590) (Kd.R_base ho170) hb)
         replace BK496 := bb_ BK496 hb
         replace BK501 := bb_ BK501 hb
         replace BK509 := bb_ BK509 hb
         replace HK := am_ (KeepBut.trans au5_0 (KeepBut.of_below hb g none) (.inl rfl))
         replace HB := am_ (below_step au5_3 hb)
         replace HI0 := am_ (IsS121.below is5_0_ hb)
         clear hb ho170
         refine hK.out _ _ ⟨(blk_cell BK509.out 0).trans rfl, (blk_cell BK509.out 1).trans rfl⟩ (fun hHeld => ?_)
         clear hK K
         refine no_ 100 ?_
         exact norm_ au5_31 (hCont (.slice Ao167 y588.length co167, v596) _ ⟨hHeld, au5_26, au5_27, au5_36, (bk_ BK496), (bk_ BK501), (bk_ BK509), is5_0_, au5_0, au5_3⟩)
        skip
        refine Kd.R_lit_step Kd.string _ 9 ?hg (N := 100) ?hd (xs := ([(⟨#[]⟩ : ByteArray), (⟨#[98]⟩ : ByteArray)] : List ByteArray)) (inner := [.string (⟨#[]⟩ : ByteArray), .string (⟨#[98]⟩ : ByteArray)]) (ok := fun _ => True) (okp := fun _ => True) ?hr ?hp (fun _ hk => hk) trivial (Below.refl _ _) (Nat.le_refl _) (by simp) ?_; (case hd => rfl); (case hg => rfl); (case hr => exact hr_); (case hp => exact au5_18)
        intro v596 w167 ho168 hb hg_ hnew_
        clear hg_ hnew_
        (first | rw [← Ny595.out] at ho168 | (simp only [Int.reduceToNat] at ho168; rw [← Ny595.out] at ho168))
        replace HO_510001 := am_ (Kd.S_elder' au5_5 (Kd.R_base ho168) hb)
        have HO597 := am_ (Kd.R_lower (Kd.R_new' ho168 (Kd.R_lt (rk_ HO590))) (keep_size (w := w) (g := g) (row := none) au5_0))
        replace HO590 := am_ (Kd.R_elder' (rk_ HO590) (Kd.R_base ho168) hb)
        replace BK496 := bb_ BK496 hb
        replace BK501 := bb_ BK501 hb
        replace BK509 := bb_ BK509 hb
        replace HK := am_ (KeepBut.trans au5_0 (KeepBut.of_below hb g none) (.inl rfl))
        replace HB := am_ (below_step au5_3 hb)
        replace HI0 := am_ (IsS121.below is5_0_ hb)
        clear hb ho168
        obtain ⟨Ao169, co169, eo169⟩ := Kd.R_slice HO590.out
        (first | subst eo169 | (injection eo169 with f1_ f2_ f3_; have f4_ := f1_.symm; have f5_ := f3_.symm; clear f1_ f2_ f3_; subst f4_; subst f5_))
        refine hK.out _ _ ⟨(blk_cell BK509.out 0).trans rfl, (blk_cell BK509.out 1).trans rfl⟩ (fun hHeld => ?_)
        clear hK K
        refine no_ 100 ?_
        refine one_ (i := 4) (N := some 98) (bs 14 127) rfl rfl (one_of HT_.out (by kernel_rfl)) (by decide) (fun K hK => ?_)
        refine gr_ Try.func119 #[.pointer (some ⟨g, 0, none⟩), .slice Ao169 y588.length co169] (by rfl) ?_ rfl rfl rfl
        with_reducible refine (F119.calls g s0_0 t575 t576 t577 _ _ y588 t591 t592 t593 t594 w0 _ ?s1 ?s2 ?s3 ?s4 ?s5 A158.out).mono ?_
        (case s1 => exact au5_1)
        (case s2 => exact au5_2)
        (case s3 => exact au5_20)
        (case s4 => exact (Kd.R_reads' HO590.out).2.1)
        (case s5 => exact au5_37)
        rintro e w170 ⟨rfl, hi, hb, hk⟩
        refine ⟨_, rfl, ?_⟩
        replace HO_510001 := am_ (Kd.S_mono (Kd.S_keep (IsS121.apartS (is5_0_ : IsS121 w0 _ g s0_0 t575 t576 t577) au5_5 (by decide)) hk (fun _ h => h.2)) (fun _ h => h.1))
        replace BK496 := ka_ hk BK496 NB496_0
        replace BK501 := ka_ hk BK501 NB501_0
        replace BK509 := ka_ hk BK509 NB509_0
        replace HO590 := am_ (Kd.R_mono (Kd.R_keep (IsS121.apart (is5_0_ : IsS121 w0 _ g s0_0 t575 t576 t577) (rk_ HO590) (by decide)) hk (fun _ h => h.2)) (fun _ h => h.1))
        replace HO597 := am_ (Kd.R_mono (Kd.R_keep (IsS121.apart (is5_0_ : IsS121 w0 _ g s0_0 t575 t576 t577) (rk_ HO597) (by decide)) hk (fun _ h => h.2)) (fun _ h => h.1))
        replace HK := am_ (KeepBut.trans au5_0 hk (.inl rfl))
        replace HB := am_ (hb)
        replace HI0 := am_ (hi)
        (try clear hb)
        (try clear hb2)
        (try clear hk)
        (try clear hi)
        refine hK.out _ _ ⟨(blk_cell BK509.out 0).trans rfl, (blk_cell BK509.out 1).trans rfl⟩ (fun hHeld => ?_)
        clear hK K
        refine no_ 98 ?_
        exact norm_ au5_31 (hCont (.slice Ao169 y588.length co169, v596) _ ⟨hHeld, au5_26, au5_27, au5_36, (bk_ BK496), (bk_ BK501), (bk_ BK509), is5_0_, au5_0, au5_3⟩)
       rintro ⟨v589, v596⟩ w171 ⟨hS_, h0_, h1_, h2_, h3_, h4_, h5_, h6_, h7_, h8_⟩
       have n0_ : Aside0 (Kd.R Kd.string 9 w171 w.heap.size (fun k_ => some k_ ≠ (v596 : Value).ownBlock) v589 y588) := ⟨h0_⟩
       have n1_ : Aside0 (Kd.R Kd.string 9 w171 w.heap.size (fun k_ => some k_ ≠ (v589 : Value).ownBlock) v596 y595) := ⟨h1_⟩
       have n2_ : Aside0 (Kd.S k102 102 w171 w.heap.size (fun k_ => some k_ ≠ (v589 : Value).ownBlock ∧ some k_ ≠ (v596 : Value).ownBlock) (.slice Ao163 x510001_87.length co163) x510001_87) := ⟨h2_⟩
       have n3_ : Aside0 (w171.heap[gb496]? = some (.cells #[.string (⟨#[]⟩ : ByteArray), .slice none 0 0] 59 (0, 0))) := ⟨h3_⟩
       have n4_ : Aside0 (w171.heap[gb501]? = some (.cells #[.int .i64 t497, .int .i64 t498, .int .i64 t499, .int .i64 t500] 23 (0, 0))) := ⟨h4_⟩
       have n5_ : Aside0 (w171.heap[gb509]? = some (.cells #[.string t505, .slice Ao163 x510001_87.length co163] 59 (0, 0))) := ⟨h5_⟩
       have n6_ : Aside0 (IsS121 w0 w171 g s0_0 t592 t593 t594) := ⟨h6_⟩
       have n7_ : Aside0 (KeepBut w w171 g none) := ⟨h7_⟩
       have n8_ : Aside0 (Below w0.heap.size w0 w171) := ⟨h8_⟩
       clear HO_510001
       clear BK496
       clear BK501
       clear BK509
       clear HI0
       clear HK
       clear HB
       clear h0_ h1_ h2_ h3_ h4_ h5_ h6_ h7_ h8_
       have HO590 := n0_
       have HO597 := n1_
       have HO_510001 := n2_
       have BK496 := n3_
       have BK501 := n4_
       have BK509 := n5_
       have HI0 := n6_
       have HK := n7_
       have HB := n8_
       clear n0_ n1_ n2_ n3_ n4_ n5_ n6_ n7_ n8_
       have hHeld : w171.cell? ⟨gb509, 0, none⟩ = some (.string t505) ∧ w171.cell? ⟨gb509, 1, none⟩ = some (.slice Ao163 x510001_87.length co163) := hS_
       obtain ⟨Ao172, co172, eo172⟩ := Kd.R_slice HO597.out
       (first | subst eo172 | (injection eo172 with f1_ f2_ f3_; have f4_ := f1_.symm; have f5_ := f3_.symm; clear f1_ f2_ f3_; subst f4_; subst f5_))
       refine norm_ (a' := ?_) ?_ ?_
       rotate_left
       ·simp only [putAll, Act.put, List.setIfInBounds_toArray, List.set_cons_zero, List.set_cons_succ]
        rfl
       refine one_ (i := 7) (N := some 101) (bs 14 255) rfl rfl (one_of HT_.out (by kernel_rfl)) (by decide) (fun K hK => ?_)
       refine gr_ Try.func119 #[.pointer (some ⟨g, 0, none⟩), .slice Ao172 y595.length co172] (by rfl) ?_ rfl rfl rfl
       with_reducible refine (F119.calls g s0_0 t592 t593 t594 _ _ y595 t598 t599 t600 t601 w0 _ ?s1 ?s2 ?s3 ?s4 ?s5 A159.out).mono ?_
       (case s1 => exact au5_1)
       (case s2 => exact au5_2)
       (case s3 => repeat (first | exact (Kd.R_reads' HO597.out).2.2 | (with_reducible refine Kd.C_alloc ?_ _) | (with_reducible refine Kd.C_drewN ?_ _) | (with_reducible refine Kd.C_drew ?_)))
       (case s4 => exact (Kd.R_reads' HO597.out).2.1)
       (case s5 => exact far_slice (IsS121.own_ne HI0.out HO597.out (by decide)))
       rintro e w173 ⟨rfl, hi, hb, hk⟩
       refine ⟨_, rfl, ?_⟩
       replace HO_510001 := am_ (Kd.S_mono (Kd.S_keep (IsS121.apartS (is5_0_ : IsS121 w0 _ g s0_0 t592 t593 t594) au5_5 (by decide)) hk (fun _ h => h.2)) (fun _ h => h.1))
       replace BK496 := ka_ hk BK496 NB496_0
       replace BK501 := ka_ hk BK501 NB501_0
       replace BK509 := ka_ hk BK509 NB509_0
       replace HO590 := am_ (Kd.R_mono (Kd.R_keep (IsS121.apart (is5_0_ : IsS121 w0 _ g s0_0 t592 t593 t594) (rk_ HO590) (by decide)) hk (fun _ h => h.2)) (fun _ h => h.1))
       replace HO597 := am_ (Kd.R_mono (Kd.R_keep (IsS121.apart (is5_0_ : IsS121 w0 _ g s0_0 t592 t593 t594) (rk_ HO597) (by decide)) hk (fun _ h => h.2)) (fun _ h => h.1))
       replace HK := am_ (KeepBut.trans au5_0 hk (.inl rfl))
       replace HB := am_ (hb)
       replace HI0 := am_ (hi)
       (try clear hb)
       (try clear hb2)
       (try clear hk)
       (try clear hi)
       refine hK.out _ _ ⟨(blk_cell BK509.out 0).trans rfl, (blk_cell BK509.out 1).trans rfl⟩ (fun hHeld => ?_)
       clear hK K
       refine no_ 101 ?_
       refine one_ (i := 8) (N := some 102) (bs 14 511) rfl rfl (one_of HT_.out (by kernel_rfl)) (by decide) (fun K hK => ?_)
       refine Kd.R_lit_step Kd.string _ 9 ?hg (N := 102) ?hd (xs := ([t591, t598] : List ByteArray)) (inner := [.string t591, .string t598]) (ok := fun _ => True) (okp := fun _ => True) ?hr ?hp (fun _ hk => hk) trivial (Below.refl _ _) (Nat.le_refl _) (by simp) ?_; (case hd => rfl); (case hg => rfl); (case hr => exact hr_); (case hp => exact (Reps.one (show Kd.M Kd.string _ _ _ t591 [.string t591] from rfl) (Reps.one (show Kd.M Kd.string _ _ _ t598 [.string t598] from rfl) (Reps.none _ _))))
       intro v603 w174 ho175 hb hg_ hnew_
       clear hg_ hnew_
       (first | rw [← Ny602.out] at ho175 | (simp only [Int.reduceToNat] at ho175; rw [← Ny602.out] at ho175))
       replace HO_510001 := am_ (Kd.S_elder' au5_5 (Kd.R_base ho175) hb)
       have HO604 := am_ (Kd.R_lower (Kd.R_new' (Kd.R_new' ho175 (Kd.R_lt (rk_ HO590))) (Kd.R_lt (rk_ HO597))) (keep_size (w := w) (g := g) (row := none) au5_0))
       replace HO590 := am_ (Kd.R_elder' (rk_ HO590) (Kd.R_base ho175) hb)
       replace HO597 := am_ (Kd.R_elder' (rk_ HO597) (Kd.R_base ho175) hb)
       replace BK496 := bb_ BK496 hb
       replace BK501 := bb_ BK501 hb
       replace BK509 := bb_ BK509 hb
       replace HK := am_ (KeepBut.trans au5_0 (KeepBut.of_below hb g none) (.inl rfl))
       replace HB := am_ (below_step au5_3 hb)
       replace HI0 := am_ (IsS121.below is5_0_ hb)
       clear hb ho175
       obtain ⟨Ao176, co176, eo176⟩ := Kd.R_slice HO604.out
       (first | subst eo176 | (injection eo176 with f1_ f2_ f3_; have f4_ := f1_.symm; have f5_ := f3_.symm; clear f1_ f2_ f3_; subst f4_; subst f5_))
       refine hK.out _ _ ⟨(blk_cell BK509.out 0).trans rfl, (blk_cell BK509.out 1).trans rfl⟩ (fun hHeld => ?_)
       clear hK K
       refine no_ 102 ?_
       refine pu_ 9 103 (bs 14 1023) HT_ ?_ rfl rfl
       refine one_ (i := 10) (N := some 104) (bs 14 2047) rfl rfl (one_of HT_.out (by kernel_rfl)) (by decide) (fun K hK => ?_)
       refine value_ (w1 := ?_) (v := ?_) (by rfl) rfl ?_ ?_
       rotate_left 2
       ·go_simp
        constructor
        ·rfl
        ·rfl
       refine hK.out _ _ ⟨(blk_cell (blk_alloc BK509.out _) 0).trans rfl, (blk_cell (blk_alloc BK509.out _) 1).trans rfl⟩ (fun hHeld => ?_)
       clear hK K
       refine no_ 104 ?_
       refine one_ (i := 11) (N := some 105) (bs 14 4095) rfl rfl (one_of HT_.out (by kernel_rfl)) (by decide) (fun K hK => ?_)
       refine Kd.S_append_step k102 w.heap.size (by rfl) (.tmp 95) (.tmp 104) 57 102 (.agg #[(.slice none 0 0)]) 24 rfl Try.underlying57 info102 rfl (by decide) (by omega) (.slice Ao163 x510001_87.length co163) x510001_87 (⟨y602⟩ : S102) [.slice Ao176 y602.length co176] (fun k_ => some k_ ≠ (v589 : Value).ownBlock ∧ some k_ ≠ (.slice Ao172 y595.length co172 : Value).ownBlock) (fun k_ => some k_ = (.slice Ao176 y602.length co176 : Value).ownBlock) rfl rfl ?aP (fun k_ hk_ => ((Kd.R_mono (ok' := fun k_ => ((fun k_ => some k_ ≠ (v589 : Value).ownBlock ∧ some k_ ≠ (.slice Ao172 y595.length co172 : Value).ownBlock)) k_ ∧ some k_ ≠ (.slice Ao163 x510001_87.length co163 : Value).ownBlock) (Kd.R_apart' (HO604.out) (Kd.S_typed HO_510001.out) (by decide)) (fun k_ hk => ⟨⟨hk.1.1.2, hk.1.2⟩, hk.2⟩))).1 k_ hk_.symm) ?aF ?aO (Below.refl _ _) ?aS ?aL ?_
       (case aP => exact k102_mkM _ _ _ (⟨y602⟩ : S102) (Kd.R_mono (Kd.R_tight rfl (Kd.R_mono (ok' := fun k_ => ((fun k_ => some k_ ≠ (v589 : Value).ownBlock ∧ some k_ ≠ (.slice Ao172 y595.length co172 : Value).ownBlock)) k_ ∧ some k_ ≠ (.slice Ao163 x510001_87.length co163 : Value).ownBlock) (Kd.R_apart' (HO604.out) (Kd.S_typed HO_510001.out) (by decide)) (fun k_ hk => ⟨⟨hk.1.1.2, hk.1.2⟩, hk.2⟩))) (fun _ h_ => h_)))
       (case aF => exact (fun k_ hk => ⟨Kd.fresh' (Kd.R_lt (rk_ HO590)) k_ hk, Kd.fresh' (Kd.R_lt (rk_ HO597)) k_ hk⟩))
       (case aO => exact (by (with_reducible repeat (first | apply Kd.S_alloc | apply Kd.S_drewN | apply Kd.S_drew)); exact Kd.S_mono HO_510001.out (fun k_ hk => ⟨⟨hk.1.1, hk.1.2⟩, fun e_ => hk.2 e_⟩)))
       (case aS => exact (keep_size (w := w) (g := g) (row := none) au5_0))
       (case aL => have := LMc160.out; omega)
       intro v606 w177 ho hb hg hat
       rw [← Ny605.out] at ho
       have n0_ := am_ (bg_ BK496 hg (Kd.S_ne HO_510001.out BK496.out (by decide)))
       have n1_ := am_ (bg_ BK501 hg (Kd.S_ne HO_510001.out BK501.out (by decide)))
       have n2_ := am_ (bg_ BK509 hg (Kd.S_ne HO_510001.out BK509.out (by decide)))
       have n3_ := am_ (IsS121.grown is5_0_ hg (IsS121.own_neS HI0.out HO_510001.out (by decide)))
       have n4_ := am_ (Kd.R_over' (rk_ HO590) (Kd.S_typed au5_5) (by decide) hg)
       have n5_ := am_ (Kd.R_over' (rk_ HO597) (Kd.S_typed au5_5) (by decide) hg)
       have n6_ := am_ (below_weaken au5_3 HL.out hb)
       have n7_ := am_ (KeepBut.trans au5_0 (KeepBut.of_grown hg g) (Kd.S_base2 HO_510001.out))
       have n8_ := am_ (ho)
       clear BK496
       clear BK501
       clear BK509
       clear HI0
       clear HO590
       clear HO597
       clear HB
       clear HK
       clear HO_510001
       clear HO604
       have BK496 := n0_
       have BK501 := n1_
       have BK509 := n2_
       have HI0 := n3_
       have HO590 := n4_
       have HO597 := n5_
       have HB := n6_
       have HK := n7_
       have HO607 := n8_
       clear n0_ n1_ n2_ n3_ n4_ n5_ n6_ n7_ n8_
       clear ho hb hg hat
       obtain ⟨Ao178, co178, eo178⟩ := Kd.S_slice HO607.out
       (first | subst eo178 | (injection eo178 with f1_ f2_ f3_; have f4_ := f1_.symm; have f5_ := f3_.symm; clear f1_ f2_ f3_; subst f4_; subst f5_))
       refine hK.out _ _ ⟨(blk_cell BK509.out 0).trans rfl, (blk_cell BK509.out 1).trans rfl⟩ (fun hHeld => ?_)
       clear hK K
       refine no_ 105 ?_
       refine pu_ 12 106 (bs 14 8191) HT_ ?_ rfl rfl
       refine last_ (i := 13) (N := none) (bs 14 16383) rfl rfl (one_of HT_.out (by kernel_rfl)) (by decide) (fun K hK => ?_)
       have hs179 : w177.cell? ⟨gb509, 1, none⟩ = some (.slice Ao163 x510001_87.length co163) := (blk_cell BK509.out 1).trans rfl
       have hfs179 := blk_frozen BK509.out 1
       have hns179_0 := NB496_509.out
       have hns179_1 := NB501_509.out
       have hms179_0 := NB509_496.out
       have hms179_1 := NB509_501.out
       refine skip_ (w1 := ?_) (by rfl) rfl ?_ ?_
       rotate_left
       ·go_simp
        rfl
       refine hK.out _ _ ?_
       clear hK K
       refine done_ (done_of HT_.out (by kernel_rfl)) ?_
       have hnb180 := NB509_496.out
       have hnc180 := NB496_509.out
       have hnb181 := NB509_501.out
       have hnc181 := NB501_509.out
       have hnb182 := NB509_0.out
       have hnc182 := NB0_509.out
       obtain ⟨hcz183_0, hcz183_1, hfz183_0, hfz183_1⟩ := cellsF2 BK509.out
       have hnb184 := NB496_501.out
       have hnc184 := NB501_496.out
       have hnb185 := NB496_0.out
       have hnc185 := NB0_496.out
       obtain ⟨hcz186_0, hcz186_1, hfz186_0, hfz186_1⟩ := cellsF2 BK496.out
       try go_wp2
       refine bodyPost_ret (results_cell_row rfl _ _ gb496 59 #[.string t505, .slice Ao178 y605.length co178] (0, 0) _ rfl (bq_ BK496) Try.underlying59 rfl (by kernel_rfl)) rfl ?_
       exact ⟨_, au5_14, by (with_reducible repeat (first | apply Kd.S_alloc | apply Kd.S_drewN | apply Kd.S_drew)); exact Kd.S_mono (Kd.S_far (p := ⟨gb496, 1, none⟩) (Kd.S_far (p := ⟨gb496, 0, none⟩) (Kd.S_far (p := ⟨gb509, 1, none⟩) (Kd.S_types (Kd.S_types HO607.out BK509.out (by decide)) BK496.out (by decide)) (fun _ hk => hk.1.2) (.slice Ao178 y605.length co178)) (fun _ hk => hk.2) (.string t505)) (fun _ hk => hk.2) (.slice Ao178 y605.length co178)) (fun _ hk => trivial), is5_0_, au5_6, au5_7⟩
/-! ### F55: function 55 -/
def F55.f (k : Nat) (l0 : List Int) : Option (Int × Int × Int × Int × ByteArray × (List (S102))) := (F64.f k l0).bind fun bt610 => ((F65.f k bt610.1 bt610.2.1 bt610.2.2.1 bt610.2.2.2).bind fun bt615 => ((F97.f k bt610.1 bt615.2.2.2.2.1 bt615.2.2.2.2.2.1 bt615.2.2.2.2.2.2).bind fun bt623 => (some (bt615.1, bt615.2.1, bt615.2.2.1, bt615.2.2.2.1, bt623.1, bt623.2.1))))
theorem F55.mono : ∀ a0 k, LeO (F55.f k a0) (F55.f (k + 1) a0) := by
 intro a0 k
 unfold F55.f
 repeat' with_reducible first | exact F64.mono _ _ | exact F97.mono _ _ _ _ _ | exact F65.mono _ _ _ _ _ | exact LeO.refl _ | exact LeO.none _ | refine LeO.ite ?_ ?_ | refine LeO.bind ?_ (fun _ => ?_)
theorem F55.calls (k : Nat) (A0 : Option Addr) (c0 : Nat) (l0 : List Int) (r1 : Int) (r2 : Int) (r3 : Int) (r4 : Int) (r5 : ByteArray) (r6 : List (S102)) (w : World) (hr0 : Kd.C (Kd.int .u8) w A0 l0.length l0) (hc0 : l0.length ≤ c0) (h : F55.f k l0 = some (r1, r2, r3, r4, r5, r6)) :
  Calls Try.prog 55 #[.slice A0 l0.length c0] w fun e w' => ∃ v5_ : Value, e = .returned (.tuple #[.agg #[.int .i64 r1, .int .i64 r2, .int .i64 r3, .int .i64 r4], .agg #[.string r5, v5_]]) ∧ Kd.S k102 102 w' w.heap.size (fun _ => True) v5_ r6 ∧ Below w.heap.size w w' := by
 have hu23 := Try.underlying23
 have hu59 := Try.underlying59
 have HR0 := am_ hr0
 have HC0 := am_ hc0
 clear hr0 hc0
 have HB := am_ (Below.refl w.heap.size w)
 have H : ((F64.f k l0).bind fun bt610 => ((F65.f k bt610.1 bt610.2.1 bt610.2.2.1 bt610.2.2.2).bind fun bt615 => ((F97.f k bt610.1 bt615.2.2.2.2.1 bt615.2.2.2.2.2.1 bt615.2.2.2.2.2.2).bind fun bt623 => (some (bt615.1, bt615.2.1, bt615.2.2.1, bt615.2.2.2.1, bt623.1, bt623.2.1))))) = some (r1, r2, r3, r4, r5, r6) := h
 clear h
 replace H := bi_ H; rcases H with ⟨⟨t610, t611, t612, t613⟩, A2, H⟩
 replace H := bi_ H; rcases H with ⟨⟨t615, t616, t617, t618, t619, t620, t621⟩, A3, H⟩
 replace H := bi_ H; rcases H with ⟨⟨t623, t624, t627, t628, t629⟩, A4, H⟩
 simp only [Option.some.injEq, Prod.mk.injEq] at H
 obtain ⟨rfl, rfl, rfl, rfl, rfl, rfl⟩ := H
 go_enter Try.func55, Try.ntmps55
 try go_wp2_with (first | ((with_reducible refine gate_dst (N := 2) rfl ?_); refine be_ 2 #[.int .i64 0, .int .i64 0, .int .i64 0, .int .i64 0] 23 ?_; intro gb608 hg w5 hbox hb; have BK608 := am_ (hbox); have GW608 := am_ (gw_ hg bl_); have GE608 := GW608; replace HB := hs_ w hb; clear hb hbox hg) | ((with_reducible refine gate_dst (N := 3) rfl ?_); refine be_ 3 #[.string (⟨#[]⟩ : ByteArray), .slice none 0 0] 59 ?_; intro gb609 hg w6 hbox hb; have BK609 := am_ (hbox); have GW609 := am_ (gw_ hg bl_); have GE609 := GW609; replace HB := hs_ w hb; have NB608_609 := am_ (gn_ hg (blkl_ BK608)); have NB609_608 := am_ (gm_ hg (blkl_ BK608)); replace BK608 := bb_ BK608 hb; clear hb hbox hg) | ((with_reducible refine gate_callee (f := 64) rfl ?_); refine gl_ 7 Try.func64 #[.slice A0 l0.length c0] ?_ rfl rfl rfl rfl; (with_reducible refine (F64.calls k _ _ l0 t610 t611 t612 t613 w _ ?s1 ?s2 ?s3 A2.out).mono ?_); (case s1 => repeat (first | (with_reducible first | exact HB.out | apply below_alloc | apply pw_below_drewN | apply below_drew1 | refine below_set ?_ GE608.out | refine below_set ?_ GE609.out) | exact HB.out)); (case s2 => exact HR0.out); (case s3 => exact HC0.out); rintro e w7 ⟨g614, rfl, hi, hb, hb2⟩; refine ⟨_, rfl, ?_⟩; replace HB := am_ (hb); have HI614 := am_ (hi); have NB614_608 := am_ (IsS121.ne_blk hi (blkb_ BK608 hb2) (by decide)); have NB608_614 := am_ (Ne.symm (IsS121.ne_blk hi (blkb_ BK608 hb2) (by decide))); replace BK608 := am_ (blkb_ BK608 hb2); have NB614_609 := am_ (IsS121.ne_blk hi (blkb_ BK609 hb2) (by decide)); have NB609_614 := am_ (Ne.symm (IsS121.ne_blk hi (blkb_ BK609 hb2) (by decide))); replace BK609 := am_ (blkb_ BK609 hb2); (try clear hb hb2 hi)) | ((with_reducible refine gate_callee (f := 65) rfl ?_); refine gl_ 9 Try.func65 #[.pointer (some ⟨g614, 0, none⟩)] ?_ rfl rfl rfl rfl; (with_reducible refine (F65.calls k g614 t610 t611 t612 t613 t615 t616 t617 t618 t619 t620 t621 w _ ?s1 ?s2 A3.out).mono ?_); (case s1 => repeat (first | (with_reducible first | exact HI614.out | apply IsS121.alloc | apply IsS121.drewN | apply IsS121.drew | apply IsS121.set_1 | apply IsS121.set_2 | apply IsS121.set_3 | refine IsS121.far ?_ NB614_608.out _ | refine IsS121.far ?_ NB614_609.out _) | exact HI614.out)); (case s2 => repeat (first | (with_reducible first | exact HB.out | apply below_alloc | apply pw_below_drewN | apply below_drew1 | refine below_set ?_ (IsS121.ge HI614.out) | refine below_set ?_ GE608.out | refine below_set ?_ GE609.out) | exact HB.out)); rintro e w8 ⟨rfl, hi, hb, hk⟩; refine ⟨_, rfl, ?_⟩; replace BK608 := ka_ hk BK608 NB608_614; replace BK609 := ka_ hk BK609 NB609_614; replace HB := am_ (hb); replace HI614 := am_ (hi); (try clear hb hk hi)) | ((with_reducible refine gate_dst (N := 5) rfl ?_); refine be_ 5 #[.int .i64 0, .int .i64 0, .int .i64 0, .int .i64 0] 23 ?_; intro gb622 hg w9 hbox hb; have BK622 := am_ (hbox); have GW622 := am_ ((by rw [hg]; exact (below_size au5_17) : w.heap.size ≤ gb622)); have GE622 := am_ ((by rw [hg]; exact (below_size au5_17) : w.heap.size ≤ gb622)); replace HB := am_ (below_step au5_17 hb); have NB608_622 := am_ (gn_ hg (blkl_ BK608)); have NB622_608 := am_ (gm_ hg (blkl_ BK608)); replace BK608 := bb_ BK608 hb; have NB609_622 := am_ (gn_ hg (blkl_ BK609)); have NB622_609 := am_ (gm_ hg (blkl_ BK609)); replace BK609 := bb_ BK609 hb; have NB614_622 := am_ ((by rw [hg]; exact Nat.ne_of_lt (IsS121.lt (is5_1_ : IsS121 w _ g614 t610 t619 t620 t621)) : g614 ≠ gb622)); have NB622_614 := am_ ((by rw [hg]; exact Nat.ne_of_gt (IsS121.lt (is5_1_ : IsS121 w _ g614 t610 t619 t620 t621)) : gb622 ≠ g614)); replace HI614 := am_ (IsS121.below is5_1_ hb); clear hb hbox hg; have hnb10 := NB622_608.out; have hnc10 := NB608_622.out; have hnb11 := NB622_609.out; have hnc11 := NB609_622.out; have hnb12 := NB622_614.out; have hnc12 := NB614_622.out; obtain ⟨hcz13_0, hcz13_1, hcz13_2, hcz13_3, hfz13_0, hfz13_1, hfz13_2, hfz13_3⟩ := cellsF4 BK622.out))
 have n0_ : Aside0 (((((w9.setCell ⟨gb622, 0, none⟩ (.int .i64 t615)).setCell ⟨gb622, 1, none⟩ (.int .i64 t616)).setCell ⟨gb622, 2, none⟩ (.int .i64 t617)).setCell ⟨gb622, 3, none⟩ (.int .i64 t618)).heap[gb608]? = some (.cells #[.int .i64 0, .int .i64 0, .int .i64 0, .int .i64 0] 23 (0, 0))) := ⟨bf_ BK608⟩
 have n1_ : Aside0 (((((w9.setCell ⟨gb622, 0, none⟩ (.int .i64 t615)).setCell ⟨gb622, 1, none⟩ (.int .i64 t616)).setCell ⟨gb622, 2, none⟩ (.int .i64 t617)).setCell ⟨gb622, 3, none⟩ (.int .i64 t618)).heap[gb609]? = some (.cells #[.string (⟨#[]⟩ : ByteArray), .slice none 0 0] 59 (0, 0))) := ⟨bf_ BK609⟩
 have n2_ : Aside0 (((((w9.setCell ⟨gb622, 0, none⟩ (.int .i64 t615)).setCell ⟨gb622, 1, none⟩ (.int .i64 t616)).setCell ⟨gb622, 2, none⟩ (.int .i64 t617)).setCell ⟨gb622, 3, none⟩ (.int .i64 t618)).heap[gb622]? = some (.cells #[.int .i64 t615, .int .i64 t616, .int .i64 t617, .int .i64 t618] 23 (0, 0))) := ⟨bq_ BK622⟩
 have n3_ : Aside0 (IsS121 w ((((w9.setCell ⟨gb622, 0, none⟩ (.int .i64 t615)).setCell ⟨gb622, 1, none⟩ (.int .i64 t616)).setCell ⟨gb622, 2, none⟩ (.int .i64 t617)).setCell ⟨gb622, 3, none⟩ (.int .i64 t618)) g614 t610 t619 t620 t621) := ⟨is5_1_⟩
 have n4_ : Aside0 (Below w.heap.size w ((((w9.setCell ⟨gb622, 0, none⟩ (.int .i64 t615)).setCell ⟨gb622, 1, none⟩ (.int .i64 t616)).setCell ⟨gb622, 2, none⟩ (.int .i64 t617)).setCell ⟨gb622, 3, none⟩ (.int .i64 t618))) := ⟨au5_25⟩
 (try clear BK608)
 (try clear BK609)
 (try clear BK622)
 (try clear HI614)
 (try clear HB)
 generalize ((((w9.setCell ⟨gb622, 0, none⟩ (.int .i64 t615)).setCell ⟨gb622, 1, none⟩ (.int .i64 t616)).setCell ⟨gb622, 2, none⟩ (.int .i64 t617)).setCell ⟨gb622, 3, none⟩ (.int .i64 t618)) = w14 at n0_ n1_ n2_ n3_ n4_ ⊢
 have BK608 := n0_
 have BK609 := n1_
 have BK622 := n2_
 have HI614 := n3_
 have HB := n4_
 clear n0_ n1_ n2_ n3_ n4_
 replace BK608 := bd_ BK608
 replace BK609 := bd_ BK609
 replace BK622 := bd_ BK622
 replace HI614 := am_ (IsS121.drew HI614.out)
 replace HB := am_ (below_drew1 HB.out)
 refine start_ (n := 5) (S := fun w' => w'.cell? ⟨gb622, 0, none⟩ = some (.int .i64 t615) ∧ w'.cell? ⟨gb622, 1, none⟩ = some (.int .i64 t616) ∧ w'.cell? ⟨gb622, 2, none⟩ = some (.int .i64 t617) ∧ w'.cell? ⟨gb622, 3, none⟩ = some (.int .i64 t618)) (ds := []) #[false, false, false, false, false] (by kernel_rfl) rfl rfl ⟨(blk_cell BK622.out 0).trans rfl, (blk_cell BK622.out 1).trans rfl, (blk_cell BK622.out 2).trans rfl, (blk_cell BK622.out 3).trans rfl⟩ (fun hHeld => ?_)
 generalize w14.drew = w15 at BK608 BK609 BK622 HI614 HB hHeld ⊢
 refine pk_ 1 11 #[false, true, false, false, false] ?_ rfl rfl
 refine take_ (i := 0) (N := some 10) (v := ?_) (a' := ?_) #[true, true, false, false, false] rfl rfl (by kernel_rfl) (fun _ _ _ h => h) (Or.inl ⟨by rfl, ?_⟩) hHeld ?_ ?_
 rotate_left
 ·rintro w' ⟨s0, s1, s2, s3⟩
  go_simp
  with_reducible rfl
 rotate_left
 ·simp only [Act.put, List.setIfInBounds_toArray, List.set_cons_zero, List.set_cons_succ, i64_w, i32_w]
  rfl
 refine one_ (i := 2) (N := some 12) #[true, true, true, false, false] rfl rfl (by kernel_rfl) (by decide) (fun K hK => ?_)
 refine gr_ Try.func97 #[.pointer (some ⟨g614, 0, none⟩)] (by rfl) ?_ rfl rfl rfl
 with_reducible refine (F97.calls k g614 t610 t619 t620 t621 t623 t624 t627 t628 t629 w _ ?s1 ?s2 A4.out).mono ?_
 (case s1 => repeat (first | (with_reducible first | exact HI614.out | apply IsS121.alloc | apply IsS121.drewN | apply IsS121.drew | apply IsS121.set_1 | apply IsS121.set_2 | apply IsS121.set_3 | refine IsS121.far ?_ NB614_608.out _ | refine IsS121.far ?_ NB614_609.out _ | refine IsS121.far ?_ NB614_622.out _) | exact HI614.out))
 (case s2 => repeat (first | (with_reducible first | exact HB.out | apply below_alloc | apply pw_below_drewN | apply below_drew1 | refine below_set ?_ (IsS121.ge HI614.out) | refine below_set ?_ GE608.out | refine below_set ?_ GE609.out | refine below_set ?_ GE622.out) | exact HB.out))
 rintro e w16 ⟨v625, rfl, ho0, hi, hb, hk⟩
 refine ⟨_, rfl, ?_⟩
 replace BK608 := ka_ hk BK608 NB608_614
 replace BK609 := ka_ hk BK609 NB609_614
 replace BK622 := ka_ hk BK622 NB622_614
 have HO626 := am_ (Kd.S_lower ho0 (below_size (by repeat (first | (with_reducible first | exact HB.out | apply below_alloc | apply pw_below_drewN | apply below_drew1 | refine below_set ?_ (IsS121.ge HI614.out) | refine below_set ?_ GE608.out | refine below_set ?_ GE609.out | refine below_set ?_ GE622.out) | exact HB.out))))
 replace HB := am_ (hb)
 replace HI614 := am_ (hi)
 (try clear hb)
 (try clear hb2)
 (try clear hk)
 (try clear hi)
 (try clear ho0)
 obtain ⟨Ao22, co22, eo22⟩ := Kd.S_slice HO626.out
 (first | subst eo22 | (injection eo22 with f1_ f2_ f3_; have f4_ := f1_.symm; have f5_ := f3_.symm; clear f1_ f2_ f3_; subst f4_; subst f5_))
 refine hK.out _ _ ⟨(blk_cell BK622.out 0).trans rfl, (blk_cell BK622.out 1).trans rfl, (blk_cell BK622.out 2).trans rfl, (blk_cell BK622.out 3).trans rfl⟩ (fun hHeld => ?_)
 clear hK K
 refine no_ 12 ?_
 refine one_ (i := 3) (N := none) #[true, true, true, true, false] rfl rfl (by kernel_rfl) (by decide) (fun K hK => ?_)
 have hs17 : w16.cell? ⟨gb608, 0, none⟩ = some (.int .i64 0) := (blk_cell BK608.out 0).trans rfl
 have hfs17 := blk_frozen BK608.out 0
 have hns17_1 := NB609_608.out
 have hns17_2 := NB622_608.out
 have hms17_1 := NB608_609.out
 have hms17_2 := NB608_622.out
 have hs18 : w16.cell? ⟨gb608, 1, none⟩ = some (.int .i64 0) := (blk_cell BK608.out 1).trans rfl
 have hfs18 := blk_frozen BK608.out 1
 have hns18_1 := NB609_608.out
 have hns18_2 := NB622_608.out
 have hms18_1 := NB608_609.out
 have hms18_2 := NB608_622.out
 have hs19 : w16.cell? ⟨gb608, 2, none⟩ = some (.int .i64 0) := (blk_cell BK608.out 2).trans rfl
 have hfs19 := blk_frozen BK608.out 2
 have hns19_1 := NB609_608.out
 have hns19_2 := NB622_608.out
 have hms19_1 := NB608_609.out
 have hms19_2 := NB608_622.out
 have hs20 : w16.cell? ⟨gb608, 3, none⟩ = some (.int .i64 0) := (blk_cell BK608.out 3).trans rfl
 have hfs20 := blk_frozen BK608.out 3
 have hns20_1 := NB609_608.out
 have hns20_2 := NB622_608.out
 have hms20_1 := NB608_609.out
 have hms20_2 := NB608_622.out
 refine skip_ (w1 := ?_) (by rfl) rfl ?_ ?_
 rotate_left
 ·go_simp
  rfl
 refine hK.out _ _ ⟨((cell_far (p := ⟨gb608, _, none⟩) NB622_608.out _).trans (((cell_far (p := ⟨gb608, _, none⟩) NB622_608.out _).trans (((cell_far (p := ⟨gb608, _, none⟩) NB622_608.out _).trans (((cell_far (p := ⟨gb608, _, none⟩) NB622_608.out _).trans (hHeld.1)))))))), ((cell_far (p := ⟨gb608, _, none⟩) NB622_608.out _).trans (((cell_far (p := ⟨gb608, _, none⟩) NB622_608.out _).trans (((cell_far (p := ⟨gb608, _, none⟩) NB622_608.out _).trans (((cell_far (p := ⟨gb608, _, none⟩) NB622_608.out _).trans (hHeld.2.1)))))))), ((cell_far (p := ⟨gb608, _, none⟩) NB622_608.out _).trans (((cell_far (p := ⟨gb608, _, none⟩) NB622_608.out _).trans (((cell_far (p := ⟨gb608, _, none⟩) NB622_608.out _).trans (((cell_far (p := ⟨gb608, _, none⟩) NB622_608.out _).trans (hHeld.2.2.1)))))))), ((cell_far (p := ⟨gb608, _, none⟩) NB622_608.out _).trans (((cell_far (p := ⟨gb608, _, none⟩) NB622_608.out _).trans (((cell_far (p := ⟨gb608, _, none⟩) NB622_608.out _).trans (((cell_far (p := ⟨gb608, _, none⟩) NB622_608.out _).trans (hHeld.2.2.2))))))))⟩ (fun hHeld => ?_)
 clear hK K
 refine one_ (i := 4) (N := none) #[true, true, true, true, true] rfl rfl (by kernel_rfl) (by decide) (fun K hK => ?_)
 have hs21 : w16.cell? ⟨gb609, 0, none⟩ = some (.string (⟨#[]⟩ : ByteArray)) := (blk_cell BK609.out 0).trans rfl
 have hfs21 := blk_frozen BK609.out 0
 have hns21_0 := NB608_609.out
 have hns21_2 := NB622_609.out
 have hms21_0 := NB609_608.out
 have hms21_2 := NB609_622.out
 have hs23 : w16.cell? ⟨gb609, 1, none⟩ = some (.slice none 0 0) := (blk_cell BK609.out 1).trans rfl
 have hfs23 := blk_frozen BK609.out 1
 have hns23_0 := NB608_609.out
 have hns23_2 := NB622_609.out
 have hms23_0 := NB609_608.out
 have hms23_2 := NB609_622.out
 refine skip_ (w1 := ?_) (by rfl) rfl ?_ ?_
 rotate_left
 ·go_simp
  rfl
 refine hK.out _ _ ⟨((cell_far (p := ⟨gb609, _, none⟩) NB622_609.out _).trans (((cell_far (p := ⟨gb609, _, none⟩) NB622_609.out _).trans (hHeld.1)))), ((cell_far (p := ⟨gb609, _, none⟩) NB622_609.out _).trans (((cell_far (p := ⟨gb609, _, none⟩) NB622_609.out _).trans (hHeld.2.1)))), ((cell_far (p := ⟨gb609, _, none⟩) NB622_609.out _).trans (((cell_far (p := ⟨gb609, _, none⟩) NB622_609.out _).trans (hHeld.2.2.1)))), ((cell_far (p := ⟨gb609, _, none⟩) NB622_609.out _).trans (((cell_far (p := ⟨gb609, _, none⟩) NB622_609.out _).trans (hHeld.2.2.2))))⟩ (fun hHeld => ?_)
 clear hK K
 refine done_ (by kernel_rfl) ?_
 try go_wp2
 refine bodyPost_ret (results_cc rfl _ _ gb608 gb609 23 59 #[.int .i64 t615, .int .i64 t616, .int .i64 t617, .int .i64 t618] #[.string t623, .slice Ao22 t624.length co22] (0, 0) (0, 0) _ _ rfl (bq_ BK608) Try.underlying23 rfl (by kernel_rfl) rfl (bq_ BK609) Try.underlying59 rfl (by kernel_rfl)) rfl ?_
 exact ⟨_, au5_14, by (with_reducible repeat (first | apply Kd.S_alloc | apply Kd.S_drewN | apply Kd.S_drew)); exact Kd.S_mono (Kd.S_far (p := ⟨gb609, 1, none⟩) (Kd.S_far (p := ⟨gb609, 0, none⟩) (Kd.S_far (p := ⟨gb608, 3, none⟩) (Kd.S_far (p := ⟨gb608, 2, none⟩) (Kd.S_far (p := ⟨gb608, 1, none⟩) (Kd.S_far (p := ⟨gb608, 0, none⟩) (Kd.S_types (Kd.S_types HO626.out BK608.out (by decide)) BK609.out (by decide)) (fun _ hk => hk.1.2) (.int .i64 t615)) (fun _ hk => hk.1.2) (.int .i64 t616)) (fun _ hk => hk.1.2) (.int .i64 t617)) (fun _ hk => hk.1.2) (.int .i64 t618)) (fun _ hk => hk.2) (.string t623)) (fun _ hk => hk.2) (.slice Ao22 t624.length co22)) (fun _ hk => trivial), au5_25⟩

/-! ### F56: function 56 -/
mutual
def F56.j0 : Nat → Bool → ByteArray → List (S102) → ByteArray → List (S102) → Option (Bool)
  | 0, _, _, _, _, _ => none
  | k + 1, x20, x631000, x631001, x632000, x632001 => if x20 = true then (some false) else (F56.l0 k 0 x631000 x631001 x632000 x632001)
def F56.l0 : Nat → Int → ByteArray → List (S102) → ByteArray → List (S102) → Option (Bool)
  | 0, _, _, _, _, _ => none
  | k + 1, x5, x631000, x631001, x632000, x632001 => if x5 < (x631001.length : Int) then (if 0 ≤ x5 then (if x5 < (x632001.length : Int) then (if (((rd_T102 x631001 x5).f0).length : Int) = (((rd_T102 x632001 x5).f0).length : Int) then (F56.l1 k x5 0 x631000 x631001 x632000 x632001) else (some false)) else (none)) else (none)) else (some true)
def F56.l1 : Nat → Int → Int → ByteArray → List (S102) → ByteArray → List (S102) → Option (Bool)
  | 0, _, _, _, _, _, _ => none
  | k + 1, x5, x6, x631000, x631001, x632000, x632001 => if 0 ≤ x5 then (if x5 < (x631001.length : Int) then (if x6 < (((rd_T102 x631001 x5).f0).length : Int) then (if 0 ≤ x6 then (if x5 < (x632001.length : Int) then (if x6 < (((rd_T102 x632001 x5).f0).length : Int) then (if (rdOf ByteArray.empty ((rd_T102 x631001 x5).f0) x6).toList = (rdOf ByteArray.empty ((rd_T102 x632001 x5).f0) x6).toList then (F56.l1 k x5 (wrap64 (x6 + 1)) x631000 x631001 x632000 x632001) else (some false)) else (none)) else (none)) else (none)) else (F56.l0 k (wrap64 (x5 + 1)) x631000 x631001 x632000 x632001)) else (none)) else (none)
end
def F56.f (k : Nat) (a0_0 : ByteArray) (l0_1 : List (S102)) (a1_0 : ByteArray) (l1_1 : List (S102)) : Option (Bool) := if a0_0.toList = a1_0.toList then (F56.j0 k ((l0_1.length : Int) != (l1_1.length : Int)) a0_0 l0_1 a1_0 l1_1) else (F56.j0 k true a0_0 l0_1 a1_0 l1_1)
theorem F56.mono_l : ∀ k, (∀ y0 y1 y2 y3 y4, LeO (F56.j0 k y0 y1 y2 y3 y4) (F56.j0 (k + 1) y0 y1 y2 y3 y4)) ∧ (∀ y0 y1 y2 y3 y4, LeO (F56.l0 k y0 y1 y2 y3 y4) (F56.l0 (k + 1) y0 y1 y2 y3 y4)) ∧ (∀ y0 y1 y2 y3 y4 y5, LeO (F56.l1 k y0 y1 y2 y3 y4 y5) (F56.l1 (k + 1) y0 y1 y2 y3 y4 y5))
 | 0 => ⟨fun _ _ _ _ _ r h => by simp [F56.j0] at h, fun _ _ _ _ _ r h => by simp [F56.l0] at h, fun _ _ _ _ _ _ r h => by simp [F56.l1] at h⟩
 | k + 1 => by
  obtain ⟨ih0, ih1, ih2⟩ := F56.mono_l k
  refine ⟨?_, ?_, ?_⟩
  rotate_left
  ·intro y0 y1 y2 y3 y4
   unfold F56.l0
   repeat' with_reducible first | exact ih0 _ _ _ _ _ | exact ih1 _ _ _ _ _ | exact ih2 _ _ _ _ _ _ | exact LeO.refl _ | exact LeO.none _ | refine LeO.ite ?_ ?_ | refine LeO.bind ?_ (fun _ => ?_)
  ·intro y0 y1 y2 y3 y4 y5
   unfold F56.l1
   repeat' with_reducible first | exact ih0 _ _ _ _ _ | exact ih1 _ _ _ _ _ | exact ih2 _ _ _ _ _ _ | exact LeO.refl _ | exact LeO.none _ | refine LeO.ite ?_ ?_ | refine LeO.bind ?_ (fun _ => ?_)
  intro y0 y1 y2 y3 y4
  unfold F56.j0
  repeat' with_reducible first | exact ih0 _ _ _ _ _ | exact ih1 _ _ _ _ _ | exact ih2 _ _ _ _ _ _ | exact LeO.refl _ | exact LeO.none _ | refine LeO.ite ?_ ?_ | refine LeO.bind ?_ (fun _ => ?_)
theorem F56.mono : ∀ a0 a1 a2 a3 k, LeO (F56.f k a0 a1 a2 a3) (F56.f (k + 1) a0 a1 a2 a3) := by
 intro a0 a1 a2 a3 k
 obtain ⟨ih0, ih1, ih2⟩ := F56.mono_l k
 unfold F56.f
 repeat' with_reducible first | exact ih0 _ _ _ _ _ | exact ih1 _ _ _ _ _ | exact ih2 _ _ _ _ _ _ | exact LeO.refl _ | exact LeO.none _ | refine LeO.ite ?_ ?_ | refine LeO.bind ?_ (fun _ => ?_)
theorem F56.calls (k : Nat) (a0_0 : ByteArray) (A0_1 : Option Addr) (c0_1 : Nat) (l0_1 : List (S102)) (a1_0 : ByteArray) (A1_1 : Option Addr) (c1_1 : Nat) (l1_1 : List (S102)) (r : Bool) (w : World) (hr0_1 : Kd.C k102 w A0_1 l0_1.length l0_1) (hc0_1 : l0_1.length ≤ c0_1) (hr1_1 : Kd.C k102 w A1_1 l1_1.length l1_1) (hc1_1 : l1_1.length ≤ c1_1) (h : F56.f k a0_0 l0_1 a1_0 l1_1 = some r) :
  Calls Try.prog 56 #[.agg #[.string a0_0, .slice A0_1 l0_1.length c0_1], .agg #[.string a1_0, .slice A1_1 l1_1.length c1_1]] w fun e w' => e = .returned (.bool r) ∧ Below w.heap.size w w' := by
 have hu59 := Try.underlying59
 have HR0_1 := am_ hr0_1
 have HC0_1 := am_ hc0_1
 clear hr0_1 hc0_1
 have HR1_1 := am_ hr1_1
 have HC1_1 := am_ hc1_1
 clear hr1_1 hc1_1
 have HB := am_ (Below.refl w.heap.size w)
 have H : (if a0_0.toList = a1_0.toList then (F56.j0 k ((l0_1.length : Int) != (l1_1.length : Int)) a0_0 l0_1 a1_0 l1_1) else (F56.j0 k true a0_0 l0_1 a1_0 l1_1)) = some r := h
 clear h
 have HC3 := am_ H
 clear H
 go_enter Try.func56, Try.ntmps56
 go_upto_region 1 with (first | ((with_reducible refine gate_dst (N := 2) rfl ?_); (try (refine gate_guard (by rfl) ?_; dsimp only)); refine be_ 2 #[.string a0_0, .slice A0_1 l0_1.length c0_1] 59 ?_; intro gb630 hg w4 hbox hb; have BK630 := am_ (hbox); have GW630 := am_ (gw_ hg bl_); have GE630 := GW630; replace HB := hs_ w hb; clear hb hbox hg) | ((with_reducible refine gate_dst (N := 3) rfl ?_); (try (refine gate_guard (by rfl) ?_; dsimp only)); refine be_ 3 #[.string a1_0, .slice A1_1 l1_1.length c1_1] 59 ?_; intro gb631 hg w5 hbox hb; have BK631 := am_ (hbox); have GW631 := am_ (gw_ hg bl_); have GE631 := GW631; replace HB := hs_ w hb; have NB630_631 := am_ (gn_ hg (blkl_ BK630)); have NB631_630 := am_ (gm_ hg (blkl_ BK630)); replace BK630 := bb_ BK630 hb; clear hb hbox hg))
 repeat (go_quiet (first | ((with_reducible refine gate_dst (N := 2) rfl ?_); (try (refine gate_guard (by rfl) ?_; dsimp only)); refine be_ 2 #[.string a0_0, .slice A0_1 l0_1.length c0_1] 59 ?_; intro gb630 hg w4 hbox hb; have BK630 := am_ (hbox); have GW630 := am_ (gw_ hg bl_); have GE630 := GW630; replace HB := hs_ w hb; clear hb hbox hg) | ((with_reducible refine gate_dst (N := 3) rfl ?_); (try (refine gate_guard (by rfl) ?_; dsimp only)); refine be_ 3 #[.string a1_0, .slice A1_1 l1_1.length c1_1] 59 ?_; intro gb631 hg w5 hbox hb; have BK631 := am_ (hbox); have GW631 := am_ (gw_ hg bl_); have GE631 := GW631; replace HB := hs_ w hb; have NB630_631 := am_ (gn_ hg (blkl_ BK630)); have NB631_630 := am_ (gm_ hg (blkl_ BK630)); replace BK630 := bb_ BK630 hb; clear hb hbox hg)); go_upto_region 1 with (first | ((with_reducible refine gate_dst (N := 2) rfl ?_); (try (refine gate_guard (by rfl) ?_; dsimp only)); refine be_ 2 #[.string a0_0, .slice A0_1 l0_1.length c0_1] 59 ?_; intro gb630 hg w4 hbox hb; have BK630 := am_ (hbox); have GW630 := am_ (gw_ hg bl_); have GE630 := GW630; replace HB := hs_ w hb; clear hb hbox hg) | ((with_reducible refine gate_dst (N := 3) rfl ?_); (try (refine gate_guard (by rfl) ?_; dsimp only)); refine be_ 3 #[.string a1_0, .slice A1_1 l1_1.length c1_1] 59 ?_; intro gb631 hg w5 hbox hb; have BK631 := am_ (hbox); have GW631 := am_ (gw_ hg bl_); have GE631 := GW631; replace HB := hs_ w hb; have NB630_631 := am_ (gn_ hg (blkl_ BK630)); have NB631_630 := am_ (gm_ hg (blkl_ BK630)); replace BK630 := bb_ BK630 hb; clear hb hbox hg)))
 (try simp only [Act.put, List.setIfInBounds_toArray, List.set_cons_zero, List.set_cons_succ])
 go_cut [20] (fun v20 wc => ∃ (kq : Nat) (x20_2 : Bool), v20 = .bool x20_2 ∧ Aside0 (F56.j0 kq x20_2 a0_0 l0_1 a1_0 l1_1 = some r) ∧ Aside0 (kq ≤ k) ∧ Aside0 (wc.heap[gb630]? = some (.cells #[.string a0_0, (.slice A0_1 l0_1.length c0_1)] 59 (0, 0))) ∧ Aside0 (wc.heap[gb631]? = some (.cells #[.string a1_0, (.slice A1_1 l1_1.length c1_1)] 59 (0, 0))) ∧ Aside0 (Below w.heap.size w wc))
 case first =>
  have H := HC3.out
  clear HC3
  by_cases c6 : a0_0.toList = a1_0.toList
  rotate_left
  ·rw [if_neg c6] at H
   have c6b0 : (a0_0.toList == a1_0.toList) = false := beq_eq_false_iff_ne.mpr c6
   have c6b1 : (a0_0.toList != a1_0.toList) = true := bne_iff_ne.mpr c6
   (first | rw [c6b0] | (simp only [i64_w, i32_w]; rw [c6b0]) | skip)
   have H' := am_ H
   clear H
   have hnb10 := NB630_631.out
   have hnc10 := NB631_630.out
   obtain ⟨hcz11_0, hcz11_1, hfz11_0, hfz11_1⟩ := cellsF2 BK630.out
   obtain ⟨hcz12_0, hcz12_1, hfz12_0, hfz12_1⟩ := cellsF2 BK631.out
   go_wp2
   repeat (go_quiet (fail); try go_wp2)
   go_meet
   case rel => exact ⟨_, (true), er_, H', ⟨au5_39⟩, ⟨bk_ BK630⟩, ⟨bk_ BK631⟩, ⟨bl_⟩⟩
  rw [if_pos c6] at H
  have c6b0 : (a0_0.toList == a1_0.toList) = true := beq_iff_eq.mpr c6
  have c6b1 : (a0_0.toList != a1_0.toList) = false := bne_eq_false_iff_eq.mpr c6
  clear c6
  (first | rw [c6b0] | (simp only [i64_w, i32_w]; rw [c6b0]) | skip)
  have H' := am_ H
  clear H
  have hnb7 := NB630_631.out
  have hnc7 := NB631_630.out
  obtain ⟨hcz8_0, hcz8_1, hfz8_0, hfz8_1⟩ := cellsF2 BK630.out
  obtain ⟨hcz9_0, hcz9_1, hfz9_0, hfz9_1⟩ := cellsF2 BK631.out
  go_wp2
  repeat (go_quiet (fail); try go_wp2)
  go_meet
  case rel => exact ⟨_, (((l0_1.length : Int) != (l1_1.length : Int))), er_, H', ⟨au5_39⟩, ⟨bk_ BK630⟩, ⟨bk_ BK631⟩, ⟨bl_⟩⟩
 case rest =>
  clear HC3
  try clear c6
  try clear c6b0
  try clear c6b1
  try clear hcz11_0 hcz11_1
  try clear hcz12_0 hcz12_1
  try clear hcz8_0 hcz8_1
  try clear hcz9_0 hcz9_1
  try clear hfz11_0 hfz11_1
  try clear hfz12_0 hfz12_1
  try clear hfz8_0 hfz8_1
  try clear hfz9_0 hfz9_1
  obtain ⟨kq, x20_2, rfl, HA, HJ2, BK630, BK631, HB⟩ := hcut
  cases kq with
  | zero => exact absurd HA.out (by simp [F56.j0])
  | succ kj2 =>
   have H := HA.out
   clear HA
   simp only [F56.j0] at H
   replace H := ib_ H; rcases H with ⟨rfl, H⟩ | ⟨rfl, H⟩
   ·obtain rfl := Option.some.inj H
    go_wp2
    repeat (go_quiet (fail); try go_wp2)
    go_ret
    exact ⟨au5_14, bl_⟩
   have H' := am_ H
   clear H
   go_wp2
   repeat (go_quiet (fail); try go_wp2)
   go_loopg [5] kj2 (fun kq v5 w' => ∃ (x5_2 : Int), v5 = .int .i64 x5_2 ∧ Aside0 (F56.l0 kq x5_2 a0_0 l0_1 a1_0 l1_1 = some r) ∧ Aside0 (kq ≤ kj2) ∧ Aside0 (w'.heap[gb630]? = some (.cells #[.string a0_0, (.slice A0_1 l0_1.length c0_1)] 59 (0, 0))) ∧ Aside0 (w'.heap[gb631]? = some (.cells #[.string a1_0, (.slice A1_1 l1_1.length c1_1)] 59 (0, 0))) ∧ Aside0 (Below w.heap.size w w'))
   case atStart => exact ⟨(0), er_, H', ⟨Nat.le_refl _⟩, ⟨bk_ BK630⟩, ⟨bk_ BK631⟩, ⟨bl_⟩⟩
   case round =>
    clear H'
    try clear c6
    try clear c6b0
    try clear c6b1
    try clear hcz11_0 hcz11_1
    try clear hcz12_0 hcz12_1
    try clear hcz8_0 hcz8_1
    try clear hcz9_0 hcz9_1
    try clear hfz11_0 hfz11_1
    try clear hfz12_0 hfz12_1
    try clear hfz8_0 hfz8_1
    try clear hfz9_0 hfz9_1
    obtain ⟨x5_2, rfl, HA, HK2, BK630, BK631, HB⟩ := hrel
    cases gk with
    | zero => exact absurd HA.out (by simp [F56.l0])
    | succ k2 =>
     have H := HA.out
     clear HA
     simp only [F56.l0] at H
     replace H := it_ H; rcases H with ⟨c14b0, H⟩ | ⟨c14b0, H⟩
     rotate_left
     ·obtain rfl := Option.some.inj H
      have hnb39 := NB630_631.out
      have hnc39 := NB631_630.out
      obtain ⟨hcz40_0, hcz40_1, hfz40_0, hfz40_1⟩ := cellsF2 BK630.out
      go_wp2
      repeat (go_quiet (fail); try go_wp2)
      go_ret
      exact ⟨au5_14, bl_⟩

     replace H := itn_ H; rcases H with ⟨c15b0, H⟩
     replace H := itn_ H; rcases H with ⟨c16b0, H⟩
     by_cases c17 : (((rd_T102 l0_1 x5_2).f0).length : Int) = (((rd_T102 l1_1 x5_2).f0).length : Int)
     rotate_left
     ·rw [if_neg c17] at H
      have c17b0 : ((((rd_T102 l0_1 x5_2).f0).length : Int) == (((rd_T102 l1_1 x5_2).f0).length : Int)) = false := beq_eq_false_iff_ne.mpr c17
      have c17b1 : ((((rd_T102 l0_1 x5_2).f0).length : Int) != (((rd_T102 l1_1 x5_2).f0).length : Int)) = true := bne_iff_ne.mpr c17
      have c17b2 : (((rd_T102 l0_1 x5_2).f0).length == ((rd_T102 l1_1 x5_2).f0).length) = false := by first | simpa using c17 | (simp at c17 ⊢; omega)
      obtain rfl := Option.some.inj H
      have hnb36 := NB630_631.out
      have hnc36 := NB631_630.out
      obtain ⟨hcz37_0, hcz37_1, hfz37_0, hfz37_1⟩ := cellsF2 BK630.out
      have p632 : 0 ≤ (x5_2 : Int) := od_
      have q632 : x5_2 < (l0_1.length : Int) := od_
      obtain ⟨ad632, A632_0, c632_0, e632, hx632_0, hl632_0, hi632_0⟩ := at_T102 HR0_1.out x5_2 p632 q632
      cases e632
      replace hx632_0 := (HB.out.cell (World.block_lt_of_cell? _ _ hx632_0)).trans hx632_0
      have HR632_0 := am_ hi632_0
      have HC632_0 := am_ hl632_0
      clear hi632_0 hl632_0
      replace p632 := eq_true p632
      replace q632 := eq_true q632
      obtain ⟨hcz38_0, hcz38_1, hfz38_0, hfz38_1⟩ := cellsF2 BK631.out
      have p633 : 0 ≤ (x5_2 : Int) := od_
      have q633 : x5_2 < (l1_1.length : Int) := od_
      obtain ⟨ad633, A633_0, c633_0, e633, hx633_0, hl633_0, hi633_0⟩ := at_T102 HR1_1.out x5_2 p633 q633
      cases e633
      replace hx633_0 := (HB.out.cell (World.block_lt_of_cell? _ _ hx633_0)).trans hx633_0
      have HR633_0 := am_ hi633_0
      have HC633_0 := am_ hl633_0
      clear hi633_0 hl633_0
      replace p633 := eq_true p633
      replace q633 := eq_true q633
      go_wp2
      repeat (go_quiet (fail); try go_wp2)
      go_ret
      exact ⟨au5_14, bl_⟩
     rw [if_pos c17] at H
     have c17b0 : ((((rd_T102 l0_1 x5_2).f0).length : Int) == (((rd_T102 l1_1 x5_2).f0).length : Int)) = true := beq_iff_eq.mpr c17
     have c17b1 : ((((rd_T102 l0_1 x5_2).f0).length : Int) != (((rd_T102 l1_1 x5_2).f0).length : Int)) = false := bne_eq_false_iff_eq.mpr c17
     have c17b2 : (((rd_T102 l0_1 x5_2).f0).length == ((rd_T102 l1_1 x5_2).f0).length) = true := by first | simpa using c17 | (simp at c17 ⊢; omega)
     clear c17
     have H' := am_ H
     clear H
     have hnb18 := NB630_631.out
     have hnc18 := NB631_630.out
     obtain ⟨hcz19_0, hcz19_1, hfz19_0, hfz19_1⟩ := cellsF2 BK630.out
     have p632 : 0 ≤ (x5_2 : Int) := od_
     have q632 : x5_2 < (l0_1.length : Int) := od_
     obtain ⟨ad632, A632_0, c632_0, e632, hx632_0, hl632_0, hi632_0⟩ := at_T102 HR0_1.out x5_2 p632 q632
     cases e632
     replace hx632_0 := (HB.out.cell (World.block_lt_of_cell? _ _ hx632_0)).trans hx632_0
     have HR632_0 := am_ hi632_0
     have HC632_0 := am_ hl632_0
     clear hi632_0 hl632_0
     replace p632 := eq_true p632
     replace q632 := eq_true q632
     obtain ⟨hcz20_0, hcz20_1, hfz20_0, hfz20_1⟩ := cellsF2 BK631.out
     have p633 : 0 ≤ (x5_2 : Int) := od_
     have q633 : x5_2 < (l1_1.length : Int) := od_
     obtain ⟨ad633, A633_0, c633_0, e633, hx633_0, hl633_0, hi633_0⟩ := at_T102 HR1_1.out x5_2 p633 q633
     cases e633
     replace hx633_0 := (HB.out.cell (World.block_lt_of_cell? _ _ hx633_0)).trans hx633_0
     have HR633_0 := am_ hi633_0
     have HC633_0 := am_ hl633_0
     clear hi633_0 hl633_0
     replace p633 := eq_true p633
     replace q633 := eq_true q633
     go_wp2
     repeat (go_quiet (fail); try go_wp2)
     go_loopg [6] k2 (fun kq v6 w' => ∃ (x6_3 : Int), v6 = .int .i64 x6_3 ∧ Aside0 (F56.l1 kq x5_2 x6_3 a0_0 l0_1 a1_0 l1_1 = some r) ∧ Aside0 (kq ≤ k2) ∧ Aside0 (w'.heap[gb630]? = some (.cells #[.string a0_0, (.slice (some ad632) l0_1.length c0_1)] 59 (0, 0))) ∧ Aside0 (w'.heap[gb631]? = some (.cells #[.string a1_0, (.slice (some ad633) l1_1.length c1_1)] 59 (0, 0))) ∧ Aside0 (Below w.heap.size w w'))
     case atStart => exact ⟨(0), er_, H', ⟨Nat.le_refl _⟩, ⟨bk_ BK630⟩, ⟨bk_ BK631⟩, ⟨bl_⟩⟩
     case round =>
      clear H'
      try clear c6
      try clear c6b0
      try clear c6b1
      try clear c14b0
      try clear c15b0
      try clear c16b0
      try clear c17
      try clear c17b0
      try clear c17b1
      try clear c17b2
      try clear hcz11_0 hcz11_1
      try clear hcz12_0 hcz12_1
      try clear hcz19_0 hcz19_1
      try clear hcz20_0 hcz20_1
      try clear hcz8_0 hcz8_1
      try clear hcz9_0 hcz9_1
      try clear hfz11_0 hfz11_1
      try clear hfz12_0 hfz12_1
      try clear hfz19_0 hfz19_1
      try clear hfz20_0 hfz20_1
      try clear hfz8_0 hfz8_1
      try clear hfz9_0 hfz9_1
      try clear hx632_0
      try clear hx633_0
      try clear p632
      try clear p633
      try clear q632
      try clear q633
      obtain ⟨x6_3, rfl, HA, HK3, BK630, BK631, HB⟩ := hrel
      cases gk with
      | zero => exact absurd HA.out (by simp [F56.l1])
      | succ k3 =>
       have H := HA.out
       clear HA
       simp only [F56.l1] at H
       replace H := itn_ H; rcases H with ⟨c21b0, H⟩
       replace H := itn_ H; rcases H with ⟨c22b0, H⟩
       replace H := it_ H; rcases H with ⟨c23b0, H⟩ | ⟨c23b0, H⟩
       rotate_left
       ·have H' := am_ H
        clear H
        have hnb34 := NB630_631.out
        have hnc34 := NB631_630.out
        obtain ⟨hcz35_0, hcz35_1, hfz35_0, hfz35_1⟩ := cellsF2 BK630.out
        have p634 : 0 ≤ (x5_2 : Int) := od_
        have q634 : x5_2 < (l0_1.length : Int) := od_
        obtain ⟨ad634, A634_0, c634_0, e634, hx634_0, hl634_0, hi634_0⟩ := at_T102 HR0_1.out x5_2 p634 q634
        obtain rfl : ad632 = ad634 := (by injection e634)
        replace hx634_0 := (HB.out.cell (World.block_lt_of_cell? _ _ hx634_0)).trans hx634_0
        have HR634_0 := am_ hi634_0
        have HC634_0 := am_ hl634_0
        clear hi634_0 hl634_0
        replace p634 := eq_true p634
        replace q634 := eq_true q634
        go_wp2
        repeat (go_quiet (fail); try go_wp2)
        go_roundg k3
        case measure => have := HJ2.out; have := HK2.out; have := HK3.out; omega
        case rel => exact ⟨(wrap64 (x5_2 + 1)), er_, H', ⟨by have := HJ2.out; have := HK2.out; have := HK3.out; omega⟩, ⟨bk_ BK630⟩, ⟨bk_ BK631⟩, ⟨bl_⟩⟩
       replace H := itn_ H; rcases H with ⟨c24b0, H⟩
       replace H := itn_ H; rcases H with ⟨c25b0, H⟩
       replace H := itn_ H; rcases H with ⟨c26b0, H⟩
       by_cases c27 : (rdOf ByteArray.empty ((rd_T102 l0_1 x5_2).f0) x6_3).toList = (rdOf ByteArray.empty ((rd_T102 l1_1 x5_2).f0) x6_3).toList
       rotate_left
       ·rw [if_neg c27] at H
        have c27b0 : ((rdOf ByteArray.empty ((rd_T102 l0_1 x5_2).f0) x6_3).toList == (rdOf ByteArray.empty ((rd_T102 l1_1 x5_2).f0) x6_3).toList) = false := beq_eq_false_iff_ne.mpr c27
        have c27b1 : ((rdOf ByteArray.empty ((rd_T102 l0_1 x5_2).f0) x6_3).toList != (rdOf ByteArray.empty ((rd_T102 l1_1 x5_2).f0) x6_3).toList) = true := bne_iff_ne.mpr c27
        obtain rfl := Option.some.inj H
        have hnb31 := NB630_631.out
        have hnc31 := NB631_630.out
        obtain ⟨hcz32_0, hcz32_1, hfz32_0, hfz32_1⟩ := cellsF2 BK630.out
        have p634 : 0 ≤ (x5_2 : Int) := od_
        have q634 : x5_2 < (l0_1.length : Int) := od_
        obtain ⟨ad634, A634_0, c634_0, e634, hx634_0, hl634_0, hi634_0⟩ := at_T102 HR0_1.out x5_2 p634 q634
        obtain rfl : ad632 = ad634 := (by injection e634)
        replace hx634_0 := (HB.out.cell (World.block_lt_of_cell? _ _ hx634_0)).trans hx634_0
        have HR634_0 := am_ hi634_0
        have HC634_0 := am_ hl634_0
        clear hi634_0 hl634_0
        replace p634 := eq_true p634
        replace q634 := eq_true q634
        have p635 : 0 ≤ (x5_2 : Int) := od_
        have q635 : x5_2 < (l0_1.length : Int) := od_
        obtain ⟨ad635, A635_0, c635_0, e635, hx635_0, hl635_0, hi635_0⟩ := at_T102 HR0_1.out x5_2 p635 q635
        obtain rfl : ad632 = ad635 := (by injection e635)
        replace hx635_0 := (HB.out.cell (World.block_lt_of_cell? _ _ hx635_0)).trans hx635_0
        have HR635_0 := am_ hi635_0
        have HC635_0 := am_ hl635_0
        clear hi635_0 hl635_0
        replace p635 := eq_true p635
        replace q635 := eq_true q635
        have ea_ := Option.some.inj (hx634_0.symm.trans hx635_0)
        injection ea_ with ea_ en_ ec_
        subst ea_
        subst ec_
        clear en_
        have p636 : 0 ≤ (x6_3 : Int) := od_
        have q636 : x6_3 < (((rd_T102 l0_1 x5_2).f0).length : Int) := od_
        obtain ⟨ad636, e636, hx636_0⟩ := Kd.at_string HR635_0.out x6_3 p636 q636
        cases e636
        replace hx636_0 := (HB.out.cell (World.block_lt_of_cell? _ _ hx636_0)).trans hx636_0
        replace p636 := eq_true p636
        replace q636 := eq_true q636
        obtain ⟨hcz33_0, hcz33_1, hfz33_0, hfz33_1⟩ := cellsF2 BK631.out
        have p637 : 0 ≤ (x5_2 : Int) := od_
        have q637 : x5_2 < (l1_1.length : Int) := od_
        obtain ⟨ad637, A637_0, c637_0, e637, hx637_0, hl637_0, hi637_0⟩ := at_T102 HR1_1.out x5_2 p637 q637
        obtain rfl : ad633 = ad637 := (by injection e637)
        replace hx637_0 := (HB.out.cell (World.block_lt_of_cell? _ _ hx637_0)).trans hx637_0
        have HR637_0 := am_ hi637_0
        have HC637_0 := am_ hl637_0
        clear hi637_0 hl637_0
        replace p637 := eq_true p637
        replace q637 := eq_true q637
        have p638 : 0 ≤ (x6_3 : Int) := od_
        have q638 : x6_3 < (((rd_T102 l1_1 x5_2).f0).length : Int) := od_
        obtain ⟨ad638, e638, hx638_0⟩ := Kd.at_string HR637_0.out x6_3 p638 q638
        cases e638
        replace hx638_0 := (HB.out.cell (World.block_lt_of_cell? _ _ hx638_0)).trans hx638_0
        replace p638 := eq_true p638
        replace q638 := eq_true q638
        go_wp2
        repeat (go_quiet (fail); try go_wp2)
        go_ret
        exact ⟨au5_14, bl_⟩
       rw [if_pos c27] at H
       have c27b0 : ((rdOf ByteArray.empty ((rd_T102 l0_1 x5_2).f0) x6_3).toList == (rdOf ByteArray.empty ((rd_T102 l1_1 x5_2).f0) x6_3).toList) = true := beq_iff_eq.mpr c27
       have c27b1 : ((rdOf ByteArray.empty ((rd_T102 l0_1 x5_2).f0) x6_3).toList != (rdOf ByteArray.empty ((rd_T102 l1_1 x5_2).f0) x6_3).toList) = false := bne_eq_false_iff_eq.mpr c27
       clear c27
       have H' := am_ H
       clear H
       have hnb28 := NB630_631.out
       have hnc28 := NB631_630.out
       obtain ⟨hcz29_0, hcz29_1, hfz29_0, hfz29_1⟩ := cellsF2 BK630.out
       have p634 : 0 ≤ (x5_2 : Int) := od_
       have q634 : x5_2 < (l0_1.length : Int) := od_
       obtain ⟨ad634, A634_0, c634_0, e634, hx634_0, hl634_0, hi634_0⟩ := at_T102 HR0_1.out x5_2 p634 q634
       obtain rfl : ad632 = ad634 := (by injection e634)
       replace hx634_0 := (HB.out.cell (World.block_lt_of_cell? _ _ hx634_0)).trans hx634_0
       have HR634_0 := am_ hi634_0
       have HC634_0 := am_ hl634_0
       clear hi634_0 hl634_0
       replace p634 := eq_true p634
       replace q634 := eq_true q634
       have p635 : 0 ≤ (x5_2 : Int) := od_
       have q635 : x5_2 < (l0_1.length : Int) := od_
       obtain ⟨ad635, A635_0, c635_0, e635, hx635_0, hl635_0, hi635_0⟩ := at_T102 HR0_1.out x5_2 p635 q635
       obtain rfl : ad632 = ad635 := (by injection e635)
       replace hx635_0 := (HB.out.cell (World.block_lt_of_cell? _ _ hx635_0)).trans hx635_0
       have HR635_0 := am_ hi635_0
       have HC635_0 := am_ hl635_0
       clear hi635_0 hl635_0
       replace p635 := eq_true p635
       replace q635 := eq_true q635
       have ea_ := Option.some.inj (hx634_0.symm.trans hx635_0)
       injection ea_ with ea_ en_ ec_
       subst ea_
       subst ec_
       clear en_
       have p636 : 0 ≤ (x6_3 : Int) := od_
       have q636 : x6_3 < (((rd_T102 l0_1 x5_2).f0).length : Int) := od_
       obtain ⟨ad636, e636, hx636_0⟩ := Kd.at_string HR635_0.out x6_3 p636 q636
       cases e636
       replace hx636_0 := (HB.out.cell (World.block_lt_of_cell? _ _ hx636_0)).trans hx636_0
       replace p636 := eq_true p636
       replace q636 := eq_true q636
       obtain ⟨hcz30_0, hcz30_1, hfz30_0, hfz30_1⟩ := cellsF2 BK631.out
       have p637 : 0 ≤ (x5_2 : Int) := od_
       have q637 : x5_2 < (l1_1.length : Int) := od_
       obtain ⟨ad637, A637_0, c637_0, e637, hx637_0, hl637_0, hi637_0⟩ := at_T102 HR1_1.out x5_2 p637 q637
       obtain rfl : ad633 = ad637 := (by injection e637)
       replace hx637_0 := (HB.out.cell (World.block_lt_of_cell? _ _ hx637_0)).trans hx637_0
       have HR637_0 := am_ hi637_0
       have HC637_0 := am_ hl637_0
       clear hi637_0 hl637_0
       replace p637 := eq_true p637
       replace q637 := eq_true q637
       have p638 : 0 ≤ (x6_3 : Int) := od_
       have q638 : x6_3 < (((rd_T102 l1_1 x5_2).f0).length : Int) := od_
       obtain ⟨ad638, e638, hx638_0⟩ := Kd.at_string HR637_0.out x6_3 p638 q638
       cases e638
       replace hx638_0 := (HB.out.cell (World.block_lt_of_cell? _ _ hx638_0)).trans hx638_0
       replace p638 := eq_true p638
       replace q638 := eq_true q638
       go_wp2
       repeat (go_quiet (fail); try go_wp2)
       go_roundg k3
       case measure => have := HJ2.out; have := HK2.out; have := HK3.out; omega
       case rel => exact ⟨(wrap64 (x6_3 + 1)), er_, H', ⟨by have := HJ2.out; have := HK2.out; have := HK3.out; omega⟩, ⟨bk_ BK630⟩, ⟨bk_ BK631⟩, ⟨bl_⟩⟩
/-! ### F85: function 85 -/
def F85.l0 : Nat → ByteArray → List Int → Int → Int → Int → Int → Int → Option (ByteArray)
  | 0, _, _, _, _, _, _, _ => none
  | k + 1, x1, x5, x6, x640000, x640001, x640002, x640003 => if x6 < (x1.size : Int) then (if 0 ≤ x6 then ((F62.f x640000 x640001 x640002 x640003 (bt x1 x6)).bind fun t643 => (if t643 = true then (if x5.length < 140737488355328 then ((some (x5 ++ [(x640003) % 256] : List Int)).bind fun y644 => (if y644.length < 140737488355328 then (F85.l0 k x1 (y644 ++ [bt x1 x6]) (wrap64 (x6 + 1)) x640000 x640001 x640002 x640003) else (none))) else (none)) else (if x5.length < 140737488355328 then (F85.l0 k x1 (x5 ++ [bt x1 x6]) (wrap64 (x6 + 1)) x640000 x640001 x640002 x640003) else (none)))) else (none)) else (some (strOfNums x5))
def F85.f (k : Nat) (a0_0 : Int) (a0_1 : Int) (a0_2 : Int) (a0_3 : Int) (a1 : ByteArray) : Option (ByteArray) := F85.l0 k a1 (([] : List Int)) 0 a0_0 a0_1 a0_2 a0_3
theorem F85.mono_l : ∀ k, (∀ y0 y1 y2 y3 y4 y5 y6, LeO (F85.l0 k y0 y1 y2 y3 y4 y5 y6) (F85.l0 (k + 1) y0 y1 y2 y3 y4 y5 y6))
 | 0 => fun _ _ _ _ _ _ _ r h => by simp [F85.l0] at h
 | k + 1 => by
  have ih0 := F85.mono_l k
  intro y0 y1 y2 y3 y4 y5 y6
  unfold F85.l0
  repeat' with_reducible first | exact ih0 _ _ _ _ _ _ _ | exact LeO.refl _ | exact LeO.none _ | refine LeO.ite ?_ ?_ | refine LeO.bind ?_ (fun _ => ?_)
theorem F85.mono : ∀ a0 a1 a2 a3 a4 k, LeO (F85.f k a0 a1 a2 a3 a4) (F85.f (k + 1) a0 a1 a2 a3 a4) := by
 intro a0 a1 a2 a3 a4 k
 have ih0 := F85.mono_l k
 unfold F85.f
 repeat' with_reducible first | exact ih0 _ _ _ _ _ _ _ | exact LeO.refl _ | exact LeO.none _ | refine LeO.ite ?_ ?_ | refine LeO.bind ?_ (fun _ => ?_)
theorem F85.calls (k : Nat) (a0_0 : Int) (a0_1 : Int) (a0_2 : Int) (a0_3 : Int) (a1 : ByteArray) (r : ByteArray) (w : World) (h : F85.f k a0_0 a0_1 a0_2 a0_3 a1 = some r) :
  Calls Try.prog 85 #[.agg #[.int .i64 a0_0, .int .i64 a0_1, .int .i64 a0_2, .int .i64 a0_3], .string a1] w fun e w' => e = .returned (.string r) ∧ Below w.heap.size w w' := by
 have hu23 := Try.underlying23
 have HB := am_ (Below.refl w.heap.size w)
 have H : (F85.l0 k a1 (([] : List Int)) 0 a0_0 a0_1 a0_2 a0_3) = some r := h
 clear h
 obtain ⟨y640, hy640⟩ : ∃ y_ : List Int, y_ = (([] : List Int)) := ⟨_, rfl⟩
 replace H : (F85.l0 k a1 y640 0 a0_0 a0_1 a0_2 a0_3) = some r := by first | (rw [hy640]; exact H) | exact H
 have Ny640 := am_ hy640
 clear hy640
 have H' := am_ H
 clear H
 go_enter Try.func85, Try.ntmps85
 go_wp2_with (first | ((with_reducible refine gate_dst (N := 2) rfl ?_); refine be_ 2 #[.int .i64 a0_0, .int .i64 a0_1, .int .i64 a0_2, .int .i64 a0_3] 23 ?_; intro gb639 hg w3 hbox hb; have BK639 := am_ (hbox); have GW639 := am_ (gw_ hg bl_); have GE639 := GW639; replace HB := hs_ w hb; clear hb hbox hg) | ((with_reducible refine gate_dst (N := 7) rfl ?_); refine Kd.R_lit (Kd.int .u8) _ 5 ?hg (N := 7) ?hd (xs := ([] : List Int)) (inner := []) (ok := fun _ => True) (okp := fun _ => True) ?hr ?hp (fun _ hk => hk) trivial (Below.refl _ _) (Nat.le_refl _) (by simp) ?_; (case hd => rfl); (case hg => rfl); (case hr => exact hr_); (case hp => exact (Reps.none _ _)); intro v641 w4 ho5 hb hg_ hnew_; clear hg_ hnew_; (first | rw [← Ny640.out] at ho5 | (simp only [Int.reduceToNat] at ho5; rw [← Ny640.out] at ho5)); have HO642 := am_ (Kd.R_lower ho5 (below_size bl_)); replace BK639 := bb_ BK639 hb; replace HB := hs_ w hb; clear hb ho5))
 go_loopg [5, 6] k (fun kq v5 v6 w' => ∃ (x5_1 : List Int) (x6_1 : Int), v6 = .int .i64 x6_1 ∧ Aside0 (F85.l0 kq a1 x5_1 x6_1 a0_0 a0_1 a0_2 a0_3 = some r) ∧ Aside0 (kq ≤ k) ∧ Aside0 (Kd.R (Kd.int .u8) 5 w' w.heap.size (fun _ => True) v5 x5_1) ∧ Aside0 (w'.heap[gb639]? = some (.cells #[.int .i64 a0_0, .int .i64 a0_1, .int .i64 a0_2, .int .i64 a0_3] 23 (0, 0))) ∧ Aside0 (Below w.heap.size w w'))
 case atStart => exact ⟨(y640), (0), er_, H', ⟨Nat.le_refl _⟩, ⟨rk_ HO642⟩, ⟨bk_ BK639⟩, ⟨bl_⟩⟩
 case round =>
  clear H'
  obtain ⟨x5_1, x6_1, rfl, HA, HK1, HO_5, BK639, HB⟩ := hrel
  cases gk with
  | zero => exact absurd HA.out (by simp [F85.l0])
  | succ k1 =>
   have H := HA.out
   clear HA
   simp only [F85.l0] at H
   replace H := it_ H; rcases H with ⟨c6b0, H⟩ | ⟨c6b0, H⟩
   rotate_left
   ·obtain rfl := Option.some.inj H
    have hcv24 := own_string (P := Try.prog) Try.underlying36 Try.underlying5 Try.underlying9 (Kd.own_of_R HO_5.out)
    go_wp2
    go_ret
    exact ⟨au5_14, bl_⟩
   replace H := itn_ H; rcases H with ⟨c7b0, H⟩
   replace H := bi_ H; rcases H with ⟨t643, A9, H⟩
   replace H := ib_ H; rcases H with ⟨rfl, H⟩ | ⟨rfl, H⟩
   rotate_left
   ·replace H := iln_ H; rcases H with ⟨LMc20, H⟩
    obtain ⟨y650, hy650⟩ : ∃ y_ : List Int, y_ = (x5_1 ++ [bt a1 x6_1]) := ⟨_, rfl⟩
    replace H : (F85.l0 k1 a1 y650 (wrap64 (x6_1 + 1)) a0_0 a0_1 a0_2 a0_3) = some r := by first | (rw [hy650]; exact H) | exact H
    have Ny650 := am_ hy650
    clear hy650
    have H' := am_ H
    clear H
    try go_wp2
    replace HO_5 := am_ (Kd.R_drew HO_5.out)
    replace BK639 := bd_ BK639
    replace HB := am_ (below_drew1 HB.out)
    have p8 : 0 ≤ (x6_1 : Int) := od_
    have q8 : x6_1 < (a1.size : Int) := od_
    have hx8 := bt_at a1 x6_1
    replace p8 := eq_true p8
    replace q8 := eq_true q8
    refine start_ (n := 5) (S := fun w' => w'.cell? ⟨gb639, 0, none⟩ = some (.int .i64 a0_0) ∧ w'.cell? ⟨gb639, 1, none⟩ = some (.int .i64 a0_1) ∧ w'.cell? ⟨gb639, 2, none⟩ = some (.int .i64 a0_2) ∧ w'.cell? ⟨gb639, 3, none⟩ = some (.int .i64 a0_3)) (ds := []) #[false, false, false, false, false] (by kernel_rfl) rfl rfl ⟨(blk_cell BK639.out 0).trans rfl, (blk_cell BK639.out 1).trans rfl, (blk_cell BK639.out 2).trans rfl, (blk_cell BK639.out 3).trans rfl⟩ (fun hHeld => ?_)
    generalize wr.drew = w21 at HO_5 BK639 HB hHeld ⊢
    refine pk_ 1 15 #[false, true, false, false, false] ?_ rfl rfl
    refine pk_ 2 16 #[false, true, true, false, false] ?_ rfl rfl
    refine take_ (i := 0) (N := some 14) (v := ?_) (a' := ?_) #[true, true, true, false, false] rfl rfl (by kernel_rfl) (fun _ _ _ h => h) (Or.inl ⟨by rfl, ?_⟩) hHeld ?_ ?_
    rotate_left
    ·rintro w' ⟨s0, s1, s2, s3⟩
     go_simp
     with_reducible rfl
    rotate_left
    ·simp only [Act.put, List.setIfInBounds_toArray, List.set_cons_zero, List.set_cons_succ, i64_w, i32_w]
     rfl
    refine take_ (i := 3) (N := some 17) (v := ?_) (a' := ?_) #[true, true, true, true, false] rfl rfl (by kernel_rfl) (fun _ _ _ h => h) (Or.inl ⟨by rfl, ?_⟩) hHeld ?_ ?_
    rotate_left
    ·rintro w' ⟨s0, s1, s2, s3⟩
     go_simp
     with_reducible rfl
    rotate_left
    ·simp only [Act.put, List.setIfInBounds_toArray, List.set_cons_zero, List.set_cons_succ, i64_w, i32_w]
     rfl
    refine one_ (i := 4) (N := some 18) #[true, true, true, true, true] rfl rfl (by kernel_rfl) (by decide) (fun K hK => ?_)
    refine gr_ Try.func62 #[.agg #[.int .i64 a0_0, .int .i64 a0_1, .int .i64 a0_2, .int .i64 a0_3], .int .u8 (bt a1 x6_1)] (by rfl) ?_ rfl rfl rfl
    with_reducible refine (F62.calls a0_0 a0_1 a0_2 a0_3 (bt a1 x6_1) false _ A9.out).mono ?_
    rintro e w22 ⟨rfl, hb⟩
    refine ⟨_, rfl, ?_⟩
    replace HO_5 := am_ (Kd.R_below (rk_ HO_5) hb)
    replace BK639 := bb_ BK639 hb
    replace HB := hs_ w hb
    (try clear hb)
    (try clear hb2)
    (try clear hk)
    (try clear hi)
    refine hK.out _ _ ⟨(blk_cell BK639.out 0).trans rfl, (blk_cell BK639.out 1).trans rfl, (blk_cell BK639.out 2).trans rfl, (blk_cell BK639.out 3).trans rfl⟩ (fun hHeld => ?_)
    clear hK K
    refine no_ 18 ?_
    refine done_ (by kernel_rfl) ?_
    have p19 : 0 ≤ (x6_1 : Int) := od_
    have q19 : x6_1 < (a1.size : Int) := od_
    have hx19 := bt_at a1 x6_1
    replace p19 := eq_true p19
    replace q19 := eq_true q19
    try go_wp2_with (first | ((with_reducible refine gate_builtin (b := .append) (xs := #[.tmp 25, .tmp 29]) rfl ?_); at_builtin; refine Kd.R_append (Kd.int .u8) (w0 := w) w.heap.size rfl (.tmp 25) (.tmp 29) 36 5 (.int .u8 0) 1 rfl Try.underlying36 info5 rfl (by decide) (by omega) u5 x5_1 (bt a1 x6_1) [.int .u8 (bt a1 x6_1)] (fun _ => True) (fun _ => False) rfl rfl ?aP (fun _ hk => hk.elim) ?aF ?aO ?aB ?aS ?aL ?_; (case aP => exact rfl); (case aB => exact bl_); (case aF => exact (fun _ _ => trivial)); (case aO => exact (rk_ HO_5)); (case aS => exact (below_size bl_)); (case aL => have := LMc20.out; omega); intro v651 w23 ho hb hg hat; rw [← Ny650.out] at ho; have n0_ := am_ (bg_ BK639 hg (Kd.R_ne HO_5.out BK639.out (by decide))); have n1_ := am_ (hb); have n2_ := am_ (ho); clear BK639; clear HB; clear HO_5; have BK639 := n0_; have HB := n1_; have HO652 := n2_; clear n0_ n1_ n2_; clear ho hb hg hat))
    go_roundg k1
    case measure => have := HK1.out; omega
    case rel => exact ⟨(y650), (wrap64 (x6_1 + 1)), er_, H', ⟨by have := HK1.out; omega⟩, ⟨rk_ HO652⟩, ⟨bk_ BK639⟩, ⟨bl_⟩⟩
   replace H := iln_ H; rcases H with ⟨LMc11, H⟩
   obtain ⟨y644, hy644⟩ : ∃ y_ : List Int, y_ = (x5_1 ++ [(a0_3) % 256]) := ⟨_, rfl⟩
   replace H : (if y644.length < 140737488355328 then (F85.l0 k1 a1 (y644 ++ [bt a1 x6_1]) (wrap64 (x6_1 + 1)) a0_0 a0_1 a0_2 a0_3) else (none)) = some r := by first | (rw [hy644]; exact H) | exact H
   have Ny644 := am_ hy644
   clear hy644
   replace H := iln_ H; rcases H with ⟨LMc13, H⟩
   obtain ⟨y647, hy647⟩ : ∃ y_ : List Int, y_ = (y644 ++ [bt a1 x6_1]) := ⟨_, rfl⟩
   replace H : (F85.l0 k1 a1 y647 (wrap64 (x6_1 + 1)) a0_0 a0_1 a0_2 a0_3) = some r := by first | (rw [hy647]; exact H) | exact H
   have Ny647 := am_ hy647
   clear hy647
   have H' := am_ H
   clear H
   try go_wp2
   replace HO_5 := am_ (Kd.R_drew HO_5.out)
   replace BK639 := bd_ BK639
   replace HB := am_ (below_drew1 HB.out)
   have p8 : 0 ≤ (x6_1 : Int) := od_
   have q8 : x6_1 < (a1.size : Int) := od_
   have hx8 := bt_at a1 x6_1
   replace p8 := eq_true p8
   replace q8 := eq_true q8
   refine start_ (n := 5) (S := fun w' => w'.cell? ⟨gb639, 0, none⟩ = some (.int .i64 a0_0) ∧ w'.cell? ⟨gb639, 1, none⟩ = some (.int .i64 a0_1) ∧ w'.cell? ⟨gb639, 2, none⟩ = some (.int .i64 a0_2) ∧ w'.cell? ⟨gb639, 3, none⟩ = some (.int .i64 a0_3)) (ds := []) #[false, false, false, false, false] (by kernel_rfl) rfl rfl ⟨(blk_cell BK639.out 0).trans rfl, (blk_cell BK639.out 1).trans rfl, (blk_cell BK639.out 2).trans rfl, (blk_cell BK639.out 3).trans rfl⟩ (fun hHeld => ?_)
   generalize wr.drew = w14 at HO_5 BK639 HB hHeld ⊢
   refine pk_ 1 15 #[false, true, false, false, false] ?_ rfl rfl
   refine pk_ 2 16 #[false, true, true, false, false] ?_ rfl rfl
   refine take_ (i := 0) (N := some 14) (v := ?_) (a' := ?_) #[true, true, true, false, false] rfl rfl (by kernel_rfl) (fun _ _ _ h => h) (Or.inl ⟨by rfl, ?_⟩) hHeld ?_ ?_
   rotate_left
   ·rintro w' ⟨s0, s1, s2, s3⟩
    go_simp
    with_reducible rfl
   rotate_left
   ·simp only [Act.put, List.setIfInBounds_toArray, List.set_cons_zero, List.set_cons_succ, i64_w, i32_w]
    rfl
   refine take_ (i := 3) (N := some 17) (v := ?_) (a' := ?_) #[true, true, true, true, false] rfl rfl (by kernel_rfl) (fun _ _ _ h => h) (Or.inl ⟨by rfl, ?_⟩) hHeld ?_ ?_
   rotate_left
   ·rintro w' ⟨s0, s1, s2, s3⟩
    go_simp
    with_reducible rfl
   rotate_left
   ·simp only [Act.put, List.setIfInBounds_toArray, List.set_cons_zero, List.set_cons_succ, i64_w, i32_w]
    rfl
   refine one_ (i := 4) (N := some 18) #[true, true, true, true, true] rfl rfl (by kernel_rfl) (by decide) (fun K hK => ?_)
   refine gr_ Try.func62 #[.agg #[.int .i64 a0_0, .int .i64 a0_1, .int .i64 a0_2, .int .i64 a0_3], .int .u8 (bt a1 x6_1)] (by rfl) ?_ rfl rfl rfl
   with_reducible refine (F62.calls a0_0 a0_1 a0_2 a0_3 (bt a1 x6_1) true _ A9.out).mono ?_
   rintro e w15 ⟨rfl, hb⟩
   refine ⟨_, rfl, ?_⟩
   replace HO_5 := am_ (Kd.R_below (rk_ HO_5) hb)
   replace BK639 := bb_ BK639 hb
   replace HB := hs_ w hb
   (try clear hb)
   (try clear hb2)
   (try clear hk)
   (try clear hi)
   refine hK.out _ _ ⟨(blk_cell BK639.out 0).trans rfl, (blk_cell BK639.out 1).trans rfl, (blk_cell BK639.out 2).trans rfl, (blk_cell BK639.out 3).trans rfl⟩ (fun hHeld => ?_)
   clear hK K
   refine no_ 18 ?_
   refine done_ (by kernel_rfl) ?_
   obtain ⟨hcz16_0, hcz16_1, hcz16_2, hcz16_3, hfz16_0, hfz16_1, hfz16_2, hfz16_3⟩ := cellsF4 BK639.out
   try go_wp2_with (first | ((with_reducible refine gate_builtin (b := .append) (xs := #[.tmp 19, .tmp 23]) rfl ?_); at_builtin; refine Kd.R_append (Kd.int .u8) (w0 := w) w.heap.size rfl (.tmp 19) (.tmp 23) 36 5 (.int .u8 0) 1 rfl Try.underlying36 info5 rfl (by decide) (by omega) u5 x5_1 ((a0_3) % 256) [.int .u8 ((a0_3) % 256)] (fun _ => True) (fun _ => False) rfl rfl ?aP (fun _ hk => hk.elim) ?aF ?aO ?aB ?aS ?aL ?_; (case aP => exact rfl); (case aB => exact bl_); (case aF => exact (fun _ _ => trivial)); (case aO => exact (rk_ HO_5)); (case aS => exact (below_size bl_)); (case aL => have := LMc11.out; omega); intro v645 w17 ho hb hg hat; rw [← Ny644.out] at ho; have n0_ := am_ (bg_ BK639 hg (Kd.R_ne HO_5.out BK639.out (by decide))); have n1_ := am_ (hb); have n2_ := am_ (ho); clear BK639; clear HB; clear HO_5; have BK639 := n0_; have HB := n1_; have HO646 := n2_; clear n0_ n1_ n2_; clear ho hb hg hat; have p12 : 0 ≤ (x6_1 : Int) := od_; have q12 : x6_1 < (a1.size : Int) := od_; have hx12 := bt_at a1 x6_1; replace p12 := eq_true p12; replace q12 := eq_true q12) | ((with_reducible refine gate_builtin (b := .append) (xs := #[.tmp 25, .tmp 29]) rfl ?_); at_builtin; refine Kd.R_append (Kd.int .u8) (w0 := w) w.heap.size rfl (.tmp 25) (.tmp 29) 36 5 (.int .u8 0) 1 rfl Try.underlying36 info5 rfl (by decide) (by omega) v645 y644 (bt a1 x6_1) [.int .u8 (bt a1 x6_1)] (fun _ => True) (fun _ => False) rfl rfl ?aP (fun _ hk => hk.elim) ?aF ?aO ?aB ?aS ?aL ?_; (case aP => exact rfl); (case aB => exact bl_); (case aF => exact (fun _ _ => trivial)); (case aO => exact (rk_ HO646)); (case aS => exact (below_size bl_)); (case aL => have := LMc13.out; omega); intro v648 w18 ho hb hg hat; rw [← Ny647.out] at ho; have n0_ := am_ (bg_ BK639 hg (Kd.R_ne HO646.out BK639.out (by decide))); have n1_ := am_ (hb); have n2_ := am_ (ho); clear BK639; clear HB; clear HO646; have BK639 := n0_; have HB := n1_; have HO649 := n2_; clear n0_ n1_ n2_; clear ho hb hg hat))
   go_roundg k1
   case measure => have := HK1.out; omega
   case rel => exact ⟨(y647), (wrap64 (x6_1 + 1)), er_, H', ⟨by have := HK1.out; omega⟩, ⟨rk_ HO649⟩, ⟨bk_ BK639⟩, ⟨bl_⟩⟩
end Go.Proofs.Ytchoalagkcdbhaa.PFnSegmentBack
