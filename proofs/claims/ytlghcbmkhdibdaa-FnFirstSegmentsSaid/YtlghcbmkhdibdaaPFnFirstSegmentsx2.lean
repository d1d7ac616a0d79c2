-- printed by a program of this session (wip/xp/xprint.py) out of the translation; Lean checks it
import Derived.Test.YtlghcbmkhdibdaaPFnFirstSegmentsx0
import Derived.Test.YtlghcbmkhdibdaaPFnFirstSegmentsx1
namespace Go.Proofs.Ytlghcbmkhdibdaa.PFnFirstSegments
open Go.RowKit Go.Proofs.YtlghcbmkhdibdaaW.PrintWords Go.Proofs.YtlghcbmkhdibdaaW.PrintLast Go.Proofs.YtlghcbmkhdibdaaW.PrintMore
attribute [local go_sem] max2_int min2_int max_two min_two max_three min_three max_four min_four   -- for this text's walks alone
set_option linter.unusedVariables false
set_option linter.unusedSimpArgs false
set_option maxHeartbeats 8000000
set_option maxRecDepth 100000

theorem is2_0_ {p : Prop} (h : p := by repeat (first | (with_reducible first | exact HI0.out | apply IsS116.alloc | apply IsS116.drewN | apply IsS116.drew | apply IsS116.set_1 | apply IsS116.set_2 | apply IsS116.set_3 | refine IsS116.far ?_ (Aside0.out (by assumption)) _) | exact HI0.out)) : p := h
theorem is2_1_ {p : Prop} (h : p := by repeat (first | (with_reducible first | exact HI354.out | apply IsS116.alloc | apply IsS116.drewN | apply IsS116.drew | apply IsS116.set_1 | apply IsS116.set_2 | apply IsS116.set_3 | refine IsS116.far ?_ (Aside0.out (by assumption)) _) | exact HI354.out)) : p := h

theorem au2_0 {p : Prop} (h : p := by repeat (first | (with_reducible first | exact HK.out | apply KeepBut.set_ | apply keep_drewN | apply keep_drew | apply keep_alloc | refine keep_far ?_ GW200.out _ | refine keep_far ?_ GW205.out _ | refine keep_far ?_ GW213.out _) | exact HK.out)) : p := h
theorem au2_1 {p : Prop} (h : p := by repeat (first | (with_reducible first | exact HI0.out | apply IsS116.alloc | apply IsS116.drewN | apply IsS116.drew | apply IsS116.set_1 | apply IsS116.set_2 | apply IsS116.set_3 | refine IsS116.far ?_ NB0_200.out _ | refine IsS116.far ?_ NB0_205.out _ | refine IsS116.far ?_ NB0_213.out _) | exact HI0.out)) : p := h
theorem au2_2 {p : Prop} (h : p := by repeat (first | (with_reducible first | exact HB.out | apply below_alloc | apply pw_below_drewN | apply below_drew1 | refine below_set ?_ (IsS116.ge HI0.out) | refine below_set ?_ GE200.out | refine below_set ?_ GE205.out | refine below_set ?_ GE213.out) | exact HB.out)) : p := h
theorem au2_3 {p : Prop} (h : p := by repeat (first | (with_reducible first | exact HB.out | apply below_alloc | apply pw_below_drewN | apply below_drew1 | refine below_set ?_ (IsS116.ge HI0.out) | refine below_set ?_ GE200.out | refine below_set ?_ GE205.out | refine below_set ?_ GE213.out) | exact HB.out)) : p := h
theorem au2_4 {p : Prop} (h : p := by repeat (first | (with_reducible first | exact HK.out | apply KeepBut.set_ | apply keep_drewN | apply keep_drew | apply keep_alloc) | exact HK.out)) : p := h
theorem au2_5 {p : Prop} (h : p := by repeat (first | (with_reducible first | exact HK.out | apply KeepBut.set_ | apply keep_drewN | apply keep_drew | apply keep_alloc | refine keep_far ?_ GW200.out _ | refine keep_far ?_ GW205.out _ | refine keep_far ?_ GW213.out _ | refine keep_far ?_ GW226.out _) | exact HK.out)) : p := h
theorem au2_6 {p : Prop} (h : p := by (with_reducible repeat (first | apply Kd.S_alloc | apply Kd.S_drewN | apply Kd.S_drew)); exact HO_214001.out) : p := h
theorem au2_7 {p : Prop} (h : p := by repeat (first | (with_reducible first | exact HB.out | apply below_alloc | apply pw_below_drewN | apply below_drew1 | refine below_set ?_ (IsS116.ge HI0.out) | refine below_set ?_ GE200.out | refine below_set ?_ GE205.out | refine below_set ?_ GE213.out) | exact HB.out)) : p := h
theorem au2_8 {p : Prop} (h : p := by repeat (first | (with_reducible first | exact HK.out | apply KeepBut.set_ | apply keep_drewN | apply keep_drew | apply keep_alloc | refine keep_far ?_ GW200.out _ | refine keep_far ?_ GW205.out _ | refine keep_far ?_ GW213.out _) | exact HK.out)) : p := h
theorem au2_9 {p : Prop} (h : p := by repeat (first | (with_reducible first | exact HI0.out | apply IsS116.alloc | apply IsS116.drewN | apply IsS116.drew | apply IsS116.set_1 | apply IsS116.set_2 | apply IsS116.set_3 | refine IsS116.far ?_ NB0_200.out _ | refine IsS116.far ?_ NB0_205.out _ | refine IsS116.far ?_ NB0_213.out _ | refine IsS116.far ?_ NB0_226.out _) | exact HI0.out)) : p := h
theorem au2_10 {p : Prop} (h : p := by repeat (first | (with_reducible first | exact HB.out | apply below_alloc | apply pw_below_drewN | apply below_drew1 | refine below_set ?_ (IsS116.ge HI0.out) | refine below_set ?_ GE200.out | refine below_set ?_ GE205.out | refine below_set ?_ GE213.out | refine below_set ?_ GE226.out) | exact HB.out)) : p := h
theorem au2_11 {p : Prop} (h : p := by repeat (first | (with_reducible first | exact HK.out | apply KeepBut.set_ | apply keep_drewN | apply keep_drew | apply keep_alloc | refine keep_far ?_ GW337.out _) | exact HK.out)) : p := h
theorem au2_12 {p : Prop} (h : p := by repeat (first | (with_reducible first | exact HI0.out | apply IsS116.alloc | apply IsS116.drewN | apply IsS116.drew | apply IsS116.set_1 | apply IsS116.set_2 | apply IsS116.set_3) | exact HI0.out)) : p := h
theorem au2_13 {p : Prop} (h : p := by repeat (first | (with_reducible first | exact HB.out | apply below_alloc | apply pw_below_drewN | apply below_drew1 | refine below_set ?_ (IsS116.ge HI0.out)) | exact HB.out)) : p := h
theorem au2_14 {p : Prop} (h : p := by repeat (first | (with_reducible first | exact HK.out | apply KeepBut.set_ | apply keep_drewN | apply keep_drew | apply keep_alloc | refine keep_far ?_ GW200.out _ | refine keep_far ?_ GW205.out _) | exact HK.out)) : p := h
theorem au2_15 {p : Prop} (h : p := by repeat (first | (with_reducible first | exact HB.out | apply below_alloc | apply pw_below_drewN | apply below_drew1 | refine below_set ?_ (IsS116.ge HI0.out)) | exact HB.out)) : p := h
theorem au2_16 {p : Prop} (h : p := by repeat (first | (with_reducible exact HR265_0.out) | (with_reducible refine Kd.C_alloc ?_ _) | (with_reducible refine Kd.C_drewN ?_ _) | (with_reducible refine Kd.C_drew ?_) | exact HR265_0.out)) : p := h
theorem au2_17 {p : Prop} (h : p := by repeat (first | (with_reducible first | exact HB.out | apply below_alloc | apply pw_below_drewN | apply below_drew1 | refine below_set ?_ (IsS116.ge HI0.out) | refine below_set ?_ GE200.out | refine below_set ?_ GE205.out | refine below_set ?_ GE213.out | refine below_set ?_ GE226.out) | exact HB.out)) : p := h
theorem au2_18 {p : Prop} (h : p := by repeat (first | (with_reducible first | exact HK.out | apply KeepBut.set_ | apply keep_drewN | apply keep_drew | apply keep_alloc | refine keep_far ?_ GW200.out _ | refine keep_far ?_ GW205.out _ | refine keep_far ?_ GW213.out _ | refine keep_far ?_ GW226.out _) | exact HK.out)) : p := h
theorem au2_19 {p : Prop} (h : p := by repeat (first | (with_reducible first | exact HB.out | apply below_alloc | apply pw_below_drewN | apply below_drew1 | refine below_set ?_ (IsS116.ge HI0.out) | refine below_set ?_ GE337.out) | exact HB.out)) : p := h
theorem au2_20 {p : Prop} (h : p := by repeat (first | (with_reducible first | exact HB.out | apply below_alloc | apply pw_below_drewN | apply below_drew1 | refine below_set ?_ (IsS116.ge HI0.out)) | exact HB.out)) : p := h
theorem au2_21 {p : Prop} (h : p := by repeat (first | (with_reducible first | exact HB.out | apply below_alloc | apply pw_below_drewN | apply below_drew1 | refine below_set ?_ (IsS116.ge HI0.out) | refine below_set ?_ GE200.out | refine below_set ?_ GE205.out | refine below_set ?_ GE213.out | refine below_set ?_ GE226.out) | exact HB.out)) : p := h
theorem au2_22 {p : Prop} (h : p := by repeat (first | (with_reducible first | exact HK.out | apply KeepBut.set_ | apply keep_drewN | apply keep_drew | apply keep_alloc) | exact HK.out)) : p := h
theorem au2_23 {p : Prop} (h : p := by first | rfl | (simp [errW_none, errW_some] <;> rfl) | (simp [*, errW_none, errW_some] <;> rfl)) : p := h
theorem au2_24 {p : Prop} (h : p := by repeat (first | (with_reducible first | exact HK.out | apply KeepBut.set_ | apply keep_drewN | apply keep_drew | apply keep_alloc | refine keep_far ?_ GW200.out _) | exact HK.out)) : p := h
theorem au2_25 {p : Prop} (h : p := by exact (Reps.one (show Kd.M Kd.string _ _ _ (⟨#[]⟩ : ByteArray) [.string (⟨#[]⟩ : ByteArray)] from rfl) (Reps.one (show Kd.M Kd.string _ _ _ (⟨#[98]⟩ : ByteArray) [.string (⟨#[98]⟩ : ByteArray)] from rfl) (Reps.none _ _)))) : p := h
theorem au2_26 {p : Prop} (h : p := by repeat (first | (with_reducible first | exact HB.out | apply below_alloc | apply pw_below_drewN | apply below_drew1 | refine below_set ?_ (IsS116.ge HI354.out) | refine below_set ?_ GE349.out) | exact HB.out)) : p := h
theorem au2_27 {p : Prop} (h : p := by repeat (first | (with_reducible first | exact HB.out | apply below_alloc | apply pw_below_drewN | apply below_drew1 | refine below_set ?_ (IsS116.ge HI0.out) | refine below_set ?_ GE337.out) | exact HB.out)) : p := h
theorem au2_28 {p : Prop} (h : p := by (with_reducible repeat (first | apply Kd.R_alloc | apply Kd.R_drewN | apply Kd.R_drew)); exact HL265_0.out) : p := h
theorem au2_29 {p : Prop} (h : p := by (with_reducible repeat (first | apply Kd.S_alloc | apply Kd.S_drewN | apply Kd.S_drew)); exact HO333.out) : p := h
theorem au2_30 {p : Prop} (h : p := by repeat (first | (with_reducible first | exact HK.out | apply KeepBut.set_ | apply keep_drewN | apply keep_drew | apply keep_alloc | refine keep_far ?_ GW337.out _) | exact HK.out)) : p := h
theorem au2_31 {p : Prop} (h : p := by repeat (first | exact (Kd.R_reads' HO294.out).2.2 | (with_reducible refine Kd.C_alloc ?_ _) | (with_reducible refine Kd.C_drewN ?_ _) | (with_reducible refine Kd.C_drew ?_))) : p := h
theorem au2_32 {p : Prop} (h : p := by exact (Reps.one (show Kd.M Kd.string _ _ _ (⟨#[10]⟩ : ByteArray) [.string (⟨#[10]⟩ : ByteArray)] from rfl) (Reps.one (show Kd.M Kd.string _ _ _ (⟨#[255]⟩ : ByteArray) [.string (⟨#[255]⟩ : ByteArray)] from rfl) (Reps.one (show Kd.M Kd.string _ _ _ (⟨#[97]⟩ : ByteArray) [.string (⟨#[97]⟩ : ByteArray)] from rfl) (Reps.none _ _))))) : p := h
theorem au2_33 {p : Prop} (h : p := by (with_reducible repeat (first | apply Kd.S_alloc | apply Kd.S_drewN | apply Kd.S_drew)); exact (Kd.S_mono (Kd.S_far (p := ⟨gb337, 1, none⟩) (Kd.S_far (p := ⟨gb337, 0, none⟩) (Kd.S_types HO333.out BK337.out (by decide)) (fun _ hk => hk.2) (.string t330)) (fun _ hk => hk.2) (.slice Ao29 t331.length co29)) (fun _ h_ => h_.1))) : p := h
theorem au2_34 {p : Prop} (h : p := by (with_reducible repeat (first | apply Kd.S_alloc | apply Kd.S_drewN | apply Kd.S_drew)); exact (Kd.S_mono (Kd.S_far (p := ⟨gb337, 1, none⟩) (Kd.S_far (p := ⟨gb337, 0, none⟩) (Kd.S_types HO333.out BK337.out (by decide)) (fun _ hk => hk.2) (.string t330)) (fun _ hk => hk.2) (.slice Ao40 t331.length co40)) (fun _ h_ => h_.1))) : p := h
theorem au2_35 {p : Prop} (h : p := by (with_reducible repeat (first | apply Kd.S_alloc | apply Kd.S_drewN | apply Kd.S_drew)); exact (Kd.S_mono (Kd.S_far (p := ⟨gb337, 1, none⟩) (Kd.S_far (p := ⟨gb337, 0, none⟩) (Kd.S_types HO333.out BK337.out (by decide)) (fun _ hk => hk.2) (.string t330)) (fun _ hk => hk.2) (.slice Ao49 t331.length co49)) (fun _ h_ => h_.1))) : p := h
theorem au2_36 {p : Prop} (h : p := by (with_reducible repeat (first | apply Kd.S_alloc | apply Kd.S_drewN | apply Kd.S_drew)); exact HO_214001.out) : p := h
theorem au2_38 {p : Prop} (h : p := by (with_reducible repeat (first | apply Kd.R_alloc | apply Kd.R_drewN | apply Kd.R_drew)); exact Kd.R_mono HO294.out (fun _ hk => hk.2)) : p := h
theorem au2_39 {p : Prop} (h : p := by (with_reducible repeat (first | apply Kd.R_alloc | apply Kd.R_drewN | apply Kd.R_drew)); exact Kd.R_mono HO301.out (fun _ hk => hk.2)) : p := h
theorem au2_40 {p : Prop} (h : p := by repeat (first | (with_reducible first | exact HB.out | apply below_alloc | apply pw_below_drewN | apply below_drew1 | refine below_set ?_ (IsS116.ge HI354.out) | refine below_set ?_ GE349.out | refine below_set ?_ GE362.out) | exact HB.out)) : p := h
theorem au2_41 {p : Prop} (h : p := by repeat (first | (with_reducible first | exact HB.out | apply below_alloc | apply pw_below_drewN | apply below_drew1 | refine below_set ?_ (IsS116.ge HI0.out) | refine below_set ?_ GE200.out | refine below_set ?_ GE205.out) | exact HB.out)) : p := h
theorem au2_42 {p : Prop} (h : p := by repeat (first | (with_reducible first | exact HI0.out | apply IsS116.alloc | apply IsS116.drewN | apply IsS116.drew | apply IsS116.set_1 | apply IsS116.set_2 | apply IsS116.set_3 | refine IsS116.far ?_ NB0_337.out _) | exact HI0.out)) : p := h
theorem au2_43 {p : Prop} (h : p := by repeat (first | (with_reducible first | exact HB.out | apply below_alloc | apply pw_below_drewN | apply below_drew1 | refine below_set ?_ (IsS116.ge HI0.out) | refine below_set ?_ GE200.out) | exact HB.out)) : p := h
theorem au2_44 {p : Prop} (h : p := by repeat (first | (with_reducible first | exact HB.out | apply below_alloc | apply pw_below_drewN | apply below_drew1 | refine below_set ?_ (IsS116.ge HI0.out) | refine below_set ?_ GE337.out) | exact HB.out)) : p := h
theorem au2_45 {p : Prop} (h : p := by first | exact q265 | exact of_decide_eq_true as_ | (have e_ := (Kd.S_reads' HO_214001.out).1; omega)) : p := h
theorem au2_46 {p : Prop} (h : p := by exact k88_mkM _ _ _ (⟨t330, t331⟩ : S88) (Kd.R_mono (Kd.R_types (Kd.R_apart' ((Kd.S_R HO333.out)) (Kd.R_typed HO_3.out) (by decide)) BK337.out (by decide)) (fun k_ hk => ⟨hk.2, hk.1.2⟩))) : p := h
theorem au2_47 {p : Prop} (h : p := by simp only [putAll, Act.put, List.setIfInBounds_toArray, List.set_cons_zero, List.set_cons_succ]) : p := h
theorem au2_48 {p : Prop} (h : p := by exact (by (with_reducible repeat (first | apply Kd.S_alloc | apply Kd.S_drewN | apply Kd.S_drew)); exact Kd.S_mono HO_214001.out (fun k_ hk => ⟨hk.2, fun e_ => hk.1 e_⟩))) : p := h
theorem au2_49 {p : Prop} (h : p := by have := HJ5.out; have := HK2.out; have := HK3.out; first | omega | exact Nat.le_refl _) : p := h
theorem au2_50 {p : Prop} (h : p := by rintro w' ⟨s0, s1, s2, s3, s4⟩; go_simp; with_reducible rfl) : p := h
theorem au2_51 {p : Prop} (h : p := by have := HJ5.out; have := HK2.out; have := HK3.out; omega) : p := h
theorem au2_52 {p : Prop} (h : p := by (with_reducible repeat (first | apply Kd.S_alloc | apply Kd.S_drewN | apply Kd.S_drew)); exact Kd.S_mono HO_214001.out (fun _ hk => ⟨hk.1.2, hk.2⟩)) : p := h
theorem au2_53 {p : Prop} (h : p := by exact (by (with_reducible repeat (first | apply Kd.R_alloc | apply Kd.R_drewN | apply Kd.R_drew)); exact Kd.R_mono HO_3.out (fun _ hk => hk.2))) : p := h
theorem au2_54 {p : Prop} (h : p := by exact far_slice (IsS116.own_ne HI0.out HO294.out (by decide))) : p := h
theorem au2_37 {p : Prop} (h : p := by repeat (first | exact au2_16 | (with_reducible refine Kd.C_alloc ?_ _) | (with_reducible refine Kd.C_drewN ?_ _) | (with_reducible refine Kd.C_drew ?_))) : p := h
theorem au2_55 {p : Prop} (h : p := by exact (keep_size (w := w) (g := g) (row := none) au2_5)) : p := h

/-! ### F75: function 75 -/
mutual
def F75.j0 : Nat → Int → List Int → Int → Int → Int → Int → Int → Int → Int → ByteArray → Option (ByteArray × (List (S122)) × Int × Int × Int)
  | 0, _, _, _, _, _, _, _, _, _, _ => none
  | k + 1, x5, x1000, x1001, x1002, x1003, x206000, x206001, x206002, x206003, x214000 => F75.l0 k x5 x1000 x1001 x1002 x1003 x206000 x206001 x206002 x206003 x214000 ([] : List (S122))
def F75.l0 : Nat → Int → List Int → Int → Int → Int → Int → Int → Int → Int → ByteArray → List (S122) → Option (ByteArray × (List (S122)) × Int × Int × Int)
  | 0, _, _, _, _, _, _, _, _, _, _, _ => none
  | k + 1, x5, x1000, x1001, x1002, x1003, x206000, x206001, x206002, x206003, x214000, x214001 => if x5 > 0 then ((F73.f x1000 x1001 x1002 x1003 2).bind fun bt227 => ((F73.f x1000 bt227.2.1 bt227.2.2.1 bt227.2.2.2 4).bind fun bt231 => (F75.l1 k x5 (wrap64 (1 + (wrap64 (bt227.1 * bt231.1)))) x1000 bt231.2.1 bt231.2.2.1 bt231.2.2.2 x206000 x206001 x206002 x206003 x214000 x214001 ([] : List ByteArray)))) else (F75.l2 k x1000 x1001 x1002 x1003 x214000 x214001)
def F75.l1 : Nat → Int → Int → List Int → Int → Int → Int → Int → Int → Int → Int → ByteArray → List (S122) → List ByteArray → Option (ByteArray × (List (S122)) × Int × Int × Int)
  | 0, _, _, _, _, _, _, _, _, _, _, _, _, _ => none
  | k + 1, x5, x7, x1000, x1001, x1002, x1003, x206000, x206001, x206002, x206003, x214000, x214001, x227000 => if x7 > 0 then ((F73.f x1000 x1001 x1002 x1003 6).bind fun bt235 => ((F103.f k x1000 bt235.2.1 bt235.2.2.1 bt235.2.2.2 x206000 x206001 x206002 x206003 bt235.1).bind fun bt239 => (if x227000.length < 8796093022208 then (F75.l1 k x5 (wrap64 (x7 - 1)) x1000 bt239.2.1 bt239.2.2.1 bt239.2.2.2 x206000 x206001 x206002 x206003 x214000 x214001 (x227000 ++ [bt239.1])) else (none)))) else ((F72.f x1000 x1001 x1002 x1003 60).bind fun bt246 => (if bt246.1 = true then ((F73.f x1000 bt246.2.1 bt246.2.2.1 bt246.2.2.2 3).bind fun bt250 => ((F103.f k x1000 bt250.2.1 bt250.2.2.1 bt250.2.2.2 x206000 x206001 x206002 x206003 (wrap64 (39 + bt250.1))).bind fun bt254 => (if 0 < (x227000.length : Int) then (if x214001.length < 5864062014805 then (F75.l0 k (wrap64 (x5 - 1)) x1000 bt254.2.1 bt254.2.2.1 bt254.2.2.2 x206000 x206001 x206002 x206003 x214000 (x214001 ++ [(⟨(x227000.set (0 : Int).toNat bt254.1)⟩ : S122)])) else (none)) else (none)))) else (if x214001.length < 5864062014805 then (F75.l0 k (wrap64 (x5 - 1)) x1000 bt246.2.1 bt246.2.2.1 bt246.2.2.2 x206000 x206001 x206002 x206003 x214000 (x214001 ++ [(⟨x227000⟩ : S122)])) else (none))))
def F75.j4 : Nat → List Int → Int → Int → Int → ByteArray → List (S122) → Option (ByteArray × (List (S122)) × Int × Int × Int)
  | 0, _, _, _, _, _, _ => none
  | k + 1, x1000, x1001, x1002, x1003, x214000, x214001 => (F72.f x1000 x1001 x1002 x1003 20).bind fun bt274 => (if bt274.1 = true then ((F73.f x1000 bt274.2.1 bt274.2.2.1 bt274.2.2.2 3).bind fun bt278 => (if bt278.1 = 0 then ((F102.f x1000 bt278.2.1 bt278.2.2.1 bt278.2.2.2 (([(⟨#[]⟩ : ByteArray), (⟨#[65, 66]⟩ : ByteArray), (⟨#[65, 66, 67, 68]⟩ : ByteArray), (⟨#[65, 66, 49]⟩ : ByteArray), (⟨#[97, 98, 99]⟩ : ByteArray)] : List ByteArray))).bind fun bt285 => (some (bt285.1, x214001, bt285.2.1, bt285.2.2.1, bt285.2.2.2))) else (if bt278.1 = 1 then (if x214001.length < 5864062014805 then (some (x214000, (x214001 ++ [(⟨([] : List ByteArray)⟩ : S122)]), bt278.2.1, bt278.2.2.1, bt278.2.2.2)) else (none)) else ((F102.f x1000 bt278.2.1 bt278.2.2.1 bt278.2.2.2 (([(⟨#[10]⟩ : ByteArray), (⟨#[255]⟩ : ByteArray), (⟨#[97]⟩ : ByteArray)] : List ByteArray))).bind fun bt295 => ((F102.f x1000 bt295.2.1 bt295.2.2.1 bt295.2.2.2 (([(⟨#[]⟩ : ByteArray), (⟨#[98]⟩ : ByteArray)] : List ByteArray))).bind fun bt302 => (if x214001.length < 5864062014805 then (some (x214000, (x214001 ++ [(⟨(([bt295.1, bt302.1] : List ByteArray))⟩ : S122)]), bt302.2.1, bt302.2.2.1, bt302.2.2.2)) else (none))))))) else (some (x214000, x214001, bt274.2.1, bt274.2.2.1, bt274.2.2.2)))
def F75.l2 : Nat → List Int → Int → Int → Int → ByteArray → List (S122) → Option (ByteArray × (List (S122)) × Int × Int × Int)
  | 0, _, _, _, _, _, _ => none
  | k + 1, x1000, x1001, x1002, x1003, x214000, x214001 => if (x214001.length : Int) > 0 then (if 0 ≤ (wrap64 ((x214001.length : Int) - 1)) then (if (wrap64 ((x214001.length : Int) - 1)) < (x214001.length : Int) then ((F79.f ((rd_T122 x214001 (wrap64 ((x214001.length : Int) - 1))).f0)).bind fun t266 => (if t266 = true then ((F72.f x1000 x1001 x1002 x1003 20).bind fun bt267 => (if bt267.1 = true then (F75.j4 k x1000 bt267.2.1 bt267.2.2.1 bt267.2.2.2 x214000 x214001) else (if (wrap64 ((x214001.length : Int) - 1)) ≤ (x214001.length : Int) then (F75.l2 k x1000 bt267.2.1 bt267.2.2.1 bt267.2.2.2 x214000 (x214001.take ((wrap64 ((x214001.length : Int) - 1)) : Int).toNat)) else (none)))) else (F75.j4 k x1000 x1001 x1002 x1003 x214000 x214001))) else (none)) else (none)) else (F75.j4 k x1000 x1001 x1002 x1003 x214000 x214001)
end
def F75.f (k : Nat) (s0_0 : List Int) (s0_1 : Int) (s0_2 : Int) (s0_3 : Int) : Option (ByteArray × (List (S122)) × Int × Int × Int) := (F71.f).bind fun bt201 => ((F102.f s0_0 s0_1 s0_2 s0_3 (([(⟨#[68, 79, 67]⟩ : ByteArray), (⟨#[76, 73, 78]⟩ : ByteArray), (⟨#[78, 79, 84]⟩ : ByteArray), (⟨#[65, 66, 67]⟩ : ByteArray), (⟨#[73, 88, 72]⟩ : ByteArray)] : List ByteArray))).bind fun bt209 => ((F73.f s0_0 bt209.2.1 bt209.2.2.1 bt209.2.2.2 5).bind fun bt214 => ((F72.f s0_0 bt214.2.1 bt214.2.2.1 bt214.2.2.2 40).bind fun bt218 => (if bt218.1 = true then ((F73.f s0_0 bt218.2.1 bt218.2.2.1 bt218.2.2.2 3).bind fun bt222 => (F75.j0 k (wrap64 (9 + bt222.1)) s0_0 bt222.2.1 bt222.2.2.1 bt222.2.2.2 bt201.1 bt201.2.1 bt201.2.2.1 bt201.2.2.2 bt209.1)) else (F75.j0 k bt214.1 s0_0 bt218.2.1 bt218.2.2.1 bt218.2.2.2 bt201.1 bt201.2.1 bt201.2.2.1 bt201.2.2.2 bt209.1)))))
theorem F75.mono_l : ∀ k, (∀ y0 y1 y2 y3 y4 y5 y6 y7 y8 y9, LeO (F75.j0 k y0 y1 y2 y3 y4 y5 y6 y7 y8 y9) (F75.j0 (k + 1) y0 y1 y2 y3 y4 y5 y6 y7 y8 y9)) ∧ (∀ y0 y1 y2 y3 y4 y5 y6 y7 y8 y9 y10, LeO (F75.l0 k y0 y1 y2 y3 y4 y5 y6 y7 y8 y9 y10) (F75.l0 (k + 1) y0 y1 y2 y3 y4 y5 y6 y7 y8 y9 y10)) ∧ (∀ y0 y1 y2 y3 y4 y5 y6 y7 y8 y9 y10 y11 y12, LeO (F75.l1 k y0 y1 y2 y3 y4 y5 y6 y7 y8 y9 y10 y11 y12) (F75.l1 (k + 1) y0 y1 y2 y3 y4 y5 y6 y7 y8 y9 y10 y11 y12)) ∧ (∀ y0 y1 y2 y3 y4 y5, LeO (F75.j4 k y0 y1 y2 y3 y4 y5) (F75.j4 (k + 1) y0 y1 y2 y3 y4 y5)) ∧ (∀ y0 y1 y2 y3 y4 y5, LeO (F75.l2 k y0 y1 y2 y3 y4 y5) (F75.l2 (k + 1) y0 y1 y2 y3 y4 y5))
 | 0 => ⟨fun _ _ _ _ _ _ _ _ _ _ r h => by simp [F75.j0] at h, fun _ _ _ _ _ _ _ _ _ _ _ r h => by simp [F75.l0] at h, fun _ _ _ _ _ _ _ _ _ _ _ _ _ r h => by simp [F75.l1] at h, fun _ _ _ _ _ _ r h => by simp [F75.j4] at h, fun _ _ _ _ _ _ r h => by simp [F75.l2] at h⟩
 | k + 1 => by
  obtain ⟨ih0, ih1, ih2, ih3, ih4⟩ := F75.mono_l k
  refine ⟨?_, ?_, ?_, ?_, ?_⟩
  rotate_left
  ·intro y0 y1 y2 y3 y4 y5 y6 y7 y8 y9 y10
   unfold F75.l0
   repeat' with_reducible first | exact ih0 _ _ _ _ _ _ _ _ _ _ | exact ih1 _ _ _ _ _ _ _ _ _ _ _ | exact ih2 _ _ _ _ _ _ _ _ _ _ _ _ _ | exact ih3 _ _ _ _ _ _ | exact ih4 _ _ _ _ _ _ | exact F103.mono _ _ _ _ _ _ _ _ _ _ | exact LeO.refl _ | exact LeO.none _ | refine LeO.ite ?_ ?_ | refine LeO.bind ?_ (fun _ => ?_)
  ·intro y0 y1 y2 y3 y4 y5 y6 y7 y8 y9 y10 y11 y12
   unfold F75.l1
   repeat' with_reducible first | exact ih0 _ _ _ _ _ _ _ _ _ _ | exact ih1 _ _ _ _ _ _ _ _ _ _ _ | exact ih2 _ _ _ _ _ _ _ _ _ _ _ _ _ | exact ih3 _ _ _ _ _ _ | exact ih4 _ _ _ _ _ _ | exact F103.mono _ _ _ _ _ _ _ _ _ _ | exact LeO.refl _ | exact LeO.none _ | refine LeO.ite ?_ ?_ | refine LeO.bind ?_ (fun _ => ?_)
  ·intro y0 y1 y2 y3 y4 y5
   unfold F75.j4
   repeat' with_reducible first | exact ih0 _ _ _ _ _ _ _ _ _ _ | exact ih1 _ _ _ _ _ _ _ _ _ _ _ | exact ih2 _ _ _ _ _ _ _ _ _ _ _ _ _ | exact ih3 _ _ _ _ _ _ | exact ih4 _ _ _ _ _ _ | exact F103.mono _ _ _ _ _ _ _ _ _ _ | exact LeO.refl _ | exact LeO.none _ | refine LeO.ite ?_ ?_ | refine LeO.bind ?_ (fun _ => ?_)
  ·intro y0 y1 y2 y3 y4 y5
   unfold F75.l2
   repeat' with_reducible first | exact ih0 _ _ _ _ _ _ _ _ _ _ | exact ih1 _ _ _ _ _ _ _ _ _ _ _ | exact ih2 _ _ _ _ _ _ _ _ _ _ _ _ _ | exact ih3 _ _ _ _ _ _ | exact ih4 _ _ _ _ _ _ | exact F103.mono _ _ _ _ _ _ _ _ _ _ | exact LeO.refl _ | exact LeO.none _ | refine LeO.ite ?_ ?_ | refine LeO.bind ?_ (fun _ => ?_)
  intro y0 y1 y2 y3 y4 y5 y6 y7 y8 y9
  unfold F75.j0
  repeat' with_reducible first | exact ih0 _ _ _ _ _ _ _ _ _ _ | exact ih1 _ _ _ _ _ _ _ _ _ _ _ | exact ih2 _ _ _ _ _ _ _ _ _ _ _ _ _ | exact ih3 _ _ _ _ _ _ | exact ih4 _ _ _ _ _ _ | exact F103.mono _ _ _ _ _ _ _ _ _ _ | exact LeO.refl _ | exact LeO.none _ | refine LeO.ite ?_ ?_ | refine LeO.bind ?_ (fun _ => ?_)
theorem F75.mono : ∀ a0 a1 a2 a3 k, LeO (F75.f k a0 a1 a2 a3) (F75.f (k + 1) a0 a1 a2 a3) := by
 intro a0 a1 a2 a3 k
 obtain ⟨ih0, ih1, ih2, ih3, ih4⟩ := F75.mono_l k
 unfold F75.f
 repeat' with_reducible first | exact ih0 _ _ _ _ _ _ _ _ _ _ | exact ih1 _ _ _ _ _ _ _ _ _ _ _ | exact ih2 _ _ _ _ _ _ _ _ _ _ _ _ _ | exact ih3 _ _ _ _ _ _ | exact ih4 _ _ _ _ _ _ | exact F103.mono _ _ _ _ _ _ _ _ _ _ | exact LeO.refl _ | exact LeO.none _ | refine LeO.ite ?_ ?_ | refine LeO.bind ?_ (fun _ => ?_)
def F75.T12 : Bool × List (List Nat × List Nat) := (true, [([], []), ([0], [0]), ([], []), ([], []), ([], []), ([4], [4]), ([2, 3, 5, 5], [2, 3, 5]), ([6], [6]), ([1, 7, 6], [1, 7]), ([0, 1, 2, 3, 4, 5, 6, 7, 8], []), ([9, 8, 8, 0, 1, 2, 3, 4, 5, 6, 7, 8], [8, 9])])
def F75.B12 : List Nat := [0, 1, 0, 0, 0, 16, 60, 124, 255, 511, 1023]
theorem F75.tab12 : rtab .any (opsOf Try.f75 12) = F75.T12 := by kernel_rfl
theorem F75.bits12 : waitsOk F75.T12.2 F75.B12 = true := by kernel_rfl
def F75.T14 : Bool × List (List Nat × List Nat) := (true, [([], []), ([0], [0]), ([], []), ([], []), ([], []), ([4], [4]), ([5], [5]), ([2, 3, 6, 5], [2, 3, 6]), ([1, 0, 1, 2, 3, 4, 5, 6, 7], [1]), ([8, 7, 7, 0, 1, 2, 3, 4, 5, 6, 7], [7, 8])])
def F75.B14 : List Nat := [0, 1, 0, 0, 0, 16, 48, 124, 255, 511]
theorem F75.tab14 : rtab .any (opsOf Try.f75 14) = F75.T14 := by kernel_rfl
theorem F75.bits14 : waitsOk F75.T14.2 F75.B14 = true := by kernel_rfl
def F75.T20 : Bool × List (List Nat × List Nat) := (true, [([], []), ([0], [0]), ([], []), ([], []), ([2, 3], [2, 3]), ([], []), ([], []), ([5, 6, 4], [5, 6]), ([4, 7], [4, 7]), ([8], [8]), ([9], [9]), ([1, 10, 7], [1, 10]), ([0, 1, 2, 3, 4, 5, 6, 7, 8, 9, 10, 11], []), ([12, 11, 11, 0, 1, 2, 3, 4, 5, 6, 7, 8, 9, 10, 11], [11, 12])])
def F75.B20 : List Nat := [0, 1, 0, 0, 12, 0, 0, 124, 252, 508, 1020, 2047, 4095, 8191]
theorem F75.tab20 : rtab .any (opsOf Try.f75 20) = F75.T20 := by kernel_rfl
theorem F75.bits20 : waitsOk F75.T20.2 F75.B20 = true := by kernel_rfl
theorem F75.calls (k : Nat) (g : Nat) (s0_0 : List Int) (s0_1 : Int) (s0_2 : Int) (s0_3 : Int) (r1 : ByteArray) (r2 : List (S122)) (r3 : Int) (r4 : Int) (r5 : Int) (w0 w : World) (hI : IsS116 w0 w g s0_0 s0_1 s0_2 s0_3) (hB : Below w0.heap.size w0 w) (h : F75.f k s0_0 s0_1 s0_2 s0_3 = some (r1, r2, r3, r4, r5)) :
  Calls Try.prog 75 #[.pointer (some ⟨g, 0, none⟩)] w fun e w' => ∃ v1_ : Value, e = .returned (.agg #[.string r1, v1_]) ∧ Kd.S k122 122 w' w.heap.size (fun _ => True) v1_ r2 ∧ IsS116 w0 w' g s0_0 r3 r4 r5 ∧ Below w0.heap.size w0 w' ∧ KeepBut w w' g none := by
 have hu88 := Try.underlying88
 have hu45 := Try.underlying45
 have hu122 := Try.underlying122
 have HI0 := am_ hI
 have HK := am_ (KeepBut.refl w g none)
 have HL := am_ hB.size
 clear hI
 have HW0 := am_ hB.size
 have HB := am_ hB
 clear hB
 have H : ((F71.f).bind fun bt201 => ((F102.f s0_0 s0_1 s0_2 s0_3 (([(⟨#[68, 79, 67]⟩ : ByteArray), (⟨#[76, 73, 78]⟩ : ByteArray), (⟨#[78, 79, 84]⟩ : ByteArray), (⟨#[65, 66, 67]⟩ : ByteArray), (⟨#[73, 88, 72]⟩ : ByteArray)] : List ByteArray))).bind fun bt209 => ((F73.f s0_0 bt209.2.1 bt209.2.2.1 bt209.2.2.2 5).bind fun bt214 => ((F72.f s0_0 bt214.2.1 bt214.2.2.1 bt214.2.2.2 40).bind fun bt218 => (if bt218.1 = true then ((F73.f s0_0 bt218.2.1 bt218.2.2.1 bt218.2.2.2 3).bind fun bt222 => (F75.j0 k (wrap64 (9 + bt222.1)) s0_0 bt222.2.1 bt222.2.2.1 bt222.2.2.2 bt201.1 bt201.2.1 bt201.2.2.1 bt201.2.2.2 bt209.1)) else (F75.j0 k bt214.1 s0_0 bt218.2.1 bt218.2.2.1 bt218.2.2.2 bt201.1 bt201.2.1 bt201.2.2.1 bt201.2.2.2 bt209.1)))))) = some (r1, r2, r3, r4, r5) := h
 clear h
 replace H := bi_ H; rcases H with ⟨⟨t201, t202, t203, t204⟩, A2, H⟩
 obtain ⟨y206, hy206⟩ : ∃ y_ : List ByteArray, y_ = (([(⟨#[68, 79, 67]⟩ : ByteArray), (⟨#[76, 73, 78]⟩ : ByteArray), (⟨#[78, 79, 84]⟩ : ByteArray), (⟨#[65, 66, 67]⟩ : ByteArray), (⟨#[73, 88, 72]⟩ : ByteArray)] : List ByteArray)) := ⟨_, rfl⟩
 replace H : ((F102.f s0_0 s0_1 s0_2 s0_3 y206).bind fun bt209 => ((F73.f s0_0 bt209.2.1 bt209.2.2.1 bt209.2.2.2 5).bind fun bt214 => ((F72.f s0_0 bt214.2.1 bt214.2.2.1 bt214.2.2.2 40).bind fun bt218 => (if bt218.1 = true then ((F73.f s0_0 bt218.2.1 bt218.2.2.1 bt218.2.2.2 3).bind fun bt222 => (F75.j0 k (wrap64 (9 + bt222.1)) s0_0 bt222.2.1 bt222.2.2.1 bt222.2.2.2 t201 t202 t203 t204 bt209.1)) else (F75.j0 k bt214.1 s0_0 bt218.2.1 bt218.2.2.1 bt218.2.2.2 t201 t202 t203 t204 bt209.1))))) = some (r1, r2, r3, r4, r5) := by first | (rw [hy206]; exact H) | exact H
 have Ny206 := am_ hy206
 clear hy206
 replace H := bi_ H; rcases H with ⟨⟨t209, t210, t211, t212⟩, A3, H⟩
 replace H := bi_ H; rcases H with ⟨⟨t214, t215, t216, t217⟩, A4, H⟩
 replace H := bi_ H; rcases H with ⟨⟨t218, t219, t220, t221⟩, A5, H⟩
 have HC6 := am_ H
 clear H
 go_enter Try.func75, Try.ntmps75
 go_upto_if 16 with (first | ((with_reducible refine gate_dst (N := 2) rfl ?_); (try (refine gate_guard (by rfl) ?_; dsimp only)); refine be_ 2 #[.string (⟨#[]⟩ : ByteArray), .slice none 0 0] 88 ?_; intro gb200 hg w7 hbox hb; replace HB := am_ (below_step au2_15 hb); have BK200 := am_ (hbox); have GW200 := am_ ((by rw [hg]; exact (keep_size (w := w) (g := g) (row := none) au2_4) : w.heap.size ≤ gb200)); have GE200 := am_ ((Nat.le_trans HW0.out (by rw [hg]; exact (keep_size (w := w) (g := g) (row := none) au2_4) : w.heap.size ≤ gb200) : w0.heap.size ≤ gb200)); replace HK := am_ (KeepBut.trans au2_4 (KeepBut.of_below hb g none) (.inl rfl)); have NB0_200 := am_ (gn_ hg (IsS116.lt (is2_0_ : IsS116 w0 _ g s0_0 s0_1 s0_2 s0_3))); have NB200_0 := am_ (gm_ hg (IsS116.lt (is2_0_ : IsS116 w0 _ g s0_0 s0_1 s0_2 s0_3))); replace HI0 := am_ (IsS116.below is2_0_ hb); clear hb hbox hg) | (go_at_call 71; (with_reducible refine (F71.calls  t201 t202 t203 t204 _ A2.out).mono ?_); rintro e w8 ⟨rfl, hb⟩; (try clear A2); replace BK200 := bb_ BK200 hb; replace HK := am_ (KeepBut.trans au2_24 (KeepBut.of_below hb g none) (.inl rfl)); replace HB := am_ (below_step au2_43 hb); replace HI0 := am_ (IsS116.below is2_0_ hb); (try clear hb); (try clear hb2); (try clear hk); (try clear hi)) | ((with_reducible refine gate_dst (N := 3) rfl ?_); (try (refine gate_guard (by rfl) ?_; dsimp only)); refine be_ 3 #[.int .i64 0, .int .i64 0, .int .i64 0, .int .i64 0] 45 ?_; intro gb205 hg w9 hbox hb; replace HB := am_ (below_step au2_43 hb); have BK205 := am_ (hbox); have GW205 := am_ ((by rw [hg]; exact (keep_size (w := w) (g := g) (row := none) au2_24) : w.heap.size ≤ gb205)); have GE205 := am_ ((Nat.le_trans HW0.out (by rw [hg]; exact (keep_size (w := w) (g := g) (row := none) au2_24) : w.heap.size ≤ gb205) : w0.heap.size ≤ gb205)); replace HK := am_ (KeepBut.trans au2_24 (KeepBut.of_below hb g none) (.inl rfl)); have NB200_205 := am_ (gn_ hg (blkl_ BK200)); have NB205_200 := am_ (gm_ hg (blkl_ BK200)); replace BK200 := bb_ BK200 hb; have NB0_205 := am_ (gn_ hg (IsS116.lt (is2_0_ : IsS116 w0 _ g s0_0 s0_1 s0_2 s0_3))); have NB205_0 := am_ (gm_ hg (IsS116.lt (is2_0_ : IsS116 w0 _ g s0_0 s0_1 s0_2 s0_3))); replace HI0 := am_ (IsS116.below is2_0_ hb); clear hb hbox hg; have hnb10 := NB205_200.out; have hnc10 := NB200_205.out; have hnb11 := NB205_0.out; have hnc11 := NB0_205.out; obtain ⟨hcz12_0, hcz12_1, hcz12_2, hcz12_3, hfz12_0, hfz12_1, hfz12_2, hfz12_3⟩ := cellsF4 BK205.out) | ((with_reducible refine gate_dst (N := 10) rfl ?_); (try (refine gate_guard (by rfl) ?_; dsimp only)); refine Kd.R_lit Kd.string _ 9 ?hg (N := 10) ?hd (xs := ([(⟨#[68, 79, 67]⟩ : ByteArray), (⟨#[76, 73, 78]⟩ : ByteArray), (⟨#[78, 79, 84]⟩ : ByteArray), (⟨#[65, 66, 67]⟩ : ByteArray), (⟨#[73, 88, 72]⟩ : ByteArray)] : List ByteArray)) (inner := [.string (⟨#[68, 79, 67]⟩ : ByteArray), .string (⟨#[76, 73, 78]⟩ : ByteArray), .string (⟨#[78, 79, 84]⟩ : ByteArray), .string (⟨#[65, 66, 67]⟩ : ByteArray), .string (⟨#[73, 88, 72]⟩ : ByteArray)]) (ok := fun _ => True) (okp := fun _ => True) ?hr ?hp (fun _ hk => hk) trivial (Below.refl _ _) (Nat.le_refl _) (by simp) ?_; (case hd => rfl); (case hg => rfl); (case hr => exact hr_); (case hp => exact (Reps.one (show Kd.M Kd.string _ _ _ (⟨#[68, 79, 67]⟩ : ByteArray) [.string (⟨#[68, 79, 67]⟩ : ByteArray)] from rfl) (Reps.one (show Kd.M Kd.string _ _ _ (⟨#[76, 73, 78]⟩ : ByteArray) [.string (⟨#[76, 73, 78]⟩ : ByteArray)] from rfl) (Reps.one (show Kd.M Kd.string _ _ _ (⟨#[78, 79, 84]⟩ : ByteArray) [.string (⟨#[78, 79, 84]⟩ : ByteArray)] from rfl) (Reps.one (show Kd.M Kd.string _ _ _ (⟨#[65, 66, 67]⟩ : ByteArray) [.string (⟨#[65, 66, 67]⟩ : ByteArray)] from rfl) (Reps.one (show Kd.M Kd.string _ _ _ (⟨#[73, 88, 72]⟩ : ByteArray) [.string (⟨#[73, 88, 72]⟩ : ByteArray)] from rfl) (Reps.none _ _))))))); intro v207 w13 ho14 hb hg_ hnew_; clear hg_ hnew_; (first | rw [← Ny206.out] at ho14 | (simp only [Int.reduceToNat] at ho14; rw [← Ny206.out] at ho14)); have HO208 := am_ (Kd.R_lower ho14 (keep_size (w := w) (g := g) (row := none) au2_14)); replace BK200 := am_ (blk_below (g := gb200) (o := .cells #[.string (⟨#[]⟩ : ByteArray), .slice none 0 0] 88 (0, 0)) (bf_ BK200) hb); replace BK205 := am_ (blk_below (g := gb205) (o := .cells #[.int .i64 t201, .int .i64 t202, .int .i64 t203, .int .i64 t204] 45 (0, 0)) (bq_ BK205) hb); replace HK := am_ (KeepBut.trans au2_14 (KeepBut.of_below hb g none) (.inl rfl)); replace HB := am_ (below_step au2_41 hb); replace HI0 := am_ (IsS116.below (show IsS116 w0 ((((w9.setCell ⟨gb205, 0, none⟩ (.int .i64 t201)).setCell ⟨gb205, 1, none⟩ (.int .i64 t202)).setCell ⟨gb205, 2, none⟩ (.int .i64 t203)).setCell ⟨gb205, 3, none⟩ (.int .i64 t204)) g s0_0 s0_1 s0_2 s0_3 from by repeat (first | (with_reducible first | exact HI0.out | apply IsS116.alloc | apply IsS116.drewN | apply IsS116.drew | apply IsS116.set_1 | apply IsS116.set_2 | apply IsS116.set_3 | refine IsS116.far ?_ NB0_200.out _ | refine IsS116.far ?_ NB0_205.out _) | exact HI0.out)) hb); clear hb ho14; obtain ⟨Ao15, co15, eo15⟩ := Kd.R_slice HO208.out; subst eo15) | (go_at_call 102; (with_reducible refine (F102.calls g s0_0 s0_1 s0_2 s0_3 _ _ y206 t209 t210 t211 t212 w0 _ ?s1 ?s2 ?s3 ?s4 ?s5 A3.out).mono ?_); (case s1 => repeat (first | (with_reducible first | exact HI0.out | apply IsS116.alloc | apply IsS116.drewN | apply IsS116.drew | apply IsS116.set_1 | apply IsS116.set_2 | apply IsS116.set_3 | refine IsS116.far ?_ NB0_200.out _ | refine IsS116.far ?_ NB0_205.out _) | exact HI0.out)); (case s2 => repeat (first | (with_reducible first | exact HB.out | apply below_alloc | apply pw_below_drewN | apply below_drew1 | refine below_set ?_ (IsS116.ge HI0.out) | refine below_set ?_ GE200.out | refine below_set ?_ GE205.out) | exact HB.out)); (case s3 => repeat (first | exact (Kd.R_reads' HO208.out).2.2 | (with_reducible refine Kd.C_alloc ?_ _) | (with_reducible refine Kd.C_drewN ?_ _) | (with_reducible refine Kd.C_drew ?_))); (case s4 => exact (Kd.R_reads' HO208.out).2.1); (case s5 => exact far_slice (IsS116.own_ne HI0.out HO208.out (by decide))); rintro e w16 ⟨rfl, hi, hb, hk⟩; (try clear A3); replace BK200 := ka_ hk BK200 NB200_0; replace BK205 := ka_ hk BK205 NB205_0; replace HO208 := am_ (Kd.R_mono (Kd.R_keep (IsS116.apart (is2_0_ : IsS116 w0 _ g s0_0 s0_1 s0_2 s0_3) (rk_ HO208) (by decide)) hk (fun _ h => h.2)) (fun _ h => h.1)); replace HK := am_ (KeepBut.trans au2_14 hk (.inl rfl)); replace HB := am_ (hb); replace HI0 := am_ (hi); (try clear hb); (try clear hb2); (try clear hk); (try clear hi)) | ((with_reducible refine gate_dst (N := 4) rfl ?_); (try (refine gate_guard (by rfl) ?_; dsimp only)); refine be_ 4 #[.string (⟨#[]⟩ : ByteArray), .slice none 0 0] 88 ?_; intro gb213 hg w17 hbox hb; replace HO208 := am_ (Kd.R_below (rk_ HO208) hb); replace HB := am_ (below_step au2_41 hb); have BK213 := am_ (hbox); have GW213 := am_ ((by rw [hg]; exact (keep_size (w := w) (g := g) (row := none) au2_14) : w.heap.size ≤ gb213)); have GE213 := am_ ((Nat.le_trans HW0.out (by rw [hg]; exact (keep_size (w := w) (g := g) (row := none) au2_14) : w.heap.size ≤ gb213) : w0.heap.size ≤ gb213)); replace HK := am_ (KeepBut.trans au2_14 (KeepBut.of_below hb g none) (.inl rfl)); have NB200_213 := am_ (gn_ hg (blkl_ BK200)); have NB213_200 := am_ (gm_ hg (blkl_ BK200)); replace BK200 := bb_ BK200 hb; have NB205_213 := am_ (gn_ hg (blkl_ BK205)); have NB213_205 := am_ (gm_ hg (blkl_ BK205)); replace BK205 := bb_ BK205 hb; have NB0_213 := am_ (gn_ hg (IsS116.lt (is2_0_ : IsS116 w0 _ g s0_0 t210 t211 t212))); have NB213_0 := am_ (gm_ hg (IsS116.lt (is2_0_ : IsS116 w0 _ g s0_0 t210 t211 t212))); replace HI0 := am_ (IsS116.below is2_0_ hb); clear hb hbox hg; have hnb18 := NB213_200.out; have hnc18 := NB200_213.out; have hnb19 := NB213_205.out; have hnc19 := NB205_213.out; have hnb20 := NB213_0.out; have hnc20 := NB0_213.out; obtain ⟨hcz21_0, hcz21_1, hfz21_0, hfz21_1⟩ := cellsF2 BK213.out) | (go_at_call 73; (with_reducible refine (F73.calls g s0_0 t210 t211 t212 5 t214 t215 t216 t217 w0 _ ?s1 ?s2 A4.out).mono ?_); (case s1 => exact au2_1); (case s2 => exact au2_2); rintro e w22 ⟨rfl, hi, hb, hk⟩; (try clear A4); replace BK200 := ka_ hk BK200 NB200_0; replace BK205 := ka_ hk BK205 NB205_0; replace HO208 := am_ (Kd.R_mono (Kd.R_keep (IsS116.apart (is2_0_ : IsS116 w0 _ g s0_0 t210 t211 t212) (by (with_reducible repeat (first | apply Kd.R_alloc | apply Kd.R_drewN | apply Kd.R_drew)); exact (Kd.R_mono (Kd.R_far (p := ⟨gb213, 1, none⟩) (Kd.R_far (p := ⟨gb213, 0, none⟩) (Kd.R_types HO208.out BK213.out (by decide)) (fun _ hk => hk.2) (.string t209)) (fun _ hk => hk.2) (.slice none 0 0)) (fun _ h_ => h_.1))) (by decide)) hk (fun _ h => h.2)) (fun _ h => h.1)); replace BK213 := am_ (KeepBut.blk hk (g' := gb213) (o := .cells #[.string t209, .slice none 0 0] 88 (0, 0)) (bq_ BK213) NB213_0.out (by simp)); replace HK := am_ (KeepBut.trans au2_0 hk (.inl rfl)); replace HB := am_ (hb); replace HI0 := am_ (hi); (try clear hb); (try clear hb2); (try clear hk); (try clear hi)) | (go_at_call 72; (with_reducible refine (F72.calls g s0_0 t215 t216 t217 40 t218 t219 t220 t221 w0 _ ?s1 ?s2 A5.out).mono ?_); (case s1 => exact au2_1); (case s2 => exact au2_2); rintro e w23 ⟨rfl, hi, hb, hk⟩; (try clear A5); replace BK200 := ka_ hk BK200 NB200_0; replace BK205 := ka_ hk BK205 NB205_0; replace HO208 := am_ (Kd.R_mono (Kd.R_keep (IsS116.apart (is2_0_ : IsS116 w0 _ g s0_0 t215 t216 t217) (rk_ HO208) (by decide)) hk (fun _ h => h.2)) (fun _ h => h.1)); replace BK213 := ka_ hk BK213 NB213_0; replace HK := am_ (KeepBut.trans au2_0 hk (.inl rfl)); replace HB := am_ (hb); replace HI0 := am_ (hi); (try clear hb); (try clear hb2); (try clear hk); (try clear hi)))
 (try simp only [Act.put, List.setIfInBounds_toArray, List.set_cons_zero, List.set_cons_succ])
 go_cut [5] (fun v5 wc => ∃ (kq : Nat) (x5_5 : Int) (x1001_5 : Int) (x1002_5 : Int) (x1003_5 : Int), v5 = .int .i64 x5_5 ∧ Aside0 (F75.j0 kq x5_5 s0_0 x1001_5 x1002_5 x1003_5 t201 t202 t203 t204 t209 = some (r1, r2, r3, r4, r5)) ∧ Aside0 (kq ≤ k) ∧ Aside0 (wc.heap[gb200]? = some (.cells #[.string (⟨#[]⟩ : ByteArray), (.slice none 0 0)] 88 (0, 0))) ∧ Aside0 (wc.heap[gb205]? = some (.cells #[.int .i64 t201, .int .i64 t202, .int .i64 t203, .int .i64 t204] 45 (0, 0))) ∧ Aside0 (wc.heap[gb213]? = some (.cells #[.string t209, (.slice none 0 0)] 88 (0, 0))) ∧ Aside0 (IsS116 w0 wc g s0_0 x1001_5 x1002_5 x1003_5) ∧ Aside0 (KeepBut w wc g none) ∧ Aside0 (Below w0.heap.size w0 wc))
 case first =>
  have H := HC6.out
  clear HC6
  replace H := ib_ H; rcases H with ⟨rfl, H⟩ | ⟨rfl, H⟩
  rotate_left
  ·have H' := am_ H
   clear H
   go_wp2
   go_meet
   case rel => exact ⟨_, (t214), (t219), (t220), (t221), er_, H', ⟨by first | omega | exact Nat.le_refl _⟩, ⟨bk_ BK200⟩, ⟨bk_ BK205⟩, ⟨bk_ BK213⟩, ⟨is2_0_⟩, ⟨au2_8⟩, ⟨au2_7⟩⟩
  replace H := bi_ H; rcases H with ⟨⟨t222, t223, t224, t225⟩, A25, H⟩
  have H' := am_ H
  clear H
  go_wp2_with (first | (go_at_call 73; (with_reducible refine (F73.calls g s0_0 t219 t220 t221 3 t222 t223 t224 t225 w0 _ ?s1 ?s2 A25.out).mono ?_); (case s1 => exact au2_1); (case s2 => exact au2_2); rintro e w26 ⟨rfl, hi, hb, hk⟩; (try clear A25); replace BK200 := ka_ hk BK200 NB200_0; replace BK205 := ka_ hk BK205 NB205_0; replace HO208 := am_ (Kd.R_mono (Kd.R_keep (IsS116.apart (is2_0_ : IsS116 w0 _ g s0_0 t219 t220 t221) (rk_ HO208) (by decide)) hk (fun _ h => h.2)) (fun _ h => h.1)); replace BK213 := ka_ hk BK213 NB213_0; replace HK := am_ (KeepBut.trans au2_0 hk (.inl rfl)); replace HB := am_ (hb); replace HI0 := am_ (hi); (try clear hb); (try clear hb2); (try clear hk); (try clear hi)))
  go_meet
  case rel => exact ⟨_, (wrap64 (9 + t222)), (t223), (t224), (t225), er_, H', ⟨by first | omega | exact Nat.le_refl _⟩, ⟨bk_ BK200⟩, ⟨bk_ BK205⟩, ⟨bk_ BK213⟩, ⟨is2_0_⟩, ⟨au2_8⟩, ⟨au2_7⟩⟩
 case rest =>
  clear HC6
  try clear hcz12_0 hcz12_1 hcz12_2 hcz12_3
  try clear hcz21_0 hcz21_1
  try clear hfz12_0 hfz12_1 hfz12_2 hfz12_3
  try clear hfz21_0 hfz21_1
  obtain ⟨kq, x5_5, x1001_5, x1002_5, x1003_5, rfl, HA, HJ5, BK200, BK205, BK213, HI0, HK, HB⟩ := hcut
  cases kq with
  | zero => exact absurd HA.out (by simp [F75.j0])
  | succ kj5 =>
   have H := HA.out
   clear HA
   simp only [F75.j0] at H
   have H' := am_ H
   clear H
   go_wp2
   go_loopg [5] kj5 (fun kq v5 w' => ∃ (x5_2 : Int) (x1001_2 : Int) (x1002_2 : Int) (x1003_2 : Int) (x214001_2 : List (S122)) (u214001 : Value), v5 = .int .i64 x5_2 ∧ Aside0 (F75.l0 kq x5_2 s0_0 x1001_2 x1002_2 x1003_2 t201 t202 t203 t204 t209 x214001_2 = some (r1, r2, r3, r4, r5)) ∧ Aside0 (kq ≤ kj5) ∧ Aside0 (Kd.S k122 122 w' w.heap.size (fun _ => True) u214001 x214001_2) ∧ Aside0 (w'.heap[gb200]? = some (.cells #[.string (⟨#[]⟩ : ByteArray), (.slice none 0 0)] 88 (0, 0))) ∧ Aside0 (w'.heap[gb205]? = some (.cells #[.int .i64 t201, .int .i64 t202, .int .i64 t203, .int .i64 t204] 45 (0, 0))) ∧ Aside0 (w'.heap[gb213]? = some (.cells #[.string t209, u214001] 88 (0, 0))) ∧ Aside0 (IsS116 w0 w' g s0_0 x1001_2 x1002_2 x1003_2) ∧ Aside0 (KeepBut w w' g none) ∧ Aside0 (Below w0.heap.size w0 w'))
   case atStart => exact ⟨(x5_5), (x1001_5), (x1002_5), (x1003_5), (([] : List (S122))), (.slice none 0 0), er_, H', ⟨Nat.le_refl _⟩, ⟨by first | exact Kd.S_nil _ _ _ _ _ | exact Kd.N_nil _ _ _ _ _ | exact Kd.V_nil _ _ _ _ _ | exact Kd.Q_nil _ _ _ _ _ | exact Kd.R_nil _ _ _ _ _⟩, ⟨bk_ BK200⟩, ⟨bk_ BK205⟩, ⟨bk_ BK213⟩, ⟨is2_0_⟩, ⟨au2_8⟩, ⟨au2_7⟩⟩
   case round =>
    clear H'
    try clear hcz12_0 hcz12_1 hcz12_2 hcz12_3
    try clear hcz21_0 hcz21_1
    try clear hfz12_0 hfz12_1 hfz12_2 hfz12_3
    try clear hfz21_0 hfz21_1
    obtain ⟨x5_2, x1001_2, x1002_2, x1003_2, x214001_2, u214001, rfl, HA, HK2, HO_214001, BK200, BK205, BK213, HI0, HK, HB⟩ := hrel
    cases gk with
    | zero => exact absurd HA.out (by simp [F75.l0])
    | succ k2 =>
     have H := HA.out
     clear HA
     simp only [F75.l0] at H
     replace H := it_ H; rcases H with ⟨(c27b0 : decide (0 < x5_2) = true), H⟩ | ⟨(c27b0 : decide (0 < x5_2) = false), H⟩
     ·replace H := bi_ H; rcases H with ⟨⟨t227, t228, t229, t230⟩, A28, H⟩
      replace H := bi_ H; rcases H with ⟨⟨t231, t232, t233, t234⟩, A29, H⟩
      have H' := am_ H
      clear H
      go_wp2_with (first | ((with_reducible refine gate_dst (N := 6) rfl ?_); (try (refine gate_guard (by rfl) ?_; dsimp only)); refine be_ 6 #[.slice none 0 0] 122 ?_; intro gb226 hg w30 hbox hb; replace HO_214001 := am_ (Kd.S_below (Kd.S_elderB au2_6 gb226 (Nat.le_of_eq hg.symm)) hb); replace HB := am_ (below_step au2_3 hb); have BK226 := am_ (hbox); have GW226 := am_ ((by rw [hg]; exact (keep_size (w := w) (g := g) (row := none) au2_0) : w.heap.size ≤ gb226)); have GE226 := am_ ((Nat.le_trans HW0.out (by rw [hg]; exact (keep_size (w := w) (g := g) (row := none) au2_0) : w.heap.size ≤ gb226) : w0.heap.size ≤ gb226)); replace HK := am_ (KeepBut.trans au2_0 (KeepBut.of_below hb g none) (.inl rfl)); have NB200_226 := am_ (gn_ hg (blkl_ BK200)); have NB226_200 := am_ (gm_ hg (blkl_ BK200)); replace BK200 := bb_ BK200 hb; have NB205_226 := am_ (gn_ hg (blkl_ BK205)); have NB226_205 := am_ (gm_ hg (blkl_ BK205)); replace BK205 := bb_ BK205 hb; have NB213_226 := am_ (gn_ hg (blkl_ BK213)); have NB226_213 := am_ (gm_ hg (blkl_ BK213)); replace BK213 := bb_ BK213 hb; have NB0_226 := am_ (gn_ hg (IsS116.lt (is2_0_ : IsS116 w0 _ g s0_0 x1001_2 x1002_2 x1003_2))); have NB226_0 := am_ (gm_ hg (IsS116.lt (is2_0_ : IsS116 w0 _ g s0_0 x1001_2 x1002_2 x1003_2))); replace HI0 := am_ (IsS116.below is2_0_ hb); clear hb hbox hg; have hnb31 := NB226_200.out; have hnc31 := NB200_226.out; have hnb32 := NB226_205.out; have hnc32 := NB205_226.out; have hnb33 := NB226_213.out; have hnc33 := NB213_226.out; have hnb34 := NB226_0.out; have hnc34 := NB0_226.out; have hcz35_0 : w30.cell? ⟨gb226, 0, none⟩ = some (.slice none 0 0) := (blk_cell BK226.out 0).trans rfl; have hfz35_0 := blk_frozen BK226.out 0) | (go_at_call 73; (with_reducible refine (F73.calls g s0_0 x1001_2 x1002_2 x1003_2 2 t227 t228 t229 t230 w0 _ ?s1 ?s2 A28.out).mono ?_); (case s1 => exact au2_9); (case s2 => exact au2_10); rintro e w36 ⟨rfl, hi, hb, hk⟩; (try clear A28); replace HO_214001 := am_ (Kd.S_mono (Kd.S_keep (IsS116.apartS (is2_0_ : IsS116 w0 _ g s0_0 x1001_2 x1002_2 x1003_2) (by (with_reducible repeat (first | apply Kd.S_alloc | apply Kd.S_drewN | apply Kd.S_drew)); exact (Kd.S_mono (Kd.S_far (p := ⟨gb226, 0, none⟩) (Kd.S_mono HO_214001.out (fun k_ hk => (⟨hk, hk.2⟩ : _ ∧ k_ ≠ gb226))) (fun _ hk => hk.2) (.slice none 0 0)) (fun _ h_ => h_.1))) (by decide)) hk (fun _ h => h.2)) (fun _ h => h.1)); replace BK200 := ka_ hk BK200 NB200_0; replace BK205 := ka_ hk BK205 NB205_0; replace BK213 := ka_ hk BK213 NB213_0; replace BK226 := am_ (KeepBut.blk hk (g' := gb226) (o := .cells #[.slice none 0 0] 122 (0, 0)) (bq_ BK226) NB226_0.out (by simp)); replace HK := am_ (KeepBut.trans au2_5 hk (.inl rfl)); replace HB := am_ (hb); replace HI0 := am_ (hi); (try clear hb); (try clear hb2); (try clear hk); (try clear hi)) | (go_at_call 73; (with_reducible refine (F73.calls g s0_0 t228 t229 t230 4 t231 t232 t233 t234 w0 _ ?s1 ?s2 A29.out).mono ?_); (case s1 => exact au2_9); (case s2 => exact au2_10); rintro e w37 ⟨rfl, hi, hb, hk⟩; (try clear A29); replace HO_214001 := am_ (Kd.S_mono (Kd.S_keep (IsS116.apartS (is2_0_ : IsS116 w0 _ g s0_0 t228 t229 t230) au2_6 (by decide)) hk (fun _ h => h.2)) (fun _ h => h.1)); replace BK200 := ka_ hk BK200 NB200_0; replace BK205 := ka_ hk BK205 NB205_0; replace BK213 := ka_ hk BK213 NB213_0; replace BK226 := ka_ hk BK226 NB226_0; replace HK := am_ (KeepBut.trans au2_5 hk (.inl rfl)); replace HB := am_ (hb); replace HI0 := am_ (hi); (try clear hb); (try clear hb2); (try clear hk); (try clear hi)))
      go_loopg [7] k2 (fun kq v7 w' => ∃ (x7_3 : Int) (x1001_3 : Int) (x1002_3 : Int) (x1003_3 : Int) (x227000_3 : List ByteArray) (u227000 : Value), v7 = .int .i64 x7_3 ∧ Aside0 (F75.l1 kq x5_2 x7_3 s0_0 x1001_3 x1002_3 x1003_3 t201 t202 t203 t204 t209 x214001_2 x227000_3 = some (r1, r2, r3, r4, r5)) ∧ Aside0 (kq ≤ k2) ∧ Aside0 (Kd.S k122 122 w' w.heap.size (fun k_ => some k_ ≠ (u227000 : Value).ownBlock ∧ k_ ≠ gb226) u214001 x214001_2) ∧ Aside0 (Kd.R Kd.string 9 w' w.heap.size (fun _ => True) u227000 x227000_3) ∧ Aside0 (w'.heap[gb200]? = some (.cells #[.string (⟨#[]⟩ : ByteArray), (.slice none 0 0)] 88 (0, 0))) ∧ Aside0 (w'.heap[gb205]? = some (.cells #[.int .i64 t201, .int .i64 t202, .int .i64 t203, .int .i64 t204] 45 (0, 0))) ∧ Aside0 (w'.heap[gb213]? = some (.cells #[.string t209, u214001] 88 (0, 0))) ∧ Aside0 (w'.heap[gb226]? = some (.cells #[u227000] 122 (0, 0))) ∧ Aside0 (IsS116 w0 w' g s0_0 x1001_3 x1002_3 x1003_3) ∧ Aside0 (KeepBut w w' g none) ∧ Aside0 (Below w0.heap.size w0 w'))
      case atStart => exact ⟨(wrap64 (1 + (wrap64 (t227 * t231)))), (t232), (t233), (t234), (([] : List ByteArray)), (.slice none 0 0), er_, H', ⟨Nat.le_refl _⟩, ⟨by (with_reducible repeat (first | apply Kd.S_alloc | apply Kd.S_drewN | apply Kd.S_drew)); exact Kd.S_mono HO_214001.out (fun _ hk => ⟨(by simp [Value.ownBlock]), hk.2⟩)⟩, ⟨by first | exact Kd.R_nil _ _ _ _ _ | exact Kd.N_nil _ _ _ _ _ | exact Kd.V_nil _ _ _ _ _ | exact Kd.Q_nil _ _ _ _ _ | exact Kd.S_nil _ _ _ _ _⟩, ⟨bk_ BK200⟩, ⟨bk_ BK205⟩, ⟨bk_ BK213⟩, ⟨bk_ BK226⟩, ⟨is2_0_⟩, ⟨au2_18⟩, ⟨au2_17⟩⟩
      case round =>
       clear H'
       try clear c27b0
       try clear hcz12_0 hcz12_1 hcz12_2 hcz12_3
       try clear hcz21_0 hcz21_1
       try clear hcz35_0
       try clear hfz12_0 hfz12_1 hfz12_2 hfz12_3
       try clear hfz21_0 hfz21_1
       try clear hfz35_0
       obtain ⟨x7_3, x1001_3, x1002_3, x1003_3, x227000_3, u227000, rfl, HA, HK3, HO_214001, HO_227000, BK200, BK205, BK213, BK226, HI0, HK, HB⟩ := hrel
       cases gk with
       | zero => exact absurd HA.out (by simp [F75.l1])
       | succ k3 =>
        have H := HA.out
        clear HA
        simp only [F75.l1] at H
        replace H := it_ H; rcases H with ⟨(c38b0 : decide (0 < x7_3) = true), H⟩ | ⟨(c38b0 : decide (0 < x7_3) = false), H⟩
        ·replace H := bi_ H; rcases H with ⟨⟨t235, t236, t237, t238⟩, A39, H⟩
         replace H := bi_ H; rcases H with ⟨⟨t239, t240, t241, t242⟩, A40, H⟩
         replace H := iln_ H; rcases H with ⟨LMc41, H⟩
         obtain ⟨y243, hy243⟩ : ∃ y_ : List ByteArray, y_ = (x227000_3 ++ [t239]) := ⟨_, rfl⟩
         replace H : (F75.l1 k3 x5_2 (wrap64 (x7_3 - 1)) s0_0 t240 t241 t242 t201 t202 t203 t204 t209 x214001_2 y243) = some (r1, r2, r3, r4, r5) := by first | (rw [hy243]; exact H) | exact H
         have Ny243 := am_ hy243
         clear hy243
         have H' := am_ H
         clear H
         try go_wp2
         replace HO_214001 := am_ (Kd.S_drew HO_214001.out)
         replace HO_227000 := am_ (Kd.R_drew HO_227000.out)
         replace BK200 := bd_ BK200
         replace BK205 := bd_ BK205
         replace BK213 := bd_ BK213
         replace BK226 := bd_ BK226
         replace HI0 := am_ (IsS116.drew HI0.out)
         replace HK := am_ (keep_drew HK.out)
         replace HB := am_ (below_drew1 HB.out)
         refine start_ (n := 11) (S := fun w' => w'.cell? ⟨gb226, 0, none⟩ = some (u227000) ∧ w'.cell? ⟨gb205, 0, none⟩ = some (.int .i64 t201) ∧ w'.cell? ⟨gb205, 1, none⟩ = some (.int .i64 t202) ∧ w'.cell? ⟨gb205, 2, none⟩ = some (.int .i64 t203) ∧ w'.cell? ⟨gb205, 3, none⟩ = some (.int .i64 t204)) (ds := [10]) (bs 11 0) (by kernel_rfl) rfl rfl ⟨(blk_cell BK226.out 0).trans rfl, (blk_cell BK205.out 0).trans rfl, (blk_cell BK205.out 1).trans rfl, (blk_cell BK205.out 2).trans rfl, (blk_cell BK205.out 3).trans rfl⟩ (fun hHeld => ?_); refine with_tabW F75.tab12 F75.bits12 (fun HT_ HW_ => ?_)
         generalize wr.drew = w42 at HO_214001 HO_227000 BK200 BK205 BK213 BK226 HI0 HK HB hHeld ⊢
         refine pu_ 0 35 (bs 11 1) HT_ ?_ rfl rfl
         refine pu_ 2 37 (bs 11 5) HT_ ?_ rfl rfl
         refine pu_ 4 39 (bs 11 21) HT_ ?_ rfl rfl
         refine tk_ 1 36 (bs 11 23) HT_ HW_ hHeld au2_50 ?_ rfl rfl
         refine tk_ 3 38 (bs 11 31) HT_ HW_ hHeld au2_50 ?_ rfl rfl
         refine one_ (i := 5) (N := some 40) (bs 11 63) rfl rfl (one_of HT_.out (by kernel_rfl)) (by decide) (fun K hK => ?_)
         refine gr_ Try.func73 #[.pointer (some ⟨g, 0, none⟩), .int .i64 6] (by rfl) ?_ rfl rfl rfl
         with_reducible refine (F73.calls g s0_0 x1001_3 x1002_3 x1003_3 6 t235 t236 t237 t238 w0 _ ?s1 ?s2 A39.out).mono ?_
         (case s1 => exact au2_9)
         (case s2 => exact au2_10)
         rintro e w43 ⟨rfl, hi, hb, hk⟩
         refine ⟨_, rfl, ?_⟩
         replace HO_214001 := am_ (Kd.S_mono (Kd.S_keep (IsS116.apartS (is2_0_ : IsS116 w0 _ g s0_0 x1001_3 x1002_3 x1003_3) au2_6 (by decide)) hk (fun _ h => h.2)) (fun _ h => h.1))
         replace HO_227000 := am_ (Kd.R_mono (Kd.R_keep (IsS116.apart (is2_0_ : IsS116 w0 _ g s0_0 x1001_3 x1002_3 x1003_3) (rk_ HO_227000) (by decide)) hk (fun _ h => h.2)) (fun _ h => h.1))
         replace BK200 := ka_ hk BK200 NB200_0
         replace BK205 := ka_ hk BK205 NB205_0
         replace BK213 := ka_ hk BK213 NB213_0
         replace BK226 := ka_ hk BK226 NB226_0
         replace HK := am_ (KeepBut.trans au2_5 hk (.inl rfl))
         replace HB := am_ (hb)
         replace HI0 := am_ (hi)
         (try clear hb)
         (try clear hb2)
         (try clear hk)
         (try clear hi)
         refine hK.out _ _ ⟨(blk_cell BK226.out 0).trans rfl, (blk_cell BK205.out 0).trans rfl, (blk_cell BK205.out 1).trans rfl, (blk_cell BK205.out 2).trans rfl, (blk_cell BK205.out 3).trans rfl⟩ (fun hHeld => ?_)
         clear hK K
         refine no_ 40 ?_
         refine one_ (i := 6) (N := some 41) (bs 11 127) rfl rfl (one_of HT_.out (by kernel_rfl)) (by decide) (fun K hK => ?_)
         refine gr_ Try.func103 #[.pointer (some ⟨g, 0, none⟩), .agg #[.int .i64 t201, .int .i64 t202, .int .i64 t203, .int .i64 t204], .int .i64 t235] (by rfl) ?_ rfl rfl rfl
         with_reducible refine (F103.calls k3 g s0_0 t236 t237 t238 t201 t202 t203 t204 t235 t239 t240 t241 t242 w0 _ ?s1 ?s2 A40.out).mono ?_
         (case s1 => exact au2_9)
         (case s2 => exact au2_10)
         rintro e w44 ⟨rfl, hi, hb, hk⟩
         refine ⟨_, rfl, ?_⟩
         replace HO_214001 := am_ (Kd.S_mono (Kd.S_keep (IsS116.apartS (is2_0_ : IsS116 w0 _ g s0_0 t236 t237 t238) au2_6 (by decide)) hk (fun _ h => h.2)) (fun _ h => h.1))
         replace HO_227000 := am_ (Kd.R_mono (Kd.R_keep (IsS116.apart (is2_0_ : IsS116 w0 _ g s0_0 t236 t237 t238) (rk_ HO_227000) (by decide)) hk (fun _ h => h.2)) (fun _ h => h.1))
         replace BK200 := ka_ hk BK200 NB200_0
         replace BK205 := ka_ hk BK205 NB205_0
         replace BK213 := ka_ hk BK213 NB213_0
         replace BK226 := ka_ hk BK226 NB226_0
         replace HK := am_ (KeepBut.trans au2_5 hk (.inl rfl))
         replace HB := am_ (hb)
         replace HI0 := am_ (hi)
         (try clear hb)
         (try clear hb2)
         (try clear hk)
         (try clear hi)
         refine hK.out _ _ ⟨(blk_cell BK226.out 0).trans rfl, (blk_cell BK205.out 0).trans rfl, (blk_cell BK205.out 1).trans rfl, (blk_cell BK205.out 2).trans rfl, (blk_cell BK205.out 3).trans rfl⟩ (fun hHeld => ?_)
         clear hK K
         refine no_ 41 ?_
         refine one_ (i := 7) (N := some 42) (bs 11 255) rfl rfl (one_of HT_.out (by kernel_rfl)) (by decide) (fun K hK => ?_)
         refine value_ (w1 := ?_) (v := ?_) (by rfl) rfl ?_ ?_
         rotate_left 2
         ·go_simp
          constructor
          ·rfl
          ·rfl
         refine hK.out _ _ ⟨(blk_cell (blk_alloc BK226.out _) 0).trans rfl, (blk_cell (blk_alloc BK205.out _) 0).trans rfl, (blk_cell (blk_alloc BK205.out _) 1).trans rfl, (blk_cell (blk_alloc BK205.out _) 2).trans rfl, (blk_cell (blk_alloc BK205.out _) 3).trans rfl⟩ (fun hHeld => ?_)
         clear hK K
         refine no_ 42 ?_
         refine one_ (i := 8) (N := some 43) (bs 11 511) rfl rfl (one_of HT_.out (by kernel_rfl)) (by decide) (fun K hK => ?_)
         refine Kd.R_append_step Kd.string w.heap.size (by rfl) (.tmp 36) (.tmp 42) 22 9 (.string ⟨#[]⟩) 16 rfl Try.underlying22 info9 rfl (by decide) (by omega) u227000 x227000_3 t239 [.string t239] (fun _ => True) (fun _ => False) rfl rfl ?aP (fun _ hk => hk.elim) ?aF ?aO (Below.refl _ _) ?aS ?aL ?_
         (case aP => exact rfl)
         (case aF => exact (fun _ _ => trivial))
         (case aO => exact (rk_ HO_227000))
         (case aS => exact au2_55)
         (case aL => have := LMc41.out; omega)
         intro v244 w45 ho hb hg hat
         rw [← Ny243.out] at ho
         have n0_ := am_ (Kd.S_after (ok := (fun k_ => k_ ≠ gb226)) (by (with_reducible repeat (first | apply Kd.S_alloc | apply Kd.S_drewN | apply Kd.S_drew)); exact Kd.S_mono HO_214001.out (fun _ hk => ⟨hk.2, hk.1⟩)) hg hat)
         have n1_ := am_ (bg_ BK200 hg (Kd.R_ne HO_227000.out BK200.out (by decide)))
         have n2_ := am_ (bg_ BK205 hg (Kd.R_ne HO_227000.out BK205.out (by decide)))
         have n3_ := am_ (bg_ BK213 hg (Kd.R_ne HO_227000.out BK213.out (by decide)))
         have n4_ := am_ (bg_ BK226 hg (Kd.R_ne HO_227000.out BK226.out (by decide)))
         have n5_ := am_ (IsS116.grown is2_0_ hg (IsS116.own_ne HI0.out HO_227000.out (by decide)))
         have n6_ := am_ (below_weaken au2_21 HL.out hb)
         have n7_ := am_ (KeepBut.trans au2_5 (KeepBut.of_grown hg g) (Kd.R_base2 HO_227000.out))
         have n8_ := am_ (ho)
         clear HO_214001
         clear BK200
         clear BK205
         clear BK213
         clear BK226
         clear HI0
         clear HB
         clear HK
         clear HO_227000
         have HO_214001 := n0_
         have BK200 := n1_
         have BK205 := n2_
         have BK213 := n3_
         have BK226 := n4_
         have HI0 := n5_
         have HB := n6_
         have HK := n7_
         have HO245 := n8_
         clear n0_ n1_ n2_ n3_ n4_ n5_ n6_ n7_ n8_
         clear ho hb hg hat
         obtain ⟨Ao46, co46, eo46⟩ := Kd.R_slice HO245.out
         (first | subst eo46 | (injection eo46 with f1_ f2_ f3_; have f4_ := f1_.symm; have f5_ := f3_.symm; clear f1_ f2_ f3_; subst f4_; subst f5_))
         refine hK.out _ _ ⟨(blk_cell BK226.out 0).trans rfl, (blk_cell BK205.out 0).trans rfl, (blk_cell BK205.out 1).trans rfl, (blk_cell BK205.out 2).trans rfl, (blk_cell BK205.out 3).trans rfl⟩ (fun hHeld => ?_)
         clear hK K
         refine no_ 43 ?_
         refine pu_ 9 44 (bs 11 1023) HT_ ?_ rfl rfl
         refine last_ (i := 10) (N := none) (bs 11 2047) rfl rfl (one_of HT_.out (by kernel_rfl)) (by decide) (fun K hK => ?_)
         have hs47 : w45.cell? ⟨gb226, 0, none⟩ = some (u227000) := (blk_cell BK226.out 0).trans rfl
         have hfs47 := blk_frozen BK226.out 0
         have hns47_0 := NB200_226.out
         have hns47_1 := NB205_226.out
         have hns47_2 := NB213_226.out
         have hms47_0 := NB226_200.out
         have hms47_1 := NB226_205.out
         have hms47_2 := NB226_213.out
         refine skip_ (w1 := ?_) (by rfl) rfl ?_ ?_
         rotate_left
         ·go_simp
          rfl
         refine hK.out _ _ ?_
         clear hK K
         refine done_ (done_of HT_.out (by kernel_rfl)) ?_
         try go_wp2
         go_roundg k3
         case measure => have := HJ5.out; have := HK2.out; have := HK3.out; omega
         case rel => exact ⟨(wrap64 (x7_3 - 1)), (t240), (t241), (t242), (y243), (.slice Ao46 y243.length co46), er_, H', ⟨au2_51⟩, ⟨by (with_reducible repeat (first | apply Kd.S_alloc | apply Kd.S_drewN | apply Kd.S_drew)); exact Kd.S_mono (Kd.S_far (p := ⟨gb226, 0, none⟩) (Kd.S_mono HO_214001.out (fun k_ hk => (⟨hk, hk.1⟩ : _ ∧ k_ ≠ gb226))) (fun _ hk => hk.2) (.slice Ao46 y243.length co46)) (fun _ hk => ⟨hk.1.2, hk.1.1⟩)⟩, ⟨by (with_reducible repeat (first | apply Kd.R_alloc | apply Kd.R_drewN | apply Kd.R_drew)); exact Kd.R_mono (Kd.R_far (p := ⟨gb226, 0, none⟩) (Kd.R_types HO245.out BK226.out (by decide)) (fun _ hk => hk.2) (.slice Ao46 y243.length co46)) (fun _ hk => trivial)⟩, ⟨bf_ BK200⟩, ⟨bf_ BK205⟩, ⟨bf_ BK213⟩, ⟨bq_ BK226⟩, ⟨is2_0_⟩, ⟨au2_18⟩, ⟨au2_17⟩⟩
        replace H := bi_ H; rcases H with ⟨⟨t246, t247, t248, t249⟩, A48, H⟩
        replace H := ib_ H; rcases H with ⟨rfl, H⟩ | ⟨rfl, H⟩
        rotate_left
        ·replace H := iln_ H; rcases H with ⟨LMc73, H⟩
         obtain ⟨y262, hy262⟩ : ∃ y_ : List (S122), y_ = (x214001_2 ++ [(⟨x227000_3⟩ : S122)]) := ⟨_, rfl⟩
         replace H : (F75.l0 k3 (wrap64 (x5_2 - 1)) s0_0 t247 t248 t249 t201 t202 t203 t204 t209 y262) = some (r1, r2, r3, r4, r5) := by first | (rw [hy262]; exact H) | exact H
         have Ny262 := am_ hy262
         clear hy262
         have H' := am_ H
         clear H
         go_wp2_with (first | (go_at_call 72; (with_reducible refine (F72.calls g s0_0 x1001_3 x1002_3 x1003_3 60 false t247 t248 t249 w0 _ ?s1 ?s2 A48.out).mono ?_); (case s1 => exact au2_9); (case s2 => exact au2_10); rintro e w74 ⟨rfl, hi, hb, hk⟩; (try clear A48); replace HO_214001 := am_ (Kd.S_mono (Kd.S_keep (IsS116.apartS (is2_0_ : IsS116 w0 _ g s0_0 x1001_3 x1002_3 x1003_3) au2_6 (by decide)) hk (fun _ h => h.2)) (fun _ h => h.1)); replace HO_227000 := am_ (Kd.R_mono (Kd.R_keep (IsS116.apart (is2_0_ : IsS116 w0 _ g s0_0 x1001_3 x1002_3 x1003_3) (rk_ HO_227000) (by decide)) hk (fun _ h => h.2)) (fun _ h => h.1)); replace BK200 := ka_ hk BK200 NB200_0; replace BK205 := ka_ hk BK205 NB205_0; replace BK213 := ka_ hk BK213 NB213_0; replace BK226 := ka_ hk BK226 NB226_0; replace HK := am_ (KeepBut.trans au2_5 hk (.inl rfl)); replace HB := am_ (hb); replace HI0 := am_ (hi); (try clear hb); (try clear hb2); (try clear hk); (try clear hi); have hnb75 := NB213_200.out; have hnc75 := NB200_213.out; have hnb76 := NB213_205.out; have hnc76 := NB205_213.out; have hnb77 := NB213_226.out; have hnc77 := NB226_213.out; have hnb78 := NB213_0.out; have hnc78 := NB0_213.out; obtain ⟨hcz79_0, hcz79_1, hfz79_0, hfz79_1⟩ := cellsF2 BK213.out; have hnb80 := NB226_200.out; have hnc80 := NB200_226.out; have hnb81 := NB226_205.out; have hnc81 := NB205_226.out; have hnb82 := NB226_0.out; have hnc82 := NB0_226.out; have hcz83_0 : w74.cell? ⟨gb226, 0, none⟩ = some (u227000) := (blk_cell BK226.out 0).trans rfl; have hfz83_0 := blk_frozen BK226.out 0; obtain ⟨Ao85, co85, eo85⟩ := Kd.R_slice HO_227000.out; subst eo85) | ((with_reducible refine gate_builtin (b := .append) (xs := #[.tmp 57, .tmp 59]) rfl ?_); (try (refine gate_guard (by rfl) ?_; dsimp only)); at_builtin; refine Kd.S_append k122 w.heap.size rfl (.tmp 57) (.tmp 59) 86 122 (.agg #[(.slice none 0 0)]) 24 rfl Try.underlying86 info122 rfl (by decide) (by omega) u214001 x214001_2 (⟨x227000_3⟩ : S122) [.slice Ao85 x227000_3.length co85] (fun k_ => k_ ≠ gb226) (fun k_ => some k_ = (.slice Ao85 x227000_3.length co85 : Value).ownBlock) rfl rfl ?aP (fun k_ hk_ => ((Kd.R_mono (ok' := fun k_ => ((fun k_ => k_ ≠ gb226)) k_ ∧ some k_ ≠ (u214001 : Value).ownBlock) (Kd.R_types (Kd.R_apart' (HO_227000.out) (Kd.S_typed HO_214001.out) (by decide)) BK226.out (by decide)) (fun k_ hk => ⟨hk.2, hk.1.2⟩))).1 k_ hk_.symm) ?aF ?aO (Below.refl _ _) ?aS ?aL ?_; (case aP => exact k122_mkM _ _ _ (⟨x227000_3⟩ : S122) (Kd.R_mono (Kd.R_tight rfl (Kd.R_mono (ok' := fun k_ => ((fun k_ => k_ ≠ gb226)) k_ ∧ some k_ ≠ (u214001 : Value).ownBlock) (Kd.R_types (Kd.R_apart' (HO_227000.out) (Kd.S_typed HO_214001.out) (by decide)) BK226.out (by decide)) (fun k_ hk => ⟨hk.2, hk.1.2⟩))) (fun _ h_ => h_))); (case aF => exact (fun k_ hk => Kd.freshB (g := gb226) (o := .cells #[.slice Ao85 x227000_3.length co85] 122 (0, 0)) (bk_ BK226) k_ hk)); (case aO => exact au2_48); (case aS => exact au2_55); (case aL => have := LMc73.out; omega); intro v263 w84 ho hb hg hat; rw [← Ny262.out] at ho; have n0_ := am_ (bg_ BK200 hg (Kd.S_ne HO_214001.out BK200.out (by decide))); have n1_ := am_ (bg_ BK205 hg (Kd.S_ne HO_214001.out BK205.out (by decide))); have n2_ := am_ (bg_ BK213 hg (Kd.S_ne HO_214001.out BK213.out (by decide))); have n3_ := am_ (bg_ BK226 hg (Kd.S_away HO_214001.out (fun _ hk => hk.2))); have n4_ := am_ (IsS116.grown is2_0_ hg (IsS116.own_neS HI0.out HO_214001.out (by decide))); have n5_ := am_ (below_weaken au2_21 HL.out hb); have n6_ := am_ (KeepBut.trans au2_5 (KeepBut.of_grown hg g) (Kd.S_base2 HO_214001.out)); have n7_ := am_ (ho); clear BK200; clear BK205; clear BK213; clear BK226; clear HI0; clear HB; clear HK; clear HO_214001; clear HO_227000; have BK200 := n0_; have BK205 := n1_; have BK213 := n2_; have BK226 := n3_; have HI0 := n4_; have HB := n5_; have HK := n6_; have HO264 := n7_; clear n0_ n1_ n2_ n3_ n4_ n5_ n6_ n7_; clear ho hb hg hat; obtain ⟨Ao86, co86, eo86⟩ := Kd.S_slice HO264.out; subst eo86; obtain ⟨hcz87_0, hcz87_1, hfz87_0, hfz87_1⟩ := cellsF2 BK213.out))
         go_roundg k3
         case measure => have := HJ5.out; have := HK2.out; have := HK3.out; omega
         case rel => exact ⟨(wrap64 (x5_2 - 1)), (t247), (t248), (t249), (y262), (.slice Ao86 y262.length co86), er_, H', ⟨au2_51⟩, ⟨by (with_reducible repeat (first | apply Kd.S_alloc | apply Kd.S_drewN | apply Kd.S_drew)); exact Kd.S_mono (Kd.S_far (p := ⟨gb213, 1, none⟩) (Kd.S_types HO264.out BK213.out (by decide)) (fun _ hk => hk.2) (.slice Ao86 y262.length co86)) (fun _ hk => trivial)⟩, ⟨bf_ BK200⟩, ⟨bf_ BK205⟩, ⟨bq_ BK213⟩, ⟨is2_0_⟩, ⟨au2_18⟩, ⟨au2_17⟩⟩
        replace H := bi_ H; rcases H with ⟨⟨t250, t251, t252, t253⟩, A50, H⟩
        replace H := bi_ H; rcases H with ⟨⟨t254, t255, t256, t257⟩, A51, H⟩
        replace H := itn_ H; rcases H with ⟨c52b0, H⟩
        have c52b1 : decide (0 < x227000_3.length) = true := n2_ c52b0
        obtain ⟨y258, hy258⟩ : ∃ y_ : List ByteArray, y_ = (x227000_3.set (0 : Int).toNat t254) := ⟨_, rfl⟩
        replace H : (if x214001_2.length < 5864062014805 then (F75.l0 k3 (wrap64 (x5_2 - 1)) s0_0 t255 t256 t257 t201 t202 t203 t204 t209 (x214001_2 ++ [(⟨y258⟩ : S122)])) else (none)) = some (r1, r2, r3, r4, r5) := by first | (rw [hy258]; exact H) | exact H
        have Ny258 := am_ hy258
        clear hy258
        replace H := iln_ H; rcases H with ⟨LMc54, H⟩
        obtain ⟨y259, hy259⟩ : ∃ y_ : List (S122), y_ = (x214001_2 ++ [(⟨y258⟩ : S122)]) := ⟨_, rfl⟩
        replace H : (F75.l0 k3 (wrap64 (x5_2 - 1)) s0_0 t255 t256 t257 t201 t202 t203 t204 t209 y259) = some (r1, r2, r3, r4, r5) := by first | (rw [hy259]; exact H) | exact H
        have Ny259 := am_ hy259
        clear hy259
        have H' := am_ H
        clear H
        try go_wp2_with (first | (go_at_call 72; (with_reducible refine (F72.calls g s0_0 x1001_3 x1002_3 x1003_3 60 true t247 t248 t249 w0 _ ?s1 ?s2 A48.out).mono ?_); (case s1 => exact au2_9); (case s2 => exact au2_10); rintro e w55 ⟨rfl, hi, hb, hk⟩; (try clear A48); replace HO_214001 := am_ (Kd.S_mono (Kd.S_keep (IsS116.apartS (is2_0_ : IsS116 w0 _ g s0_0 x1001_3 x1002_3 x1003_3) au2_6 (by decide)) hk (fun _ h => h.2)) (fun _ h => h.1)); replace HO_227000 := am_ (Kd.R_mono (Kd.R_keep (IsS116.apart (is2_0_ : IsS116 w0 _ g s0_0 x1001_3 x1002_3 x1003_3) (rk_ HO_227000) (by decide)) hk (fun _ h => h.2)) (fun _ h => h.1)); replace BK200 := ka_ hk BK200 NB200_0; replace BK205 := ka_ hk BK205 NB205_0; replace BK213 := ka_ hk BK213 NB213_0; replace BK226 := ka_ hk BK226 NB226_0; replace HK := am_ (KeepBut.trans au2_5 hk (.inl rfl)); replace HB := am_ (hb); replace HI0 := am_ (hi); (try clear hb); (try clear hb2); (try clear hk); (try clear hi)))
        replace HO_214001 := am_ (Kd.S_drew HO_214001.out)
        replace HO_227000 := am_ (Kd.R_drew HO_227000.out)
        replace BK200 := bd_ BK200
        replace BK205 := bd_ BK205
        replace BK213 := bd_ BK213
        replace BK226 := bd_ BK226
        replace HI0 := am_ (IsS116.drew HI0.out)
        replace HK := am_ (keep_drew HK.out)
        replace HB := am_ (below_drew1 HB.out)
        refine start_ (n := 10) (S := fun w' => w'.cell? ⟨gb226, 0, none⟩ = some (u227000) ∧ w'.cell? ⟨gb205, 0, none⟩ = some (.int .i64 t201) ∧ w'.cell? ⟨gb205, 1, none⟩ = some (.int .i64 t202) ∧ w'.cell? ⟨gb205, 2, none⟩ = some (.int .i64 t203) ∧ w'.cell? ⟨gb205, 3, none⟩ = some (.int .i64 t204)) (ds := [9]) (bs 10 0) (by kernel_rfl) rfl rfl ⟨(blk_cell BK226.out 0).trans rfl, (blk_cell BK205.out 0).trans rfl, (blk_cell BK205.out 1).trans rfl, (blk_cell BK205.out 2).trans rfl, (blk_cell BK205.out 3).trans rfl⟩ (fun hHeld => ?_); refine with_tabW F75.tab14 F75.bits14 (fun HT_ HW_ => ?_)
        generalize w55.drew = w56 at HO_214001 HO_227000 BK200 BK205 BK213 BK226 HI0 HK HB hHeld ⊢
        refine pu_ 0 47 (bs 10 1) HT_ ?_ rfl rfl
        refine pu_ 2 49 (bs 10 5) HT_ ?_ rfl rfl
        refine pu_ 4 51 (bs 10 21) HT_ ?_ rfl rfl
        refine tk_ 1 48 (bs 10 23) HT_ HW_ hHeld au2_50 ?_ rfl rfl
        refine tk_ 3 50 (bs 10 31) HT_ HW_ hHeld au2_50 ?_ rfl rfl
        refine one_ (i := 5) (N := some 52) (bs 10 63) rfl rfl (one_of HT_.out (by kernel_rfl)) (by decide) (fun K hK => ?_)
        refine gr_ Try.func73 #[.pointer (some ⟨g, 0, none⟩), .int .i64 3] (by rfl) ?_ rfl rfl rfl
        with_reducible refine (F73.calls g s0_0 t247 t248 t249 3 t250 t251 t252 t253 w0 _ ?s1 ?s2 A50.out).mono ?_
        (case s1 => exact au2_9)
        (case s2 => exact au2_10)
        rintro e w57 ⟨rfl, hi, hb, hk⟩
        refine ⟨_, rfl, ?_⟩
        replace HO_214001 := am_ (Kd.S_mono (Kd.S_keep (IsS116.apartS (is2_0_ : IsS116 w0 _ g s0_0 t247 t248 t249) au2_6 (by decide)) hk (fun _ h => h.2)) (fun _ h => h.1))
        replace HO_227000 := am_ (Kd.R_mono (Kd.R_keep (IsS116.apart (is2_0_ : IsS116 w0 _ g s0_0 t247 t248 t249) (rk_ HO_227000) (by decide)) hk (fun _ h => h.2)) (fun _ h => h.1))
        replace BK200 := ka_ hk BK200 NB200_0
        replace BK205 := ka_ hk BK205 NB205_0
        replace BK213 := ka_ hk BK213 NB213_0
        replace BK226 := ka_ hk BK226 NB226_0
        replace HK := am_ (KeepBut.trans au2_5 hk (.inl rfl))
        replace HB := am_ (hb)
        replace HI0 := am_ (hi)
        (try clear hb)
        (try clear hb2)
        (try clear hk)
        (try clear hi)
        refine hK.out _ _ ⟨(blk_cell BK226.out 0).trans rfl, (blk_cell BK205.out 0).trans rfl, (blk_cell BK205.out 1).trans rfl, (blk_cell BK205.out 2).trans rfl, (blk_cell BK205.out 3).trans rfl⟩ (fun hHeld => ?_)
        clear hK K
        refine no_ 52 ?_
        refine pu_ 6 53 (bs 10 127) HT_ ?_ rfl rfl
        refine one_ (i := 7) (N := some 54) (bs 10 255) rfl rfl (one_of HT_.out (by kernel_rfl)) (by decide) (fun K hK => ?_)
        refine gr_ Try.func103 #[.pointer (some ⟨g, 0, none⟩), .agg #[.int .i64 t201, .int .i64 t202, .int .i64 t203, .int .i64 t204], .int .i64 (wrap64 (39 + t250))] (by rfl) ?_ rfl rfl rfl
        with_reducible refine (F103.calls k3 g s0_0 t251 t252 t253 t201 t202 t203 t204 (wrap64 (39 + t250)) t254 t255 t256 t257 w0 _ ?s1 ?s2 A51.out).mono ?_
        (case s1 => exact au2_9)
        (case s2 => exact au2_10)
        rintro e w58 ⟨rfl, hi, hb, hk⟩
        refine ⟨_, rfl, ?_⟩
        replace HO_214001 := am_ (Kd.S_mono (Kd.S_keep (IsS116.apartS (is2_0_ : IsS116 w0 _ g s0_0 t251 t252 t253) au2_6 (by decide)) hk (fun _ h => h.2)) (fun _ h => h.1))
        replace HO_227000 := am_ (Kd.R_mono (Kd.R_keep (IsS116.apart (is2_0_ : IsS116 w0 _ g s0_0 t251 t252 t253) (rk_ HO_227000) (by decide)) hk (fun _ h => h.2)) (fun _ h => h.1))
        replace BK200 := ka_ hk BK200 NB200_0
        replace BK205 := ka_ hk BK205 NB205_0
        replace BK213 := ka_ hk BK213 NB213_0
        replace BK226 := ka_ hk BK226 NB226_0
        replace HK := am_ (KeepBut.trans au2_5 hk (.inl rfl))
        replace HB := am_ (hb)
        replace HI0 := am_ (hi)
        (try clear hb)
        (try clear hb2)
        (try clear hk)
        (try clear hi)
        have p53 : 0 ≤ (0 : Int) := (by omega)
        have q53 : (0 : Int) < ((x227000_3.length : Int) : Int) := od_
        have qi53 : (0 < x227000_3.length) = True := eq_true (by omega)
        obtain ⟨go53, co53, eo53, gb53, gl53, cl53, HG53⟩ := Kd.R_form HO_227000.out (by omega)
        (first | cases eo53 | (injection eo53 with ea_ en_ ec_; (first | subst ea_ | (injection ea_ with ea_; subst ea_)); subst ec_; clear en_))
        have GB53 := am_ gb53
        have GG53 := am_ HG53
        clear gb53 gl53 HG53
        obtain ⟨hx53_0, hf53_0⟩ := Kd.R_celln (⟨#[]⟩ : ByteArray) HO_227000.out (0 : Int) p53 q53
        (try rw [show ((0 : Int)).toNat = 0 from rfl] at hx53_0)
        (try simp only [Nat.reduceMul, Nat.zero_mul, Nat.zero_add, Nat.reduceAdd] at hx53_0)
        (try rw [show ((0 : Int)).toNat = 0 from rfl] at hf53_0)
        (try simp only [Nat.reduceMul, Nat.zero_mul, Nat.zero_add, Nat.reduceAdd] at hf53_0)
        replace p53 := eq_true p53
        replace q53 := eq_true q53
        have HN0_go53 := am_ (show g ≠ go53 from by have h_ := IsS116.own_ne HI0.out HO_227000.out (by decide); intro e_; exact h_ (by rw [e_]; rfl))
        have HP59 := Kd.R_putn HO_227000.out (0 : Int) t254
        rw [← Ny258.out] at HP59
        have HQ59 := am_ HP59
        clear HP59
        refine hK.out _ _ ⟨(blk_cell BK226.out 0).trans rfl, (blk_cell BK205.out 0).trans rfl, (blk_cell BK205.out 1).trans rfl, (blk_cell BK205.out 2).trans rfl, (blk_cell BK205.out 3).trans rfl⟩ (fun hHeld => ?_)
        clear hK K
        refine no_ 54 ?_
        refine pu_ 8 55 (bs 10 511) HT_ ?_ rfl rfl
        refine last_ (i := 9) (N := none) (bs 10 1023) rfl rfl (one_of HT_.out (by kernel_rfl)) (by decide) (fun K hK => ?_)
        refine skip_ (w1 := ?_) (by rfl) rfl ?_ ?_
        rotate_left
        ·go_simp
         rfl
        refine hK.out _ _ ?_
        clear hK K
        refine done_ (done_of HT_.out (by kernel_rfl)) ?_
        have n0_ : Aside0 (Kd.S k122 122 (w58.setCell ⟨go53, 0, none⟩ (.string t254)) w.heap.size (fun k_ => some k_ ≠ (.slice (some ⟨go53, 0, none⟩) x227000_3.length co53 : Value).ownBlock ∧ k_ ≠ gb226) u214001 x214001_2) := ⟨by (with_reducible repeat (first | apply Kd.S_alloc | apply Kd.S_drewN | apply Kd.S_drew)); exact Kd.S_mono (Kd.S_far (p := ⟨go53, 0, none⟩) (Kd.S_mono HO_214001.out (fun k_ hk => (⟨hk, fun e_ => hk.1 (by rw [e_]; rfl)⟩ : _ ∧ k_ ≠ go53))) (fun _ hk => hk.2) (.string t254)) (fun _ hk => ⟨hk.1.1, hk.1.2⟩)⟩
        have n1_ : Aside0 (Kd.R Kd.string 9 (w58.setCell ⟨go53, 0, none⟩ (.string t254)) w.heap.size (fun _ => True) (.slice (some ⟨go53, 0, none⟩) x227000_3.length co53) y258) := ⟨by (with_reducible repeat (first | apply Kd.R_alloc | apply Kd.R_drewN | apply Kd.R_drew)); exact HQ59.out⟩
        have n2_ : Aside0 ((w58.setCell ⟨go53, 0, none⟩ (.string t254)).heap[gb200]? = some (.cells #[.string (⟨#[]⟩ : ByteArray), .slice none 0 0] 88 (0, 0))) := ⟨by (with_reducible repeat (first | refine blk_drewN ?_ _ | refine blk_drew ?_ | refine blk_alloc ?_ _)); refine blk_far ?_ (by have h_ := Kd.R_ne HO_227000.out BK200.out (by decide); intro e_; exact h_ (by rw [e_]; rfl)) _; (with_reducible repeat (first | refine blk_drewN ?_ _ | refine blk_drew ?_ | refine blk_alloc ?_ _)); exact BK200.out⟩
        have n3_ : Aside0 ((w58.setCell ⟨go53, 0, none⟩ (.string t254)).heap[gb205]? = some (.cells #[.int .i64 t201, .int .i64 t202, .int .i64 t203, .int .i64 t204] 45 (0, 0))) := ⟨by (with_reducible repeat (first | refine blk_drewN ?_ _ | refine blk_drew ?_ | refine blk_alloc ?_ _)); refine blk_far ?_ (by have h_ := Kd.R_ne HO_227000.out BK205.out (by decide); intro e_; exact h_ (by rw [e_]; rfl)) _; (with_reducible repeat (first | refine blk_drewN ?_ _ | refine blk_drew ?_ | refine blk_alloc ?_ _)); exact BK205.out⟩
        have n4_ : Aside0 ((w58.setCell ⟨go53, 0, none⟩ (.string t254)).heap[gb213]? = some (.cells #[.string t209, u214001] 88 (0, 0))) := ⟨by (with_reducible repeat (first | refine blk_drewN ?_ _ | refine blk_drew ?_ | refine blk_alloc ?_ _)); refine blk_far ?_ (by have h_ := Kd.R_ne HO_227000.out BK213.out (by decide); intro e_; exact h_ (by rw [e_]; rfl)) _; (with_reducible repeat (first | refine blk_drewN ?_ _ | refine blk_drew ?_ | refine blk_alloc ?_ _)); exact BK213.out⟩
        have n5_ : Aside0 ((w58.setCell ⟨go53, 0, none⟩ (.string t254)).heap[gb226]? = some (.cells #[.slice (some ⟨go53, 0, none⟩) x227000_3.length co53] 122 (0, 0))) := ⟨by (with_reducible repeat (first | refine blk_drewN ?_ _ | refine blk_drew ?_ | refine blk_alloc ?_ _)); refine blk_far ?_ (by have h_ := Kd.R_ne HO_227000.out BK226.out (by decide); intro e_; exact h_ (by rw [e_]; rfl)) _; (with_reducible repeat (first | refine blk_drewN ?_ _ | refine blk_drew ?_ | refine blk_alloc ?_ _)); exact BK226.out⟩
        have n6_ : Aside0 (IsS116 w0 (w58.setCell ⟨go53, 0, none⟩ (.string t254)) g s0_0 t255 t256 t257) := ⟨by repeat (first | (with_reducible first | exact HI0.out | apply IsS116.alloc | apply IsS116.drewN | apply IsS116.drew | apply IsS116.set_1 | apply IsS116.set_2 | apply IsS116.set_3 | refine IsS116.far ?_ HN0_go53.out _ | refine IsS116.far ?_ NB0_200.out _ | refine IsS116.far ?_ NB0_205.out _ | refine IsS116.far ?_ NB0_213.out _ | refine IsS116.far ?_ NB0_226.out _) | exact HI0.out)⟩
        have n7_ : Aside0 (KeepBut w (w58.setCell ⟨go53, 0, none⟩ (.string t254)) g none) := ⟨by repeat (first | (with_reducible first | exact HK.out | apply KeepBut.set_ | apply keep_drewN | apply keep_drew | apply keep_alloc | refine keep_far ?_ GB53.out _ | refine keep_far ?_ GW200.out _ | refine keep_far ?_ GW205.out _ | refine keep_far ?_ GW213.out _ | refine keep_far ?_ GW226.out _) | exact HK.out)⟩
        have n8_ : Aside0 (Below w0.heap.size w0 (w58.setCell ⟨go53, 0, none⟩ (.string t254))) := ⟨by repeat (first | (with_reducible first | exact HB.out | apply below_alloc | apply pw_below_drewN | apply below_drew1 | refine below_set ?_ (Nat.le_trans HL.out GB53.out) | refine below_set ?_ (IsS116.ge HI0.out) | refine below_set ?_ GE200.out | refine below_set ?_ GE205.out | refine below_set ?_ GE213.out | refine below_set ?_ GE226.out) | exact HB.out)⟩
        (try clear HO_214001)
        (try clear HO_227000)
        (try clear BK200)
        (try clear BK205)
        (try clear BK213)
        (try clear BK226)
        (try clear HI0)
        (try clear HK)
        (try clear HB)
        generalize (w58.setCell ⟨go53, 0, none⟩ (.string t254)) = w60 at n0_ n1_ n2_ n3_ n4_ n5_ n6_ n7_ n8_ ⊢
        have HO_214001 := n0_
        have HO_227000 := n1_
        have BK200 := n2_
        have BK205 := n3_
        have BK213 := n4_
        have BK226 := n5_
        have HI0 := n6_
        have HK := n7_
        have HB := n8_
        clear n0_ n1_ n2_ n3_ n4_ n5_ n6_ n7_ n8_
        have hnb61 := NB213_200.out
        have hnc61 := NB200_213.out
        have hnb62 := NB213_205.out
        have hnc62 := NB205_213.out
        have hnb63 := NB213_226.out
        have hnc63 := NB226_213.out
        have hnb64 := NB213_0.out
        have hnc64 := NB0_213.out
        obtain ⟨hcz65_0, hcz65_1, hfz65_0, hfz65_1⟩ := cellsF2 BK213.out
        have hnb66 := NB226_200.out
        have hnc66 := NB200_226.out
        have hnb67 := NB226_205.out
        have hnc67 := NB205_226.out
        have hnb68 := NB226_0.out
        have hnc68 := NB0_226.out
        have hcz69_0 : w60.cell? ⟨gb226, 0, none⟩ = some (.slice (some ⟨go53, 0, none⟩) x227000_3.length co53) := (blk_cell BK226.out 0).trans rfl
        have hfz69_0 := blk_frozen BK226.out 0
        try go_wp2_with (first | ((with_reducible refine gate_builtin (b := .append) (xs := #[.tmp 57, .tmp 59]) rfl ?_); (try (refine gate_guard (by rfl) ?_; dsimp only)); at_builtin; refine Kd.S_append k122 w.heap.size rfl (.tmp 57) (.tmp 59) 86 122 (.agg #[(.slice none 0 0)]) 24 rfl Try.underlying86 info122 rfl (by decide) (by omega) u214001 x214001_2 (⟨y258⟩ : S122) [.slice (some ⟨go53, 0, none⟩) x227000_3.length co53] (fun k_ => k_ ≠ gb226) (fun k_ => some k_ = (.slice (some ⟨go53, 0, none⟩) x227000_3.length co53 : Value).ownBlock) rfl rfl ?aP (fun k_ hk_ => ((Kd.R_mono (ok' := fun k_ => ((fun k_ => k_ ≠ gb226)) k_ ∧ some k_ ≠ (u214001 : Value).ownBlock) (Kd.R_types (Kd.R_apart' (HO_227000.out) (Kd.S_typed HO_214001.out) (by decide)) BK226.out (by decide)) (fun k_ hk => ⟨hk.2, hk.1.2⟩))).1 k_ hk_.symm) ?aF ?aO (Below.refl _ _) ?aS ?aL ?_; (case aP => exact k122_mkM _ _ _ (⟨y258⟩ : S122) (Kd.R_mono (Kd.R_tight rfl (Kd.R_mono (ok' := fun k_ => ((fun k_ => k_ ≠ gb226)) k_ ∧ some k_ ≠ (u214001 : Value).ownBlock) (Kd.R_types (Kd.R_apart' (HO_227000.out) (Kd.S_typed HO_214001.out) (by decide)) BK226.out (by decide)) (fun k_ hk => ⟨hk.2, hk.1.2⟩))) (fun _ h_ => h_))); (case aF => exact (fun k_ hk => Kd.freshB (g := gb226) (o := .cells #[.slice (some ⟨go53, 0, none⟩) x227000_3.length co53] 122 (0, 0)) (bk_ BK226) k_ hk)); (case aO => exact au2_48); (case aS => exact au2_55); (case aL => have := LMc54.out; omega); intro v260 w70 ho hb hg hat; rw [← Ny259.out] at ho; have n0_ := am_ (bg_ BK200 hg (Kd.S_ne HO_214001.out BK200.out (by decide))); have n1_ := am_ (bg_ BK205 hg (Kd.S_ne HO_214001.out BK205.out (by decide))); have n2_ := am_ (bg_ BK213 hg (Kd.S_ne HO_214001.out BK213.out (by decide))); have n3_ := am_ (bg_ BK226 hg (Kd.S_away HO_214001.out (fun _ hk => hk.2))); have n4_ := am_ (IsS116.grown is2_0_ hg (IsS116.own_neS HI0.out HO_214001.out (by decide))); have n5_ := am_ (below_weaken au2_21 HL.out hb); have n6_ := am_ (KeepBut.trans au2_5 (KeepBut.of_grown hg g) (Kd.S_base2 HO_214001.out)); have n7_ := am_ (ho); clear BK200; clear BK205; clear BK213; clear BK226; clear HI0; clear HB; clear HK; clear HO_214001; clear HO_227000; have BK200 := n0_; have BK205 := n1_; have BK213 := n2_; have BK226 := n3_; have HI0 := n4_; have HB := n5_; have HK := n6_; have HO261 := n7_; clear n0_ n1_ n2_ n3_ n4_ n5_ n6_ n7_; clear ho hb hg hat; obtain ⟨Ao71, co71, eo71⟩ := Kd.S_slice HO261.out; subst eo71; obtain ⟨hcz72_0, hcz72_1, hfz72_0, hfz72_1⟩ := cellsF2 BK213.out))
        go_roundg k3
        case measure => have := HJ5.out; have := HK2.out; have := HK3.out; omega
        case rel => exact ⟨(wrap64 (x5_2 - 1)), (t255), (t256), (t257), (y259), (.slice Ao71 y259.length co71), er_, H', ⟨au2_51⟩, ⟨by (with_reducible repeat (first | apply Kd.S_alloc | apply Kd.S_drewN | apply Kd.S_drew)); exact Kd.S_mono (Kd.S_far (p := ⟨gb213, 1, none⟩) (Kd.S_types HO261.out BK213.out (by decide)) (fun _ hk => hk.2) (.slice Ao71 y259.length co71)) (fun _ hk => trivial)⟩, ⟨bf_ BK200⟩, ⟨bf_ BK205⟩, ⟨bq_ BK213⟩, ⟨is2_0_⟩, ⟨au2_18⟩, ⟨au2_17⟩⟩
     have HC88 := am_ H
     clear H
     go_upto_block 4 with (fail)
     go_cut [] (fun wc => ∃ (kq : Nat) (x1001_87 : Int) (x1002_87 : Int) (x1003_87 : Int) (x214001_87 : List (S122)) (u214001 : Value), Aside0 (F75.j4 kq s0_0 x1001_87 x1002_87 x1003_87 t209 x214001_87 = some (r1, r2, r3, r4, r5)) ∧ Aside0 (kq ≤ k2) ∧ Aside0 (Kd.S k122 122 wc w.heap.size (fun _ => True) u214001 x214001_87) ∧ Aside0 (wc.heap[gb200]? = some (.cells #[.string (⟨#[]⟩ : ByteArray), (.slice none 0 0)] 88 (0, 0))) ∧ Aside0 (wc.heap[gb205]? = some (.cells #[.int .i64 t201, .int .i64 t202, .int .i64 t203, .int .i64 t204] 45 (0, 0))) ∧ Aside0 (wc.heap[gb213]? = some (.cells #[.string t209, u214001] 88 (0, 0))) ∧ Aside0 (IsS116 w0 wc g s0_0 x1001_87 x1002_87 x1003_87) ∧ Aside0 (KeepBut w wc g none) ∧ Aside0 (Below w0.heap.size w0 wc))
     case first =>
      have H := HC88.out
      clear HC88
      have H' := am_ H
      clear H
      go_wp2
      go_loopg [] k2 (fun kq w' => ∃ (x1001_3 : Int) (x1002_3 : Int) (x1003_3 : Int) (x214001_3 : List (S122)) (u214001 : Value), Aside0 (F75.l2 kq s0_0 x1001_3 x1002_3 x1003_3 t209 x214001_3 = some (r1, r2, r3, r4, r5)) ∧ Aside0 (kq ≤ k2) ∧ Aside0 (Kd.S k122 122 w' w.heap.size (fun _ => True) u214001 x214001_3) ∧ Aside0 (w'.heap[gb200]? = some (.cells #[.string (⟨#[]⟩ : ByteArray), (.slice none 0 0)] 88 (0, 0))) ∧ Aside0 (w'.heap[gb205]? = some (.cells #[.int .i64 t201, .int .i64 t202, .int .i64 t203, .int .i64 t204] 45 (0, 0))) ∧ Aside0 (w'.heap[gb213]? = some (.cells #[.string t209, u214001] 88 (0, 0))) ∧ Aside0 (IsS116 w0 w' g s0_0 x1001_3 x1002_3 x1003_3) ∧ Aside0 (KeepBut w w' g none) ∧ Aside0 (Below w0.heap.size w0 w'))
      case atStart => exact ⟨(x1001_2), (x1002_2), (x1003_2), (x214001_2), (u214001), H', ⟨Nat.le_refl _⟩, ⟨au2_36⟩, ⟨bk_ BK200⟩, ⟨bk_ BK205⟩, ⟨bk_ BK213⟩, ⟨is2_0_⟩, ⟨au2_8⟩, ⟨au2_7⟩⟩
      case round =>
       clear H'
       try clear c27b0
       try clear c38b0
       try clear c52b0
       try clear c52b1
       try clear p53
       try clear q53
       try clear qi53
       try clear hcz65_0 hcz65_1
       try clear hcz69_0
       try clear hcz72_0 hcz72_1
       try clear hcz79_0 hcz79_1
       try clear hcz83_0
       try clear hcz87_0 hcz87_1
       try clear hfz65_0 hfz65_1
       try clear hfz69_0
       try clear hfz72_0 hfz72_1
       try clear hfz79_0 hfz79_1
       try clear hfz83_0
       try clear hfz87_0 hfz87_1
       try clear hx53_0
       try clear p53
       try clear q53
       obtain ⟨x1001_3, x1002_3, x1003_3, x214001_3, u214001, HA, HK3, HO_214001, BK200, BK205, BK213, HI0, HK, HB⟩ := hrel
       cases gk with
       | zero => exact absurd HA.out (by simp [F75.l2])
       | succ k3 =>
        have H := HA.out
        clear HA
        simp only [F75.l2] at H
        replace H := it_ H; rcases H with ⟨(c89b0 : decide (0 < (x214001_3.length : Int)) = true), H⟩ | ⟨(c89b0 : decide (0 < (x214001_3.length : Int)) = false), H⟩
        rotate_left
        ·have c89b1 : decide (0 < x214001_3.length) = false := n2_ c89b0
         (first | rw [c89b0] | (simp only [i64_w, i32_w]; rw [c89b0]) | skip)
         have H' := am_ H
         clear H
         have hnb120 := NB213_200.out
         have hnc120 := NB200_213.out
         have hnb121 := NB213_205.out
         have hnc121 := NB205_213.out
         have hnb122 := NB213_0.out
         have hnc122 := NB0_213.out
         obtain ⟨hcz123_0, hcz123_1, hfz123_0, hfz123_1⟩ := cellsF2 BK213.out
         obtain ⟨Ao124, co124, eo124⟩ := Kd.S_slice HO_214001.out
         subst eo124
         go_wp2
         go_meet
         case rel => exact ⟨_, (x1001_3), (x1002_3), (x1003_3), (x214001_3), (.slice Ao124 x214001_3.length co124), H', ⟨au2_49⟩, ⟨au2_36⟩, ⟨bk_ BK200⟩, ⟨bk_ BK205⟩, ⟨bk_ BK213⟩, ⟨is2_0_⟩, ⟨au2_8⟩, ⟨au2_7⟩⟩
        have c89b1 : decide (0 < x214001_3.length) = true := n2_ c89b0
        (first | rw [c89b0] | (simp only [i64_w, i32_w]; rw [c89b0]) | skip)
        obtain ⟨ji90, hji90⟩ : ∃ j_ : Int, (wrap64 ((x214001_3.length : Int) - 1)) = j_ := ⟨_, rfl⟩
        replace H : (if 0 ≤ (ji90) then (if (ji90) < (x214001_3.length : Int) then ((F79.f ((rd_T122 x214001_3 (ji90)).f0)).bind fun t266 => (if t266 = true then ((F72.f s0_0 x1001_3 x1002_3 x1003_3 20).bind fun bt267 => (if bt267.1 = true then (F75.j4 k3 s0_0 bt267.2.1 bt267.2.2.1 bt267.2.2.2 t209 x214001_3) else (if (ji90) ≤ (x214001_3.length : Int) then (F75.l2 k3 s0_0 bt267.2.1 bt267.2.2.1 bt267.2.2.2 t209 (x214001_3.take ((ji90) : Int).toNat)) else (none)))) else (F75.j4 k3 s0_0 x1001_3 x1002_3 x1003_3 t209 x214001_3))) else (none)) else (none)) = some (r1, r2, r3, r4, r5) := by first | (rw [hji90] at H; exact H) | (simp only [hji90] at H ⊢; exact H)
        have hji90w : (IntKind.i64.wrap ((x214001_3.length : Int) - 1)) = ji90 := (i64_w _).trans hji90
        replace H := itn_ H; rcases H with ⟨c91b0, H⟩
        replace H := itn_ H; rcases H with ⟨c92b0, H⟩
        replace H := bi_ H; rcases H with ⟨t266, A93, H⟩
        replace H := ib_ H; rcases H with ⟨rfl, H⟩ | ⟨rfl, H⟩
        rotate_left
        ·have H' := am_ H
         clear H
         have hnb114 := NB213_200.out
         have hnc114 := NB200_213.out
         have hnb115 := NB213_205.out
         have hnc115 := NB205_213.out
         have hnb116 := NB213_0.out
         have hnc116 := NB0_213.out
         obtain ⟨hcz117_0, hcz117_1, hfz117_0, hfz117_1⟩ := cellsF2 BK213.out
         obtain ⟨Ao118, co118, eo118⟩ := Kd.S_slice HO_214001.out
         subst eo118
         have p265 : 0 ≤ ((ji90) : Int) := od_
         have q265 : (ji90) < (x214001_3.length : Int) := od_
         obtain ⟨ad265, A265_0, c265_0, e265, hx265_0, hl265_0, hi265_0⟩ := at_T122 (Kd.S_reads' HO_214001.out).2.2 (ji90) p265 q265
         cases e265
         obtain ⟨ce265, hce265, hMe265, hcc265⟩ := Kd.S_get HO_214001.out z122 (ji90) p265 au2_45
         obtain ⟨ve265_0, rfl, ge265_0⟩ := k122_openM hMe265
         have hv265_0 := hcc265 0 _ rfl
         rw [Nat.add_zero, show (k122).sz = 1 from rfl, Nat.mul_one] at hv265_0
         replace hv265_0 := Option.some.inj (hv265_0.symm.trans hx265_0)
         rw [hv265_0] at ge265_0
         have HL265_0 := am_ (show Kd.R Kd.string 9 _ _ _ _ ((rd_T122 x214001_3 (ji90)).f0) from ge265_0)
         clear hv265_0 ge265_0
         clear hcc265 hce265
         have HR265_0 := am_ hi265_0
         have HC265_0 := am_ hl265_0
         clear hi265_0 hl265_0
         replace p265 := eq_true p265
         replace q265 := eq_true q265
         go_wp2_with (first | (go_at_call 79; (with_reducible refine (F79.calls _ _ ((rd_T122 x214001_3 (ji90)).f0) false _ ?s1 ?s2 A93.out).mono ?_); (case s1 => exact au2_37); (case s2 => exact HC265_0.out); rintro e w119 ⟨rfl, hb⟩; (try clear A93); replace HO_214001 := am_ (Kd.S_below au2_6 hb); replace HL265_0 := am_ (Kd.R_below au2_28 hb); replace BK200 := bb_ BK200 hb; replace BK205 := bb_ BK205 hb; replace BK213 := bb_ BK213 hb; replace HR265_0 := am_ (Kd.C_below au2_16 hb); replace HK := am_ (KeepBut.trans au2_0 (KeepBut.of_below hb g none) (.inl rfl)); replace HB := am_ (below_step au2_3 hb); replace HI0 := am_ (IsS116.below is2_0_ hb); (try clear hb); (try clear hb2); (try clear hk); (try clear hi)))
         go_meet
         case rel => exact ⟨_, (x1001_3), (x1002_3), (x1003_3), (x214001_3), (.slice (some ad265) x214001_3.length co118), H', ⟨au2_49⟩, ⟨au2_36⟩, ⟨bk_ BK200⟩, ⟨bk_ BK205⟩, ⟨bk_ BK213⟩, ⟨is2_0_⟩, ⟨au2_8⟩, ⟨au2_7⟩⟩
        replace H := bi_ H; rcases H with ⟨⟨t267, t268, t269, t270⟩, A95, H⟩
        replace H := ib_ H; rcases H with ⟨rfl, H⟩ | ⟨rfl, H⟩
        ·have H' := am_ H
         clear H
         have hnb97 := NB213_200.out
         have hnc97 := NB200_213.out
         have hnb98 := NB213_205.out
         have hnc98 := NB205_213.out
         have hnb99 := NB213_0.out
         have hnc99 := NB0_213.out
         obtain ⟨hcz100_0, hcz100_1, hfz100_0, hfz100_1⟩ := cellsF2 BK213.out
         obtain ⟨Ao101, co101, eo101⟩ := Kd.S_slice HO_214001.out
         subst eo101
         have p265 : 0 ≤ ((ji90) : Int) := od_
         have q265 : (ji90) < (x214001_3.length : Int) := od_
         obtain ⟨ad265, A265_0, c265_0, e265, hx265_0, hl265_0, hi265_0⟩ := at_T122 (Kd.S_reads' HO_214001.out).2.2 (ji90) p265 q265
         cases e265
         obtain ⟨ce265, hce265, hMe265, hcc265⟩ := Kd.S_get HO_214001.out z122 (ji90) p265 au2_45
         obtain ⟨ve265_0, rfl, ge265_0⟩ := k122_openM hMe265
         have hv265_0 := hcc265 0 _ rfl
         rw [Nat.add_zero, show (k122).sz = 1 from rfl, Nat.mul_one] at hv265_0
         replace hv265_0 := Option.some.inj (hv265_0.symm.trans hx265_0)
         rw [hv265_0] at ge265_0
         have HL265_0 := am_ (show Kd.R Kd.string 9 _ _ _ _ ((rd_T122 x214001_3 (ji90)).f0) from ge265_0)
         clear hv265_0 ge265_0
         clear hcc265 hce265
         have HR265_0 := am_ hi265_0
         have HC265_0 := am_ hl265_0
         clear hi265_0 hl265_0
         replace p265 := eq_true p265
         replace q265 := eq_true q265
         go_wp2_with (first | (go_at_call 79; (with_reducible refine (F79.calls _ _ ((rd_T122 x214001_3 (ji90)).f0) true _ ?s1 ?s2 A93.out).mono ?_); (case s1 => exact au2_37); (case s2 => exact HC265_0.out); rintro e w102 ⟨rfl, hb⟩; (try clear A93); replace HO_214001 := am_ (Kd.S_below au2_6 hb); replace HL265_0 := am_ (Kd.R_below au2_28 hb); replace BK200 := bb_ BK200 hb; replace BK205 := bb_ BK205 hb; replace BK213 := bb_ BK213 hb; replace HR265_0 := am_ (Kd.C_below au2_16 hb); replace HK := am_ (KeepBut.trans au2_0 (KeepBut.of_below hb g none) (.inl rfl)); replace HB := am_ (below_step au2_3 hb); replace HI0 := am_ (IsS116.below is2_0_ hb); (try clear hb); (try clear hb2); (try clear hk); (try clear hi)) | (go_at_call 72; (with_reducible refine (F72.calls g s0_0 x1001_3 x1002_3 x1003_3 20 true t268 t269 t270 w0 _ ?s1 ?s2 A95.out).mono ?_); (case s1 => exact au2_1); (case s2 => exact au2_2); rintro e w103 ⟨rfl, hi, hb, hk⟩; (try clear A95); replace HO_214001 := am_ (Kd.S_mono (Kd.S_keep (IsS116.apartS (is2_0_ : IsS116 w0 _ g s0_0 x1001_3 x1002_3 x1003_3) au2_6 (by decide)) hk (fun _ h => h.2)) (fun _ h => h.1)); replace BK200 := ka_ hk BK200 NB200_0; replace BK205 := ka_ hk BK205 NB205_0; replace BK213 := ka_ hk BK213 NB213_0; replace HL265_0 := am_ (Kd.R_mono (Kd.R_keep (IsS116.apart (is2_0_ : IsS116 w0 _ g s0_0 x1001_3 x1002_3 x1003_3) au2_28 (by decide)) hk (fun _ h => h.2)) (fun _ h => h.1)); replace HK := am_ (KeepBut.trans au2_0 hk (.inl rfl)); replace HB := am_ (hb); replace HI0 := am_ (hi); (try clear hb); (try clear hb2); (try clear hk); (try clear hi)))
         go_meet
         case rel => exact ⟨_, (t268), (t269), (t270), (x214001_3), (.slice (some ad265) x214001_3.length co101), H', ⟨au2_49⟩, ⟨au2_36⟩, ⟨bk_ BK200⟩, ⟨bk_ BK205⟩, ⟨bk_ BK213⟩, ⟨is2_0_⟩, ⟨au2_8⟩, ⟨au2_7⟩⟩
        by_cases c104 : (ji90) ≤ (x214001_3.length : Int)
        rotate_left
        ·rw [if_neg c104] at H
         exact absurd H (by simp)
        rw [if_pos c104] at H
        have c104b0 := eq_true c104
        have c104b1 : decide ((ji90) ≤ (x214001_3.length : Int)) = true := decide_eq_true c104
        clear c104
        obtain ⟨y271, hy271⟩ : ∃ y_ : List (S122), y_ = (x214001_3.take ((ji90) : Int).toNat) := ⟨_, rfl⟩
        replace H : (F75.l2 k3 s0_0 t268 t269 t270 t209 y271) = some (r1, r2, r3, r4, r5) := by first | (rw [hy271]; exact H) | exact H
        have Ny271 := am_ hy271
        clear hy271
        have H' := am_ H
        clear H
        have hnb105 := NB213_200.out
        have hnc105 := NB200_213.out
        have hnb106 := NB213_205.out
        have hnc106 := NB205_213.out
        have hnb107 := NB213_0.out
        have hnc107 := NB0_213.out
        obtain ⟨hcz108_0, hcz108_1, hfz108_0, hfz108_1⟩ := cellsF2 BK213.out
        obtain ⟨Ao109, co109, eo109⟩ := Kd.S_slice HO_214001.out
        subst eo109
        have p265 : 0 ≤ ((ji90) : Int) := od_
        have q265 : (ji90) < (x214001_3.length : Int) := od_
        obtain ⟨ad265, A265_0, c265_0, e265, hx265_0, hl265_0, hi265_0⟩ := at_T122 (Kd.S_reads' HO_214001.out).2.2 (ji90) p265 q265
        cases e265
        obtain ⟨ce265, hce265, hMe265, hcc265⟩ := Kd.S_get HO_214001.out z122 (ji90) p265 au2_45
        obtain ⟨ve265_0, rfl, ge265_0⟩ := k122_openM hMe265
        have hv265_0 := hcc265 0 _ rfl
        rw [Nat.add_zero, show (k122).sz = 1 from rfl, Nat.mul_one] at hv265_0
        replace hv265_0 := Option.some.inj (hv265_0.symm.trans hx265_0)
        rw [hv265_0] at ge265_0
        have HL265_0 := am_ (show Kd.R Kd.string 9 _ _ _ _ ((rd_T122 x214001_3 (ji90)).f0) from ge265_0)
        clear hv265_0 ge265_0
        clear hcc265 hce265
        have HR265_0 := am_ hi265_0
        have HC265_0 := am_ hl265_0
        clear hi265_0 hl265_0
        replace p265 := eq_true p265
        replace q265 := eq_true q265
        go_wp2_with (first | (go_at_call 79; (with_reducible refine (F79.calls _ _ ((rd_T122 x214001_3 (ji90)).f0) true _ ?s1 ?s2 A93.out).mono ?_); (case s1 => exact au2_37); (case s2 => exact HC265_0.out); rintro e w110 ⟨rfl, hb⟩; (try clear A93); replace HO_214001 := am_ (Kd.S_below au2_6 hb); replace HL265_0 := am_ (Kd.R_below au2_28 hb); replace BK200 := bb_ BK200 hb; replace BK205 := bb_ BK205 hb; replace BK213 := bb_ BK213 hb; replace HR265_0 := am_ (Kd.C_below au2_16 hb); replace HK := am_ (KeepBut.trans au2_0 (KeepBut.of_below hb g none) (.inl rfl)); replace HB := am_ (below_step au2_3 hb); replace HI0 := am_ (IsS116.below is2_0_ hb); (try clear hb); (try clear hb2); (try clear hk); (try clear hi)) | (go_at_call 72; (with_reducible refine (F72.calls g s0_0 x1001_3 x1002_3 x1003_3 20 false t268 t269 t270 w0 _ ?s1 ?s2 A95.out).mono ?_); (case s1 => exact au2_1); (case s2 => exact au2_2); rintro e w111 ⟨rfl, hi, hb, hk⟩; (try clear A95); replace HO_214001 := am_ (Kd.S_mono (Kd.S_keep (IsS116.apartS (is2_0_ : IsS116 w0 _ g s0_0 x1001_3 x1002_3 x1003_3) au2_6 (by decide)) hk (fun _ h => h.2)) (fun _ h => h.1)); replace BK200 := ka_ hk BK200 NB200_0; replace BK205 := ka_ hk BK205 NB205_0; replace BK213 := ka_ hk BK213 NB213_0; replace HL265_0 := am_ (Kd.R_mono (Kd.R_keep (IsS116.apart (is2_0_ : IsS116 w0 _ g s0_0 x1001_3 x1002_3 x1003_3) au2_28 (by decide)) hk (fun _ h => h.2)) (fun _ h => h.1)); replace HK := am_ (KeepBut.trans au2_0 hk (.inl rfl)); replace HB := am_ (hb); replace HI0 := am_ (hi); (try clear hb); (try clear hb2); (try clear hk); (try clear hi); obtain ⟨hcz112_0, hcz112_1, hfz112_0, hfz112_1⟩ := cellsF2 BK213.out; have q113 : ((ji90) : Int) ≤ ((x214001_3.length : Int) : Int) := od_; obtain ⟨i0113, hi0113, _, hsz113, _⟩ := info_parts info122; have hcut113 := cut_to (P := Try.prog) 86 122 .i64 Try.underlying86 hi0113 (some ad265) x214001_3.length co109 (ji90) (of_decide_eq_true as_) q113 (Kd.S_reads' HO_214001.out).2.1; have hr113 := Kd.S_take (m := ((ji90) : Int).toNat) HO_214001.out (by omega); have hy113 : y271.length = ((ji90) : Int).toNat := (by rw [Ny271.out, List.length_take]; omega); rw [← Ny271.out] at hr113; rw [← hy113] at hr113 hcut113; clear hy113 hi0113 hsz113 HO_214001; have HO273 := am_ hr113; clear hr113; replace q113 := eq_true q113))
        go_roundg k3
        case measure => have := HJ5.out; have := HK2.out; have := HK3.out; omega
        case rel => exact ⟨(t268), (t269), (t270), (y271), (.slice (some ad265) y271.length co109), H', ⟨au2_51⟩, ⟨by (with_reducible repeat (first | apply Kd.S_alloc | apply Kd.S_drewN | apply Kd.S_drew)); exact Kd.S_mono (Kd.S_far (p := ⟨gb213, 1, none⟩) (Kd.S_types HO273.out BK213.out (by decide)) (fun _ hk => hk.2) (.slice (some ad265) y271.length co109)) (fun _ hk => trivial)⟩, ⟨bf_ BK200⟩, ⟨bf_ BK205⟩, ⟨bq_ BK213⟩, ⟨is2_0_⟩, ⟨au2_8⟩, ⟨au2_7⟩⟩
     case rest =>
      clear HC88
      try clear c27b0
      try clear c38b0
      try clear c52b0
      try clear c52b1
      try clear p53
      try clear q53
      try clear qi53
      try clear c89b0
      try clear c89b1
      try clear c91b0
      try clear c92b0
      try clear c104
      try clear c104b0
      try clear c104b1
      try clear q113
      try clear hcz100_0 hcz100_1
      try clear hcz108_0 hcz108_1
      try clear hcz112_0 hcz112_1
      try clear hcz117_0 hcz117_1
      try clear hcz123_0 hcz123_1
      try clear hcz65_0 hcz65_1
      try clear hcz69_0
      try clear hcz72_0 hcz72_1
      try clear hcz79_0 hcz79_1
      try clear hcz83_0
      try clear hcz87_0 hcz87_1
      try clear hfz100_0 hfz100_1
      try clear hfz108_0 hfz108_1
      try clear hfz112_0 hfz112_1
      try clear hfz117_0 hfz117_1
      try clear hfz123_0 hfz123_1
      try clear hfz65_0 hfz65_1
      try clear hfz69_0
      try clear hfz72_0 hfz72_1
      try clear hfz79_0 hfz79_1
      try clear hfz83_0
      try clear hfz87_0 hfz87_1
      try clear hx265_0
      try clear hx53_0
      try clear p265
      try clear p53
      try clear q113
      try clear q265
      try clear q53
      obtain ⟨kq, x1001_87, x1002_87, x1003_87, x214001_87, u214001, HA, HJ87, HO_214001, BK200, BK205, BK213, HI0, HK, HB⟩ := hcut
      cases kq with
      | zero => exact absurd HA.out (by simp [F75.j4])
      | succ kj87 =>
       have H := HA.out
       clear HA
       simp only [F75.j4] at H
       replace H := bi_ H; rcases H with ⟨⟨t274, t275, t276, t277⟩, A125, H⟩
       replace H := ib_ H; rcases H with ⟨rfl, H⟩ | ⟨rfl, H⟩
       rotate_left
       ·simp only [Option.some.injEq, Prod.mk.injEq] at H
        obtain ⟨rfl, rfl, rfl, rfl, rfl⟩ := H
        go_wp2_with (first | (go_at_call 72; (with_reducible refine (F72.calls g s0_0 x1001_87 x1002_87 x1003_87 20 false t275 t276 t277 w0 _ ?s1 ?s2 A125.out).mono ?_); (case s1 => exact au2_1); (case s2 => exact au2_2); rintro e w187 ⟨rfl, hi, hb, hk⟩; (try clear A125); replace HO_214001 := am_ (Kd.S_mono (Kd.S_keep (IsS116.apartS (is2_0_ : IsS116 w0 _ g s0_0 x1001_87 x1002_87 x1003_87) au2_6 (by decide)) hk (fun _ h => h.2)) (fun _ h => h.1)); replace BK200 := ka_ hk BK200 NB200_0; replace BK205 := ka_ hk BK205 NB205_0; replace BK213 := ka_ hk BK213 NB213_0; replace HK := am_ (KeepBut.trans au2_0 hk (.inl rfl)); replace HB := am_ (hb); replace HI0 := am_ (hi); (try clear hb); (try clear hb2); (try clear hk); (try clear hi); have hnb188 := NB213_200.out; have hnc188 := NB200_213.out; have hnb189 := NB213_205.out; have hnc189 := NB205_213.out; have hnb190 := NB213_0.out; have hnc190 := NB0_213.out; obtain ⟨hcz191_0, hcz191_1, hfz191_0, hfz191_1⟩ := cellsF2 BK213.out; have hnb192 := NB200_205.out; have hnc192 := NB205_200.out; have hnb193 := NB200_0.out; have hnc193 := NB0_200.out; obtain ⟨hcz194_0, hcz194_1, hfz194_0, hfz194_1⟩ := cellsF2 BK200.out; obtain ⟨Ao195, co195, eo195⟩ := Kd.S_slice HO_214001.out; subst eo195))
        refine bodyPost_ret (results_cell_row rfl _ _ gb200 88 #[.string t209, .slice Ao195 x214001_87.length co195] (0, 0) _ rfl (bq_ BK200) Try.underlying88 rfl (by kernel_rfl)) rfl ?_
        exact ⟨_, au2_23, by (with_reducible repeat (first | apply Kd.S_alloc | apply Kd.S_drewN | apply Kd.S_drew)); exact Kd.S_mono (Kd.S_far (p := ⟨gb200, 1, none⟩) (Kd.S_far (p := ⟨gb200, 0, none⟩) (Kd.S_types HO_214001.out BK200.out (by decide)) (fun _ hk => hk.2) (.string t209)) (fun _ hk => hk.2) (.slice Ao195 x214001_87.length co195)) (fun _ hk => trivial), is2_0_, au2_7, au2_8⟩

       replace H := bi_ H; rcases H with ⟨⟨t278, t279, t280, t281⟩, A127, H⟩
       by_cases c128 : t278 = 0
       ·rw [if_pos c128] at H
        have c128b0 : (t278 == 0) = true := beq_iff_eq.mpr c128
        have c128b1 : (t278 != 0) = false := bne_eq_false_iff_eq.mpr c128
        clear c128
        obtain ⟨y282, hy282⟩ : ∃ y_ : List ByteArray, y_ = (([(⟨#[]⟩ : ByteArray), (⟨#[65, 66]⟩ : ByteArray), (⟨#[65, 66, 67, 68]⟩ : ByteArray), (⟨#[65, 66, 49]⟩ : ByteArray), (⟨#[97, 98, 99]⟩ : ByteArray)] : List ByteArray)) := ⟨_, rfl⟩
        replace H : ((F102.f s0_0 t279 t280 t281 y282).bind fun bt285 => (some (bt285.1, x214001_87, bt285.2.1, bt285.2.2.1, bt285.2.2.2))) = some (r1, r2, r3, r4, r5) := by first | (rw [hy282]; exact H) | exact H
        have Ny282 := am_ hy282
        clear hy282
        replace H := bi_ H; rcases H with ⟨⟨t285, t286, t287, t288⟩, A129, H⟩
        simp only [Option.some.injEq, Prod.mk.injEq] at H
        obtain ⟨rfl, rfl, rfl, rfl, rfl⟩ := H
        go_wp2_with (first | (go_at_call 72; (with_reducible refine (F72.calls g s0_0 x1001_87 x1002_87 x1003_87 20 true t275 t276 t277 w0 _ ?s1 ?s2 A125.out).mono ?_); (case s1 => exact au2_1); (case s2 => exact au2_2); rintro e w130 ⟨rfl, hi, hb, hk⟩; (try clear A125); replace HO_214001 := am_ (Kd.S_mono (Kd.S_keep (IsS116.apartS (is2_0_ : IsS116 w0 _ g s0_0 x1001_87 x1002_87 x1003_87) au2_6 (by decide)) hk (fun _ h => h.2)) (fun _ h => h.1)); replace BK200 := ka_ hk BK200 NB200_0; replace BK205 := ka_ hk BK205 NB205_0; replace BK213 := ka_ hk BK213 NB213_0; replace HK := am_ (KeepBut.trans au2_0 hk (.inl rfl)); replace HB := am_ (hb); replace HI0 := am_ (hi); (try clear hb); (try clear hb2); (try clear hk); (try clear hi)) | (go_at_call 73; (with_reducible refine (F73.calls g s0_0 t275 t276 t277 3 t278 t279 t280 t281 w0 _ ?s1 ?s2 A127.out).mono ?_); (case s1 => exact au2_1); (case s2 => exact au2_2); rintro e w131 ⟨rfl, hi, hb, hk⟩; (try clear A127); replace HO_214001 := am_ (Kd.S_mono (Kd.S_keep (IsS116.apartS (is2_0_ : IsS116 w0 _ g s0_0 t275 t276 t277) au2_6 (by decide)) hk (fun _ h => h.2)) (fun _ h => h.1)); replace BK200 := ka_ hk BK200 NB200_0; replace BK205 := ka_ hk BK205 NB205_0; replace BK213 := ka_ hk BK213 NB213_0; replace HK := am_ (KeepBut.trans au2_0 hk (.inl rfl)); replace HB := am_ (hb); replace HI0 := am_ (hi); (try clear hb); (try clear hb2); (try clear hk); (try clear hi)) | ((with_reducible refine gate_dst (N := 110) rfl ?_); (try (refine gate_guard (by rfl) ?_; dsimp only)); refine Kd.R_lit Kd.string _ 9 ?hg (N := 110) ?hd (xs := ([(⟨#[]⟩ : ByteArray), (⟨#[65, 66]⟩ : ByteArray), (⟨#[65, 66, 67, 68]⟩ : ByteArray), (⟨#[65, 66, 49]⟩ : ByteArray), (⟨#[97, 98, 99]⟩ : ByteArray)] : List ByteArray)) (inner := [.string (⟨#[]⟩ : ByteArray), .string (⟨#[65, 66]⟩ : ByteArray), .string (⟨#[65, 66, 67, 68]⟩ : ByteArray), .string (⟨#[65, 66, 49]⟩ : ByteArray), .string (⟨#[97, 98, 99]⟩ : ByteArray)]) (ok := fun _ => True) (okp := fun _ => True) ?hr ?hp (fun _ hk => hk) trivial (Below.refl _ _) (Nat.le_refl _) (by simp) ?_; (case hd => rfl); (case hg => rfl); (case hr => exact hr_); (case hp => exact (Reps.one (show Kd.M Kd.string _ _ _ (⟨#[]⟩ : ByteArray) [.string (⟨#[]⟩ : ByteArray)] from rfl) (Reps.one (show Kd.M Kd.string _ _ _ (⟨#[65, 66]⟩ : ByteArray) [.string (⟨#[65, 66]⟩ : ByteArray)] from rfl) (Reps.one (show Kd.M Kd.string _ _ _ (⟨#[65, 66, 67, 68]⟩ : ByteArray) [.string (⟨#[65, 66, 67, 68]⟩ : ByteArray)] from rfl) (Reps.one (show Kd.M Kd.string _ _ _ (⟨#[65, 66, 49]⟩ : ByteArray) [.string (⟨#[65, 66, 49]⟩ : ByteArray)] from rfl) (Reps.one (show Kd.M Kd.string _ _ _ (⟨#[97, 98, 99]⟩ : ByteArray) [.string (⟨#[97, 98, 99]⟩ : ByteArray)] from rfl) (Reps.none _ _))))))); intro v283 w132 ho133 hb hg_ hnew_; clear hg_ hnew_; (first | rw [← Ny282.out] at ho133 | (simp only [Int.reduceToNat] at ho133; rw [← Ny282.out] at ho133)); replace HO_214001 := am_ (Kd.S_elder' au2_6 (Kd.R_base ho133) hb); have HO284 := am_ (Kd.R_lower ho133 (keep_size (w := w) (g := g) (row := none) au2_0)); replace BK200 := bb_ BK200 hb; replace BK205 := bb_ BK205 hb; replace BK213 := bb_ BK213 hb; replace HK := am_ (KeepBut.trans au2_0 (KeepBut.of_below hb g none) (.inl rfl)); replace HB := am_ (below_step au2_3 hb); replace HI0 := am_ (IsS116.below is2_0_ hb); clear hb ho133; obtain ⟨Ao134, co134, eo134⟩ := Kd.R_slice HO284.out; subst eo134) | (go_at_call 102; (with_reducible refine (F102.calls g s0_0 t279 t280 t281 _ _ y282 t285 t286 t287 t288 w0 _ ?s1 ?s2 ?s3 ?s4 ?s5 A129.out).mono ?_); (case s1 => exact au2_1); (case s2 => exact au2_2); (case s3 => repeat (first | exact (Kd.R_reads' HO284.out).2.2 | (with_reducible refine Kd.C_alloc ?_ _) | (with_reducible refine Kd.C_drewN ?_ _) | (with_reducible refine Kd.C_drew ?_))); (case s4 => exact (Kd.R_reads' HO284.out).2.1); (case s5 => exact far_slice (IsS116.own_ne HI0.out HO284.out (by decide))); rintro e w135 ⟨rfl, hi, hb, hk⟩; (try clear A129); replace HO_214001 := am_ (Kd.S_mono (Kd.S_keep (IsS116.apartS (is2_0_ : IsS116 w0 _ g s0_0 t279 t280 t281) au2_6 (by decide)) hk (fun _ h => h.2)) (fun _ h => h.1)); replace BK200 := ka_ hk BK200 NB200_0; replace BK205 := ka_ hk BK205 NB205_0; replace BK213 := ka_ hk BK213 NB213_0; replace HO284 := am_ (Kd.R_mono (Kd.R_keep (IsS116.apart (is2_0_ : IsS116 w0 _ g s0_0 t279 t280 t281) (rk_ HO284) (by decide)) hk (fun _ h => h.2)) (fun _ h => h.1)); replace HK := am_ (KeepBut.trans au2_0 hk (.inl rfl)); replace HB := am_ (hb); replace HI0 := am_ (hi); (try clear hb); (try clear hb2); (try clear hk); (try clear hi); have hnb136 := NB213_200.out; have hnc136 := NB200_213.out; have hnb137 := NB213_205.out; have hnc137 := NB205_213.out; have hnb138 := NB213_0.out; have hnc138 := NB0_213.out; obtain ⟨hcz139_0, hcz139_1, hfz139_0, hfz139_1⟩ := cellsF2 BK213.out; have hnb140 := NB200_205.out; have hnc140 := NB205_200.out; have hnb141 := NB200_0.out; have hnc141 := NB0_200.out; obtain ⟨hcz142_0, hcz142_1, hfz142_0, hfz142_1⟩ := cellsF2 BK200.out; obtain ⟨Ao143, co143, eo143⟩ := Kd.S_slice HO_214001.out; subst eo143))
        refine bodyPost_ret (results_cell_row rfl _ _ gb200 88 #[.string t285, .slice Ao143 x214001_87.length co143] (0, 0) _ rfl (bq_ BK200) Try.underlying88 rfl (by kernel_rfl)) rfl ?_
        exact ⟨_, au2_23, by (with_reducible repeat (first | apply Kd.S_alloc | apply Kd.S_drewN | apply Kd.S_drew)); exact Kd.S_mono (Kd.S_far (p := ⟨gb200, 1, none⟩) (Kd.S_far (p := ⟨gb200, 0, none⟩) (Kd.S_far (p := ⟨gb213, 0, none⟩) (Kd.S_types (Kd.S_types HO_214001.out BK213.out (by decide)) BK200.out (by decide)) (fun _ hk => hk.1.2) (.string t285)) (fun _ hk => hk.2) (.string t285)) (fun _ hk => hk.2) (.slice Ao143 x214001_87.length co143)) (fun _ hk => trivial), is2_0_, au2_7, au2_8⟩
       rw [if_neg c128] at H
       have c128b0 : (t278 == 0) = false := beq_eq_false_iff_ne.mpr c128
       have c128b1 : (t278 != 0) = true := bne_iff_ne.mpr c128
       by_cases c144 : t278 = 1
       ·rw [if_pos c144] at H
        have c144b0 : (t278 == 1) = true := beq_iff_eq.mpr c144
        have c144b1 : (t278 != 1) = false := bne_eq_false_iff_eq.mpr c144
        clear c144
        replace H := iln_ H; rcases H with ⟨LMc145, H⟩
        obtain ⟨y289, hy289⟩ : ∃ y_ : List (S122), y_ = (x214001_87 ++ [(⟨([] : List ByteArray)⟩ : S122)]) := ⟨_, rfl⟩
        replace H : (some (t209, y289, t279, t280, t281)) = some (r1, r2, r3, r4, r5) := by first | (rw [hy289]; exact H) | exact H
        have Ny289 := am_ hy289
        clear hy289
        simp only [Option.some.injEq, Prod.mk.injEq] at H
        obtain ⟨rfl, rfl, rfl, rfl, rfl⟩ := H
        go_wp2_with (first | (go_at_call 72; (with_reducible refine (F72.calls g s0_0 x1001_87 x1002_87 x1003_87 20 true t275 t276 t277 w0 _ ?s1 ?s2 A125.out).mono ?_); (case s1 => exact au2_1); (case s2 => exact au2_2); rintro e w146 ⟨rfl, hi, hb, hk⟩; (try clear A125); replace HO_214001 := am_ (Kd.S_mono (Kd.S_keep (IsS116.apartS (is2_0_ : IsS116 w0 _ g s0_0 x1001_87 x1002_87 x1003_87) au2_6 (by decide)) hk (fun _ h => h.2)) (fun _ h => h.1)); replace BK200 := ka_ hk BK200 NB200_0; replace BK205 := ka_ hk BK205 NB205_0; replace BK213 := ka_ hk BK213 NB213_0; replace HK := am_ (KeepBut.trans au2_0 hk (.inl rfl)); replace HB := am_ (hb); replace HI0 := am_ (hi); (try clear hb); (try clear hb2); (try clear hk); (try clear hi)) | (go_at_call 73; (with_reducible refine (F73.calls g s0_0 t275 t276 t277 3 t278 t279 t280 t281 w0 _ ?s1 ?s2 A127.out).mono ?_); (case s1 => exact au2_1); (case s2 => exact au2_2); rintro e w147 ⟨rfl, hi, hb, hk⟩; (try clear A127); replace HO_214001 := am_ (Kd.S_mono (Kd.S_keep (IsS116.apartS (is2_0_ : IsS116 w0 _ g s0_0 t275 t276 t277) au2_6 (by decide)) hk (fun _ h => h.2)) (fun _ h => h.1)); replace BK200 := ka_ hk BK200 NB200_0; replace BK205 := ka_ hk BK205 NB205_0; replace BK213 := ka_ hk BK213 NB213_0; replace HK := am_ (KeepBut.trans au2_0 hk (.inl rfl)); replace HB := am_ (hb); replace HI0 := am_ (hi); (try clear hb); (try clear hb2); (try clear hk); (try clear hi); have hnb148 := NB213_200.out; have hnc148 := NB200_213.out; have hnb149 := NB213_205.out; have hnc149 := NB205_213.out; have hnb150 := NB213_0.out; have hnc150 := NB0_213.out; obtain ⟨hcz151_0, hcz151_1, hfz151_0, hfz151_1⟩ := cellsF2 BK213.out) | ((with_reducible refine gate_builtin (b := .append) (xs := #[.tmp 116, .tmp 118]) rfl ?_); (try (refine gate_guard (by rfl) ?_; dsimp only)); at_builtin; refine Kd.S_append k122 w.heap.size rfl (.tmp 116) (.tmp 118) 86 122 (.agg #[(.slice none 0 0)]) 24 rfl Try.underlying86 info122 rfl (by decide) (by omega) u214001 x214001_87 (⟨([] : List ByteArray)⟩ : S122) [.slice none 0 0] (fun _ => True) (fun _ => False) rfl rfl ?aP (fun k_ hk_ => hk_.elim) ?aF ?aO (Below.refl _ _) ?aS ?aL ?_; (case aP => exact k122_mkM _ _ _ (⟨([] : List ByteArray)⟩ : S122) (Kd.R_nil _ _ _ _ _)); (case aF => exact (fun _ _ => trivial)); (case aO => exact (by (with_reducible repeat (first | apply Kd.S_alloc | apply Kd.S_drewN | apply Kd.S_drew)); exact Kd.S_mono HO_214001.out (fun k_ hk => ⟨trivial, fun e_ => e_⟩))); (case aS => exact (keep_size (w := w) (g := g) (row := none) au2_0)); (case aL => have := LMc145.out; omega); intro v290 w152 ho hb hg hat; rw [← Ny289.out] at ho; have n0_ := am_ (bg_ BK200 hg (Kd.S_ne HO_214001.out BK200.out (by decide))); have n1_ := am_ (bg_ BK205 hg (Kd.S_ne HO_214001.out BK205.out (by decide))); have n2_ := am_ (bg_ BK213 hg (Kd.S_ne HO_214001.out BK213.out (by decide))); have n3_ := am_ (IsS116.grown is2_0_ hg (IsS116.own_neS HI0.out HO_214001.out (by decide))); have n4_ := am_ (below_weaken au2_3 HL.out hb); have n5_ := am_ (KeepBut.trans au2_0 (KeepBut.of_grown hg g) (Kd.S_base2 HO_214001.out)); have n6_ := am_ (ho); clear BK200; clear BK205; clear BK213; clear HI0; clear HB; clear HK; clear HO_214001; have BK200 := n0_; have BK205 := n1_; have BK213 := n2_; have HI0 := n3_; have HB := n4_; have HK := n5_; have HO291 := n6_; clear n0_ n1_ n2_ n3_ n4_ n5_ n6_; clear ho hb hg hat; obtain ⟨Ao153, co153, eo153⟩ := Kd.S_slice HO291.out; subst eo153; obtain ⟨hcz154_0, hcz154_1, hfz154_0, hfz154_1⟩ := cellsF2 BK213.out; have hnb155 := NB200_205.out; have hnc155 := NB205_200.out; have hnb156 := NB200_0.out; have hnc156 := NB0_200.out; obtain ⟨hcz157_0, hcz157_1, hfz157_0, hfz157_1⟩ := cellsF2 BK200.out))
        refine bodyPost_ret (results_cell_row rfl _ _ gb200 88 #[.string t209, .slice Ao153 y289.length co153] (0, 0) _ rfl (bq_ BK200) Try.underlying88 rfl (by kernel_rfl)) rfl ?_
        exact ⟨_, au2_23, by (with_reducible repeat (first | apply Kd.S_alloc | apply Kd.S_drewN | apply Kd.S_drew)); exact Kd.S_mono (Kd.S_far (p := ⟨gb200, 1, none⟩) (Kd.S_far (p := ⟨gb200, 0, none⟩) (Kd.S_far (p := ⟨gb213, 1, none⟩) (Kd.S_types (Kd.S_types HO291.out BK213.out (by decide)) BK200.out (by decide)) (fun _ hk => hk.1.2) (.slice Ao153 y289.length co153)) (fun _ hk => hk.2) (.string t209)) (fun _ hk => hk.2) (.slice Ao153 y289.length co153)) (fun _ hk => trivial), is2_0_, au2_7, au2_8⟩
       rw [if_neg c144] at H
       have c144b0 : (t278 == 1) = false := beq_eq_false_iff_ne.mpr c144
       have c144b1 : (t278 != 1) = true := bne_iff_ne.mpr c144
       obtain ⟨y292, hy292⟩ : ∃ y_ : List ByteArray, y_ = (([(⟨#[10]⟩ : ByteArray), (⟨#[255]⟩ : ByteArray), (⟨#[97]⟩ : ByteArray)] : List ByteArray)) := ⟨_, rfl⟩
       replace H : ((F102.f s0_0 t279 t280 t281 y292).bind fun bt295 => ((F102.f s0_0 bt295.2.1 bt295.2.2.1 bt295.2.2.2 (([(⟨#[]⟩ : ByteArray), (⟨#[98]⟩ : ByteArray)] : List ByteArray))).bind fun bt302 => (if x214001_87.length < 5864062014805 then (some (t209, (x214001_87 ++ [(⟨(([bt295.1, bt302.1] : List ByteArray))⟩ : S122)]), bt302.2.1, bt302.2.2.1, bt302.2.2.2)) else (none)))) = some (r1, r2, r3, r4, r5) := by first | (rw [hy292]; exact H) | exact H
       have Ny292 := am_ hy292
       clear hy292
       replace H := bi_ H; rcases H with ⟨⟨t295, t296, t297, t298⟩, A158, H⟩
       obtain ⟨y299, hy299⟩ : ∃ y_ : List ByteArray, y_ = (([(⟨#[]⟩ : ByteArray), (⟨#[98]⟩ : ByteArray)] : List ByteArray)) := ⟨_, rfl⟩
       replace H : ((F102.f s0_0 t296 t297 t298 y299).bind fun bt302 => (if x214001_87.length < 5864062014805 then (some (t209, (x214001_87 ++ [(⟨(([t295, bt302.1] : List ByteArray))⟩ : S122)]), bt302.2.1, bt302.2.2.1, bt302.2.2.2)) else (none))) = some (r1, r2, r3, r4, r5) := by first | (rw [hy299]; exact H) | exact H
       have Ny299 := am_ hy299
       clear hy299
       replace H := bi_ H; rcases H with ⟨⟨t302, t303, t304, t305⟩, A159, H⟩
       obtain ⟨y306, hy306⟩ : ∃ y_ : List ByteArray, y_ = (([t295, t302] : List ByteArray)) := ⟨_, rfl⟩
       replace H : (if x214001_87.length < 5864062014805 then (some (t209, (x214001_87 ++ [(⟨y306⟩ : S122)]), t303, t304, t305)) else (none)) = some (r1, r2, r3, r4, r5) := by first | (rw [hy306]; exact H) | exact H
       have Ny306 := am_ hy306
       clear hy306
       replace H := iln_ H; rcases H with ⟨LMc160, H⟩
       obtain ⟨y309, hy309⟩ : ∃ y_ : List (S122), y_ = (x214001_87 ++ [(⟨y306⟩ : S122)]) := ⟨_, rfl⟩
       replace H : (some (t209, y309, t303, t304, t305)) = some (r1, r2, r3, r4, r5) := by first | (rw [hy309]; exact H) | exact H
       have Ny309 := am_ hy309
       clear hy309
       simp only [Option.some.injEq, Prod.mk.injEq] at H
       obtain ⟨rfl, rfl, rfl, rfl, rfl⟩ := H
       try go_wp2_with (first | (go_at_call 72; (with_reducible refine (F72.calls g s0_0 x1001_87 x1002_87 x1003_87 20 true t275 t276 t277 w0 _ ?s1 ?s2 A125.out).mono ?_); (case s1 => exact au2_1); (case s2 => exact au2_2); rintro e w161 ⟨rfl, hi, hb, hk⟩; (try clear A125); replace HO_214001 := am_ (Kd.S_mono (Kd.S_keep (IsS116.apartS (is2_0_ : IsS116 w0 _ g s0_0 x1001_87 x1002_87 x1003_87) au2_6 (by decide)) hk (fun _ h => h.2)) (fun _ h => h.1)); replace BK200 := ka_ hk BK200 NB200_0; replace BK205 := ka_ hk BK205 NB205_0; replace BK213 := ka_ hk BK213 NB213_0; replace HK := am_ (KeepBut.trans au2_0 hk (.inl rfl)); replace HB := am_ (hb); replace HI0 := am_ (hi); (try clear hb); (try clear hb2); (try clear hk); (try clear hi)) | (go_at_call 73; (with_reducible refine (F73.calls g s0_0 t275 t276 t277 3 t278 t279 t280 t281 w0 _ ?s1 ?s2 A127.out).mono ?_); (case s1 => exact au2_1); (case s2 => exact au2_2); rintro e w162 ⟨rfl, hi, hb, hk⟩; (try clear A127); replace HO_214001 := am_ (Kd.S_mono (Kd.S_keep (IsS116.apartS (is2_0_ : IsS116 w0 _ g s0_0 t275 t276 t277) au2_6 (by decide)) hk (fun _ h => h.2)) (fun _ h => h.1)); replace BK200 := ka_ hk BK200 NB200_0; replace BK205 := ka_ hk BK205 NB205_0; replace BK213 := ka_ hk BK213 NB213_0; replace HK := am_ (KeepBut.trans au2_0 hk (.inl rfl)); replace HB := am_ (hb); replace HI0 := am_ (hi); (try clear hb); (try clear hb2); (try clear hk); (try clear hi); obtain ⟨Ao163, co163, eo163⟩ := Kd.S_slice HO_214001.out; subst eo163))
       replace HO_214001 := am_ (Kd.S_drew HO_214001.out)
       replace BK200 := bd_ BK200
       replace BK205 := bd_ BK205
       replace BK213 := bd_ BK213
       replace HI0 := am_ (IsS116.drew HI0.out)
       replace HK := am_ (keep_drew HK.out)
       replace HB := am_ (below_drew1 HB.out)
       refine start_ (n := 14) (S := fun w' => w'.cell? ⟨gb213, 0, none⟩ = some (.string t209) ∧ w'.cell? ⟨gb213, 1, none⟩ = some (.slice Ao163 x214001_87.length co163)) (ds := [13]) (bs 14 0) (by kernel_rfl) rfl rfl ⟨(blk_cell BK213.out 0).trans rfl, (blk_cell BK213.out 1).trans rfl⟩ (fun hHeld => ?_); refine with_tabW F75.tab20 F75.bits20 (fun HT_ HW_ => ?_)
       generalize w162.drew = w164 at HO_214001 BK200 BK205 BK213 HI0 HK HB hHeld ⊢
       refine pu_ 0 94 (bs 14 1) HT_ ?_ rfl rfl
       refine pu_ 2 96 (bs 14 5) HT_ ?_ rfl rfl
       refine pu_ 5 99 (bs 14 37) HT_ ?_ rfl rfl
       refine tk_ 1 95 (bs 14 39) HT_ HW_ hHeld (by rintro w' ⟨s0, s1⟩; go_simp; with_reducible rfl) ?_ rfl rfl
       refine join_ (σ := Value × Value) 7 (bs 14 127) (fun s_ => [(97, s_.1), (98, .string t295), (100, s_.2)]) (fun s_ w' => (w'.cell? ⟨gb213, 0, none⟩ = some (.string t209) ∧ w'.cell? ⟨gb213, 1, none⟩ = some (.slice Ao163 x214001_87.length co163)) ∧ (Kd.R Kd.string 9 w' w.heap.size (fun k_ => some k_ ≠ (s_.2 : Value).ownBlock) s_.1 y292) ∧ (Kd.R Kd.string 9 w' w.heap.size (fun k_ => some k_ ≠ (s_.1 : Value).ownBlock) s_.2 y299) ∧ (Kd.S k122 122 w' w.heap.size (fun k_ => some k_ ≠ (s_.1 : Value).ownBlock ∧ some k_ ≠ (s_.2 : Value).ownBlock) (.slice Ao163 x214001_87.length co163) x214001_87) ∧ (w'.heap[gb200]? = some (.cells #[.string (⟨#[]⟩ : ByteArray), .slice none 0 0] 88 (0, 0))) ∧ (w'.heap[gb205]? = some (.cells #[.int .i64 t201, .int .i64 t202, .int .i64 t203, .int .i64 t204] 45 (0, 0))) ∧ (w'.heap[gb213]? = some (.cells #[.string t209, .slice Ao163 x214001_87.length co163] 88 (0, 0))) ∧ (IsS116 w0 w' g s0_0 t296 t297 t298) ∧ (KeepBut w w' g none) ∧ (Below w0.heap.size w0 w')) ?_ ?_
       rotate_left
       ·intro hCont
        refine two_ (i := 3) (j := 6) (Ni := some 97) (Nj := some 100) (bs 14 47) (bs 14 103) rfl rfl rfl rfl (two_of HT_.out (by kernel_rfl)) (by decide) (by decide) (fun K hK => ?_) (fun K hK => ?_)
        rotate_left
        ·skip
         refine Kd.R_lit_step Kd.string _ 9 ?hg (N := 100) ?hd (xs := ([(⟨#[]⟩ : ByteArray), (⟨#[98]⟩ : ByteArray)] : List ByteArray)) (inner := [.string (⟨#[]⟩ : ByteArray), .string (⟨#[98]⟩ : ByteArray)]) (ok := fun _ => True) (okp := fun _ => True) ?hr ?hp (fun _ hk => hk) trivial (Below.refl _ _) (Nat.le_refl _) (by simp) ?_; (case hd => rfl); (case hg => rfl); (case hr => exact hr_); (case hp => exact au2_25)
         intro v300 w165 ho166 hb hg_ hnew_
         clear hg_ hnew_
         (first | rw [← Ny299.out] at ho166 | (simp only [Int.reduceToNat] at ho166; rw [← Ny299.out] at ho166))
         replace HO_214001 := am_ (Kd.S_elder' au2_6 (Kd.R_base ho166) hb)
         have HO301 := am_ (Kd.R_lower ho166 (keep_size (w := w) (g := g) (row := none) au2_0))
         replace BK200 := bb_ BK200 hb
         replace BK205 := bb_ BK205 hb
         replace BK213 := bb_ BK213 hb
         replace HK := am_ (KeepBut.trans au2_0 (KeepBut.of_below hb g none) (.inl rfl))
         replace HB := am_ (below_step au2_3 hb)
         replace HI0 := am_ (IsS116.below is2_0_ hb)
         clear hb ho166
         refine hK.out _ _ ⟨(blk_cell BK213.out 0).trans rfl, (blk_cell BK213.out 1).trans rfl⟩ (fun hHeld => ?_)
         clear hK K
         refine no_ 100 ?_
         refine one_ (i := 3) (N := some 97) (bs 14 111) rfl rfl (one_of HT_.out (by kernel_rfl)) (by decide) (fun K hK => ?_)
         refine Kd.R_lit_step Kd.string _ 9 ?hg (N := 97) ?hd (xs := ([(⟨#[10]⟩ : ByteArray), (⟨#[255]⟩ : ByteArray), (⟨#[97]⟩ : ByteArray)] : List ByteArray)) (inner := [.string (⟨#[10]⟩ : ByteArray), .string (⟨#[255]⟩ : ByteArray), .string (⟨#[97]⟩ : ByteArray)]) (ok := fun _ => True) (okp := fun _ => True) ?hr ?hp (fun _ hk => hk) trivial (Below.refl _ _) (Nat.le_refl _) (by simp) ?_; (case hd => rfl); (case hg => rfl); (case hr => exact hr_); (case hp => exact au2_32)
         intro v293 w167 ho168 hb hg_ hnew_
         clear hg_ hnew_
         (first | rw [← Ny292.out] at ho168 | (simp only [Int.reduceToNat] at ho168; rw [← Ny292.out] at ho168))
         replace HO_214001 := am_ (Kd.S_elder' au2_6 (Kd.R_base ho168) hb)
         have HO294 := am_ (Kd.R_lower (Kd.R_new' ho168 (Kd.R_lt (rk_ HO301))) (keep_size (w := w) (g := g) (row := none) au2_0))
         replace HO301 := am_ (Kd.R_elder' (rk_ HO301) (Kd.R_base ho168) hb)
         replace BK200 := bb_ BK200 hb
         replace BK205 := bb_ BK205 hb
         replace BK213 := bb_ BK213 hb
         replace HK := am_ (KeepBut.trans au2_0 (KeepBut.of_below hb g none) (.inl rfl))
         replace HB := am_ (below_step au2_3 hb)
         replace HI0 := am_ (IsS116.below is2_0_ hb)
         clear hb ho168
         obtain ⟨Ao169, co169, eo169⟩ := Kd.R_slice HO294.out
         (first | subst eo169 | (injection eo169 with f1_ f2_ f3_; have f4_ := f1_.symm; have f5_ := f3_.symm; clear f1_ f2_ f3_; subst f4_; subst f5_))
         refine hK.out _ _ ⟨(blk_cell BK213.out 0).trans rfl, (blk_cell BK213.out 1).trans rfl⟩ (fun hHeld => ?_)
         clear hK K
         refine no_ 97 ?_
         refine one_ (i := 4) (N := some 98) (bs 14 127) rfl rfl (one_of HT_.out (by kernel_rfl)) (by decide) (fun K hK => ?_)
         refine gr_ Try.func102 #[.pointer (some ⟨g, 0, none⟩), .slice Ao169 y292.length co169] (by rfl) ?_ rfl rfl rfl
         with_reducible refine (F102.calls g s0_0 t279 t280 t281 _ _ y292 t295 t296 t297 t298 w0 _ ?s1 ?s2 ?s3 ?s4 ?s5 A158.out).mono ?_
         (case s1 => exact au2_1)
         (case s2 => exact au2_2)
         (case s3 => exact au2_31)
         (case s4 => exact (Kd.R_reads' HO294.out).2.1)
         (case s5 => exact au2_54)
         rintro e w170 ⟨rfl, hi, hb, hk⟩
         refine ⟨_, rfl, ?_⟩
         replace HO_214001 := am_ (Kd.S_mono (Kd.S_keep (IsS116.apartS (is2_0_ : IsS116 w0 _ g s0_0 t279 t280 t281) au2_6 (by decide)) hk (fun _ h => h.2)) (fun _ h => h.1))
         replace BK200 := ka_ hk BK200 NB200_0
         replace BK205 := ka_ hk BK205 NB205_0
         replace BK213 := ka_ hk BK213 NB213_0
         replace HO301 := am_ (Kd.R_mono (Kd.R_keep (IsS116.apart (is2_0_ : IsS116 w0 _ g s0_0 t279 t280 t281) (rk_ HO301) (by decide)) hk (fun _ h => h.2)) (fun _ h => h.1))
         replace HO294 := am_ (Kd.R_mono (Kd.R_keep (IsS116.apart (is2_0_ : IsS116 w0 _ g s0_0 t279 t280 t281) (rk_ HO294) (by decide)) hk (fun _ h => h.2)) (fun _ h => h.1))
         replace HK := am_ (KeepBut.trans au2_0 hk (.inl rfl))
         replace HB := am_ (hb)
         replace HI0 := am_ (hi)
         (try clear hb)
         (try clear hb2)
         (try clear hk)
         (try clear hi)
         refine hK.out _ _ ⟨(blk_cell BK213.out 0).trans rfl, (blk_cell BK213.out 1).trans rfl⟩ (fun hHeld => ?_)
         clear hK K
         refine no_ 98 ?_
         exact norm_ au2_47 (hCont (.slice Ao169 y292.length co169, v300) _ ⟨hHeld, au2_38, au2_39, (by (with_reducible repeat (first | apply Kd.S_alloc | apply Kd.S_drewN | apply Kd.S_drew)); exact Kd.S_mono HO_214001.out (fun _ hk => ⟨hk.2, hk.1.2⟩)), (bk_ BK200), (bk_ BK205), (bk_ BK213), is2_0_, au2_0, au2_3⟩)
        skip
        refine Kd.R_lit_step Kd.string _ 9 ?hg (N := 97) ?hd (xs := ([(⟨#[10]⟩ : ByteArray), (⟨#[255]⟩ : ByteArray), (⟨#[97]⟩ : ByteArray)] : List ByteArray)) (inner := [.string (⟨#[10]⟩ : ByteArray), .string (⟨#[255]⟩ : ByteArray), .string (⟨#[97]⟩ : ByteArray)]) (ok := fun _ => True) (okp := fun _ => True) ?hr ?hp (fun _ hk => hk) trivial (Below.refl _ _) (Nat.le_refl _) (by simp) ?_; (case hd => rfl); (case hg => rfl); (case hr => exact hr_); (case hp => exact au2_32)
        intro v293 w165 ho166 hb hg_ hnew_
        clear hg_ hnew_
        (first | rw [← Ny292.out] at ho166 | (simp only [Int.reduceToNat] at ho166; rw [← Ny292.out] at ho166))
        replace HO_214001 := am_ (Kd.S_elder' au2_6 (Kd.R_base ho166) hb)
        have HO294 := am_ (Kd.R_lower ho166 (keep_size (w := w) (g := g) (row := none) au2_0))
        replace BK200 := bb_ BK200 hb
        replace BK205 := bb_ BK205 hb
        replace BK213 := bb_ BK213 hb
        replace HK := am_ (KeepBut.trans au2_0 (KeepBut.of_below hb g none) (.inl rfl))
        replace HB := am_ (below_step au2_3 hb)
        replace HI0 := am_ (IsS116.below is2_0_ hb)
        clear hb ho166
        obtain ⟨Ao167, co167, eo167⟩ := Kd.R_slice HO294.out
        (first | subst eo167 | (injection eo167 with f1_ f2_ f3_; have f4_ := f1_.symm; have f5_ := f3_.symm; clear f1_ f2_ f3_; subst f4_; subst f5_))
        refine hK.out _ _ ⟨(blk_cell BK213.out 0).trans rfl, (blk_cell BK213.out 1).trans rfl⟩ (fun hHeld => ?_)
        clear hK K
        refine no_ 97 ?_
        refine two_ (i := 4) (j := 6) (Ni := some 98) (Nj := some 100) (bs 14 63) (bs 14 111) rfl rfl rfl rfl (two_of HT_.out (by kernel_rfl)) (by decide) (by decide) (fun K hK => ?_) (fun K hK => ?_)
        ·skip
         refine gr_ Try.func102 #[.pointer (some ⟨g, 0, none⟩), .slice Ao167 y292.length co167] (by rfl) ?_ rfl rfl rfl
         with_reducible refine (F102.calls g s0_0 t279 t280 t281 _ _ y292 t295 t296 t297 t298 w0 _ ?s1 ?s2 ?s3 ?s4 ?s5 A158.out).mono ?_
         (case s1 => exact au2_1)
         (case s2 => exact au2_2)
         (case s3 => exact au2_31)
         (case s4 => exact (Kd.R_reads' HO294.out).2.1)
         (case s5 => exact au2_54)
         rintro e w168 ⟨rfl, hi, hb, hk⟩
         refine ⟨_, rfl, ?_⟩
         replace HO_214001 := am_ (Kd.S_mono (Kd.S_keep (IsS116.apartS (is2_0_ : IsS116 w0 _ g s0_0 t279 t280 t281) au2_6 (by decide)) hk (fun _ h => h.2)) (fun _ h => h.1))
         replace BK200 := ka_ hk BK200 NB200_0
         replace BK205 := ka_ hk BK205 NB205_0
         replace BK213 := ka_ hk BK213 NB213_0
         replace HO294 := am_ (Kd.R_mono (Kd.R_keep (IsS116.apart (is2_0_ : IsS116 w0 _ g s0_0 t279 t280 t281) (rk_ HO294) (by decide)) hk (fun _ h => h.2)) (fun _ h => h.1))
         replace HK := am_ (KeepBut.trans au2_0 hk (.inl rfl))
         replace HB := am_ (hb)
         replace HI0 := am_ (hi)
         (try clear hb)
         (try clear hb2)
         (try clear hk)
         (try clear hi)
         refine hK.out _ _ ⟨(blk_cell BK213.out 0).trans rfl, (blk_cell BK213.out 1).trans rfl⟩ (fun hHeld => ?_)
         clear hK K
         refine no_ 98 ?_
         refine one_ (i := 6) (N := some 100) (bs 14 127) rfl rfl (one_of HT_.out (by kernel_rfl)) (by decide) (fun K hK => ?_)
         refine Kd.R_lit_step Kd.string _ 9 ?hg (N := 100) ?hd (xs := ([(⟨#[]⟩ : ByteArray), (⟨#[98]⟩ : ByteArray)] : List ByteArray)) (inner := [.string (⟨#[]⟩ : ByteArray), .string (⟨#[98]⟩ : ByteArray)]) (ok := fun _ => True) (okp := fun _ => True) ?hr ?hp (fun _ hk => hk) trivial (Below.refl _ _) (Nat.le_refl _) (by simp) ?_; (case hd => rfl); (case hg => rfl); (case hr => exact hr_); (case hp => exact au2_25)
         intro v300 w169 ho170 hb hg_ hnew_
         clear hg_ hnew_
         (first | rw [← Ny299.out] at ho170 | (simp only [Int.reduceToNat] at ho170; rw [← Ny299.out] at ho170))
         replace HO_214001 := am_ (Kd.S_elder' au2_6 (Kd.R_base ho170) hb)
         have HO301 := am_ (Kd.R_lower (Kd.R_new' ho170 (Kd.R_lt (rk_ HO294))) (keep_size (w := w) (g := g) (row := none) au2_0))
         replace HO294 := am_ (Kd.R_elder' (rk_ HO294) (Kd.R_base ho170) hb)
         replace BK200 := bb_ BK200 hb
         replace BK205 := bb_ BK205 hb
         replace BK213 := bb_ BK213 hb
         replace HK := am_ (KeepBut.trans au2_0 (KeepBut.of_below hb g none) (.inl rfl))
         replace HB := am_ (below_step au2_3 hb)
         replace HI0 := am_ (IsS116.below is2_0_ hb)
         clear hb ho170
         refine hK.out _ _ ⟨(blk_cell BK213.out 0).trans rfl, (blk_cell BK213.out 1).trans rfl⟩ (fun hHeld => ?_)
         clear hK K
         refine no_ 100 ?_
         exact norm_ au2_47 (hCont (.slice Ao167 y292.length co167, v300) _ ⟨hHeld, au2_38, au2_39, au2_52, (bk_ BK200), (bk_ BK205), (bk_ BK213), is2_0_, au2_0, au2_3⟩)
        skip
        refine Kd.R_lit_step Kd.string _ 9 ?hg (N := 100) ?hd (xs := ([(⟨#[]⟩ : ByteArray), (⟨#[98]⟩ : ByteArray)] : List ByteArray)) (inner := [.string (⟨#[]⟩ : ByteArray), .string (⟨#[98]⟩ : ByteArray)]) (ok := fun _ => True) (okp := fun _ => True) ?hr ?hp (fun _ hk => hk) trivial (Below.refl _ _) (Nat.le_refl _) (by simp) ?_; (case hd => rfl); (case hg => rfl); (case hr => exact hr_); (case hp => exact au2_25)
        intro v300 w167 ho168 hb hg_ hnew_
        clear hg_ hnew_
        (first | rw [← Ny299.out] at ho168 | (simp only [Int.reduceToNat] at ho168; rw [← Ny299.out] at ho168))
        replace HO_214001 := am_ (Kd.S_elder' au2_6 (Kd.R_base ho168) hb)
        have HO301 := am_ (Kd.R_lower (Kd.R_new' ho168 (Kd.R_lt (rk_ HO294))) (keep_size (w := w) (g := g) (row := none) au2_0))
        replace HO294 := am_ (Kd.R_elder' (rk_ HO294) (Kd.R_base ho168) hb)
        replace BK200 := bb_ BK200 hb
        replace BK205 := bb_ BK205 hb
        replace BK213 := bb_ BK213 hb
        replace HK := am_ (KeepBut.trans au2_0 (KeepBut.of_below hb g none) (.inl rfl))
        replace HB := am_ (below_step au2_3 hb)
        replace HI0 := am_ (IsS116.below is2_0_ hb)
        clear hb ho168
        obtain ⟨Ao169, co169, eo169⟩ := Kd.R_slice HO294.out
        (first | subst eo169 | (injection eo169 with f1_ f2_ f3_; have f4_ := f1_.symm; have f5_ := f3_.symm; clear f1_ f2_ f3_; subst f4_; subst f5_))
        refine hK.out _ _ ⟨(blk_cell BK213.out 0).trans rfl, (blk_cell BK213.out 1).trans rfl⟩ (fun hHeld => ?_)
        clear hK K
        refine no_ 100 ?_
        refine one_ (i := 4) (N := some 98) (bs 14 127) rfl rfl (one_of HT_.out (by kernel_rfl)) (by decide) (fun K hK => ?_)
        refine gr_ Try.func102 #[.pointer (some ⟨g, 0, none⟩), .slice Ao169 y292.length co169] (by rfl) ?_ rfl rfl rfl
        with_reducible refine (F102.calls g s0_0 t279 t280 t281 _ _ y292 t295 t296 t297 t298 w0 _ ?s1 ?s2 ?s3 ?s4 ?s5 A158.out).mono ?_
        (case s1 => exact au2_1)
        (case s2 => exact au2_2)
        (case s3 => exact au2_31)
        (case s4 => exact (Kd.R_reads' HO294.out).2.1)
        (case s5 => exact au2_54)
        rintro e w170 ⟨rfl, hi, hb, hk⟩
        refine ⟨_, rfl, ?_⟩
        replace HO_214001 := am_ (Kd.S_mono (Kd.S_keep (IsS116.apartS (is2_0_ : IsS116 w0 _ g s0_0 t279 t280 t281) au2_6 (by decide)) hk (fun _ h => h.2)) (fun _ h => h.1))
        replace BK200 := ka_ hk BK200 NB200_0
        replace BK205 := ka_ hk BK205 NB205_0
        replace BK213 := ka_ hk BK213 NB213_0
        replace HO294 := am_ (Kd.R_mono (Kd.R_keep (IsS116.apart (is2_0_ : IsS116 w0 _ g s0_0 t279 t280 t281) (rk_ HO294) (by decide)) hk (fun _ h => h.2)) (fun _ h => h.1))
        replace HO301 := am_ (Kd.R_mono (Kd.R_keep (IsS116.apart (is2_0_ : IsS116 w0 _ g s0_0 t279 t280 t281) (rk_ HO301) (by decide)) hk (fun _ h => h.2)) (fun _ h => h.1))
        replace HK := am_ (KeepBut.trans au2_0 hk (.inl rfl))
        replace HB := am_ (hb)
        replace HI0 := am_ (hi)
        (try clear hb)
        (try clear hb2)
        (try clear hk)
        (try clear hi)
        refine hK.out _ _ ⟨(blk_cell BK213.out 0).trans rfl, (blk_cell BK213.out 1).trans rfl⟩ (fun hHeld => ?_)
        clear hK K
        refine no_ 98 ?_
        exact norm_ au2_47 (hCont (.slice Ao169 y292.length co169, v300) _ ⟨hHeld, au2_38, au2_39, au2_52, (bk_ BK200), (bk_ BK205), (bk_ BK213), is2_0_, au2_0, au2_3⟩)
       rintro ⟨v293, v300⟩ w171 ⟨hS_, h0_, h1_, h2_, h3_, h4_, h5_, h6_, h7_, h8_⟩
       have n0_ : Aside0 (Kd.R Kd.string 9 w171 w.heap.size (fun k_ => some k_ ≠ (v300 : Value).ownBlock) v293 y292) := ⟨h0_⟩
       have n1_ : Aside0 (Kd.R Kd.string 9 w171 w.heap.size (fun k_ => some k_ ≠ (v293 : Value).ownBlock) v300 y299) := ⟨h1_⟩
       have n2_ : Aside0 (Kd.S k122 122 w171 w.heap.size (fun k_ => some k_ ≠ (v293 : Value).ownBlock ∧ some k_ ≠ (v300 : Value).ownBlock) (.slice Ao163 x214001_87.length co163) x214001_87) := ⟨h2_⟩
       have n3_ : Aside0 (w171.heap[gb200]? = some (.cells #[.string (⟨#[]⟩ : ByteArray), .slice none 0 0] 88 (0, 0))) := ⟨h3_⟩
       have n4_ : Aside0 (w171.heap[gb205]? = some (.cells #[.int .i64 t201, .int .i64 t202, .int .i64 t203, .int .i64 t204] 45 (0, 0))) := ⟨h4_⟩
       have n5_ : Aside0 (w171.heap[gb213]? = some (.cells #[.string t209, .slice Ao163 x214001_87.length co163] 88 (0, 0))) := ⟨h5_⟩
       have n6_ : Aside0 (IsS116 w0 w171 g s0_0 t296 t297 t298) := ⟨h6_⟩
       have n7_ : Aside0 (KeepBut w w171 g none) := ⟨h7_⟩
       have n8_ : Aside0 (Below w0.heap.size w0 w171) := ⟨h8_⟩
       clear HO_214001
       clear BK200
       clear BK205
       clear BK213
       clear HI0
       clear HK
       clear HB
       clear h0_ h1_ h2_ h3_ h4_ h5_ h6_ h7_ h8_
       have HO294 := n0_
       have HO301 := n1_
       have HO_214001 := n2_
       have BK200 := n3_
       have BK205 := n4_
       have BK213 := n5_
       have HI0 := n6_
       have HK := n7_
       have HB := n8_
       clear n0_ n1_ n2_ n3_ n4_ n5_ n6_ n7_ n8_
       have hHeld : w171.cell? ⟨gb213, 0, none⟩ = some (.string t209) ∧ w171.cell? ⟨gb213, 1, none⟩ = some (.slice Ao163 x214001_87.length co163) := hS_
       obtain ⟨Ao172, co172, eo172⟩ := Kd.R_slice HO301.out
       (first | subst eo172 | (injection eo172 with f1_ f2_ f3_; have f4_ := f1_.symm; have f5_ := f3_.symm; clear f1_ f2_ f3_; subst f4_; subst f5_))
       refine norm_ (a' := ?_) ?_ ?_
       rotate_left
       ·simp only [putAll, Act.put, List.setIfInBounds_toArray, List.set_cons_zero, List.set_cons_succ]
        rfl
       refine one_ (i := 7) (N := some 101) (bs 14 255) rfl rfl (one_of HT_.out (by kernel_rfl)) (by decide) (fun K hK => ?_)
       refine gr_ Try.func102 #[.pointer (some ⟨g, 0, none⟩), .slice Ao172 y299.length co172] (by rfl) ?_ rfl rfl rfl
       with_reducible refine (F102.calls g s0_0 t296 t297 t298 _ _ y299 t302 t303 t304 t305 w0 _ ?s1 ?s2 ?s3 ?s4 ?s5 A159.out).mono ?_
       (case s1 => exact au2_1)
       (case s2 => exact au2_2)
       (case s3 => repeat (first | exact (Kd.R_reads' HO301.out).2.2 | (with_reducible refine Kd.C_alloc ?_ _) | (with_reducible refine Kd.C_drewN ?_ _) | (with_reducible refine Kd.C_drew ?_)))
       (case s4 => exact (Kd.R_reads' HO301.out).2.1)
       (case s5 => exact far_slice (IsS116.own_ne HI0.out HO301.out (by decide)))
       rintro e w173 ⟨rfl, hi, hb, hk⟩
       refine ⟨_, rfl, ?_⟩
       replace HO_214001 := am_ (Kd.S_mono (Kd.S_keep (IsS116.apartS (is2_0_ : IsS116 w0 _ g s0_0 t296 t297 t298) au2_6 (by decide)) hk (fun _ h => h.2)) (fun _ h => h.1))
       replace BK200 := ka_ hk BK200 NB200_0
       replace BK205 := ka_ hk BK205 NB205_0
       replace BK213 := ka_ hk BK213 NB213_0
       replace HO294 := am_ (Kd.R_mono (Kd.R_keep (IsS116.apart (is2_0_ : IsS116 w0 _ g s0_0 t296 t297 t298) (rk_ HO294) (by decide)) hk (fun _ h => h.2)) (fun _ h => h.1))
       replace HO301 := am_ (Kd.R_mono (Kd.R_keep (IsS116.apart (is2_0_ : IsS116 w0 _ g s0_0 t296 t297 t298) (rk_ HO301) (by decide)) hk (fun _ h => h.2)) (fun _ h => h.1))
       replace HK := am_ (KeepBut.trans au2_0 hk (.inl rfl))
       replace HB := am_ (hb)
       replace HI0 := am_ (hi)
       (try clear hb)
       (try clear hb2)
       (try clear hk)
       (try clear hi)
       refine hK.out _ _ ⟨(blk_cell BK213.out 0).trans rfl, (blk_cell BK213.out 1).trans rfl⟩ (fun hHeld => ?_)
       clear hK K
       refine no_ 101 ?_
       refine one_ (i := 8) (N := some 102) (bs 14 511) rfl rfl (one_of HT_.out (by kernel_rfl)) (by decide) (fun K hK => ?_)
       refine Kd.R_lit_step Kd.string _ 9 ?hg (N := 102) ?hd (xs := ([t295, t302] : List ByteArray)) (inner := [.string t295, .string t302]) (ok := fun _ => True) (okp := fun _ => True) ?hr ?hp (fun _ hk => hk) trivial (Below.refl _ _) (Nat.le_refl _) (by simp) ?_; (case hd => rfl); (case hg => rfl); (case hr => exact hr_); (case hp => exact (Reps.one (show Kd.M Kd.string _ _ _ t295 [.string t295] from rfl) (Reps.one (show Kd.M Kd.string _ _ _ t302 [.string t302] from rfl) (Reps.none _ _))))
       intro v307 w174 ho175 hb hg_ hnew_
       clear hg_ hnew_
       (first | rw [← Ny306.out] at ho175 | (simp only [Int.reduceToNat] at ho175; rw [← Ny306.out] at ho175))
       replace HO_214001 := am_ (Kd.S_elder' au2_6 (Kd.R_base ho175) hb)
       have HO308 := am_ (Kd.R_lower (Kd.R_new' (Kd.R_new' ho175 (Kd.R_lt (rk_ HO294))) (Kd.R_lt (rk_ HO301))) (keep_size (w := w) (g := g) (row := none) au2_0))
       replace HO294 := am_ (Kd.R_elder' (rk_ HO294) (Kd.R_base ho175) hb)
       replace HO301 := am_ (Kd.R_elder' (rk_ HO301) (Kd.R_base ho175) hb)
       replace BK200 := bb_ BK200 hb
       replace BK205 := bb_ BK205 hb
       replace BK213 := bb_ BK213 hb
       replace HK := am_ (KeepBut.trans au2_0 (KeepBut.of_below hb g none) (.inl rfl))
       replace HB := am_ (below_step au2_3 hb)
       replace HI0 := am_ (IsS116.below is2_0_ hb)
       clear hb ho175
       obtain ⟨Ao176, co176, eo176⟩ := Kd.R_slice HO308.out
       (first | subst eo176 | (injection eo176 with f1_ f2_ f3_; have f4_ := f1_.symm; have f5_ := f3_.symm; clear f1_ f2_ f3_; subst f4_; subst f5_))
       refine hK.out _ _ ⟨(blk_cell BK213.out 0).trans rfl, (blk_cell BK213.out 1).trans rfl⟩ (fun hHeld => ?_)
       clear hK K
       refine no_ 102 ?_
       refine pu_ 9 103 (bs 14 1023) HT_ ?_ rfl rfl
       refine one_ (i := 10) (N := some 104) (bs 14 2047) rfl rfl (one_of HT_.out (by kernel_rfl)) (by decide) (fun K hK => ?_)
       refine value_ (w1 := ?_) (v := ?_) (by rfl) rfl ?_ ?_
       rotate_left 2
       ·go_simp
        constructor
        ·rfl
        ·rfl
       refine hK.out _ _ ⟨(blk_cell (blk_alloc BK213.out _) 0).trans rfl, (blk_cell (blk_alloc BK213.out _) 1).trans rfl⟩ (fun hHeld => ?_)
       clear hK K
       refine no_ 104 ?_
       refine one_ (i := 11) (N := some 105) (bs 14 4095) rfl rfl (one_of HT_.out (by kernel_rfl)) (by decide) (fun K hK => ?_)
       refine Kd.S_append_step k122 w.heap.size (by rfl) (.tmp 95) (.tmp 104) 86 122 (.agg #[(.slice none 0 0)]) 24 rfl Try.underlying86 info122 rfl (by decide) (by omega) (.slice Ao163 x214001_87.length co163) x214001_87 (⟨y306⟩ : S122) [.slice Ao176 y306.length co176] (fun k_ => some k_ ≠ (v293 : Value).ownBlock ∧ some k_ ≠ (.slice Ao172 y299.length co172 : Value).ownBlock) (fun k_ => some k_ = (.slice Ao176 y306.length co176 : Value).ownBlock) rfl rfl ?aP (fun k_ hk_ => ((Kd.R_mono (ok' := fun k_ => ((fun k_ => some k_ ≠ (v293 : Value).ownBlock ∧ some k_ ≠ (.slice Ao172 y299.length co172 : Value).ownBlock)) k_ ∧ some k_ ≠ (.slice Ao163 x214001_87.length co163 : Value).ownBlock) (Kd.R_apart' (HO308.out) (Kd.S_typed HO_214001.out) (by decide)) (fun k_ hk => ⟨⟨hk.1.1.2, hk.1.2⟩, hk.2⟩))).1 k_ hk_.symm) ?aF ?aO (Below.refl _ _) ?aS ?aL ?_
       (case aP => exact k122_mkM _ _ _ (⟨y306⟩ : S122) (Kd.R_mono (Kd.R_tight rfl (Kd.R_mono (ok' := fun k_ => ((fun k_ => some k_ ≠ (v293 : Value).ownBlock ∧ some k_ ≠ (.slice Ao172 y299.length co172 : Value).ownBlock)) k_ ∧ some k_ ≠ (.slice Ao163 x214001_87.length co163 : Value).ownBlock) (Kd.R_apart' (HO308.out) (Kd.S_typed HO_214001.out) (by decide)) (fun k_ hk => ⟨⟨hk.1.1.2, hk.1.2⟩, hk.2⟩))) (fun _ h_ => h_)))
       (case aF => exact (fun k_ hk => ⟨Kd.fresh' (Kd.R_lt (rk_ HO294)) k_ hk, Kd.fresh' (Kd.R_lt (rk_ HO301)) k_ hk⟩))
       (case aO => exact (by (with_reducible repeat (first | apply Kd.S_alloc | apply Kd.S_drewN | apply Kd.S_drew)); exact Kd.S_mono HO_214001.out (fun k_ hk => ⟨⟨hk.1.1, hk.1.2⟩, fun e_ => hk.2 e_⟩)))
       (case aS => exact (keep_size (w := w) (g := g) (row := none) au2_0))
       (case aL => have := LMc160.out; omega)
       intro v310 w177 ho hb hg hat
       rw [← Ny309.out] at ho
       have n0_ := am_ (bg_ BK200 hg (Kd.S_ne HO_214001.out BK200.out (by decide)))
       have n1_ := am_ (bg_ BK205 hg (Kd.S_ne HO_214001.out BK205.out (by decide)))
       have n2_ := am_ (bg_ BK213 hg (Kd.S_ne HO_214001.out BK213.out (by decide)))
       have n3_ := am_ (IsS116.grown is2_0_ hg (IsS116.own_neS HI0.out HO_214001.out (by decide)))
       have n4_ := am_ (Kd.R_over' (rk_ HO294) (Kd.S_typed au2_6) (by decide) hg)
       have n5_ := am_ (Kd.R_over' (rk_ HO301) (Kd.S_typed au2_6) (by decide) hg)
       have n6_ := am_ (below_weaken au2_3 HL.out hb)
       have n7_ := am_ (KeepBut.trans au2_0 (KeepBut.of_grown hg g) (Kd.S_base2 HO_214001.out))
       have n8_ := am_ (ho)
       clear BK200
       clear BK205
       clear BK213
       clear HI0
       clear HO294
       clear HO301
       clear HB
       clear HK
       clear HO_214001
       clear HO308
       have BK200 := n0_
       have BK205 := n1_
       have BK213 := n2_
       have HI0 := n3_
       have HO294 := n4_
       have HO301 := n5_
       have HB := n6_
       have HK := n7_
       have HO311 := n8_
       clear n0_ n1_ n2_ n3_ n4_ n5_ n6_ n7_ n8_
       clear ho hb hg hat
       obtain ⟨Ao178, co178, eo178⟩ := Kd.S_slice HO311.out
       (first | subst eo178 | (injection eo178 with f1_ f2_ f3_; have f4_ := f1_.symm; have f5_ := f3_.symm; clear f1_ f2_ f3_; subst f4_; subst f5_))
       refine hK.out _ _ ⟨(blk_cell BK213.out 0).trans rfl, (blk_cell BK213.out 1).trans rfl⟩ (fun hHeld => ?_)
       clear hK K
       refine no_ 105 ?_
       refine pu_ 12 106 (bs 14 8191) HT_ ?_ rfl rfl
       refine last_ (i := 13) (N := none) (bs 14 16383) rfl rfl (one_of HT_.out (by kernel_rfl)) (by decide) (fun K hK => ?_)
       have hs179 : w177.cell? ⟨gb213, 1, none⟩ = some (.slice Ao163 x214001_87.length co163) := (blk_cell BK213.out 1).trans rfl
       have hfs179 := blk_frozen BK213.out 1
       have hns179_0 := NB200_213.out
       have hns179_1 := NB205_213.out
       have hms179_0 := NB213_200.out
       have hms179_1 := NB213_205.out
       refine skip_ (w1 := ?_) (by rfl) rfl ?_ ?_
       rotate_left
       ·go_simp
        rfl
       refine hK.out _ _ ?_
       clear hK K
       refine done_ (done_of HT_.out (by kernel_rfl)) ?_
       have hnb180 := NB213_200.out
       have hnc180 := NB200_213.out
       have hnb181 := NB213_205.out
       have hnc181 := NB205_213.out
       have hnb182 := NB213_0.out
       have hnc182 := NB0_213.out
       obtain ⟨hcz183_0, hcz183_1, hfz183_0, hfz183_1⟩ := cellsF2 BK213.out
       have hnb184 := NB200_205.out
       have hnc184 := NB205_200.out
       have hnb185 := NB200_0.out
       have hnc185 := NB0_200.out
       obtain ⟨hcz186_0, hcz186_1, hfz186_0, hfz186_1⟩ := cellsF2 BK200.out
       try go_wp2
       refine bodyPost_ret (results_cell_row rfl _ _ gb200 88 #[.string t209, .slice Ao178 y309.length co178] (0, 0) _ rfl (bq_ BK200) Try.underlying88 rfl (by kernel_rfl)) rfl ?_
       exact ⟨_, au2_23, by (with_reducible repeat (first | apply Kd.S_alloc | apply Kd.S_drewN | apply Kd.S_drew)); exact Kd.S_mono (Kd.S_far (p := ⟨gb200, 1, none⟩) (Kd.S_far (p := ⟨gb200, 0, none⟩) (Kd.S_far (p := ⟨gb213, 1, none⟩) (Kd.S_types (Kd.S_types HO311.out BK213.out (by decide)) BK200.out (by decide)) (fun _ hk => hk.1.2) (.slice Ao178 y309.length co178)) (fun _ hk => hk.2) (.string t209)) (fun _ hk => hk.2) (.slice Ao178 y309.length co178)) (fun _ hk => trivial), is2_0_, au2_7, au2_8⟩
/-! ### F42: function 42 -/
mutual
def F42.l0 : Nat → List (S88) → Int → List Int → Int → Int → Int → Option ((List (S88)) × Int × Int × Int)
  | 0, _, _, _, _, _, _ => none
  | k + 1, x3, x4, x1000, x1001, x1002, x1003 => if x4 > 0 then (if x3.length < 3518437208883 then (F42.l0 k (x3 ++ [(⟨(⟨#[65, 66, 67]⟩ : ByteArray), ([] : List (S122))⟩ : S88)]) (wrap64 (x4 - 1)) x1000 x1001 x1002 x1003) else (none)) else (some (x3, x1001, x1002, x1003))
def F42.l1 : Nat → List (S88) → Int → List Int → Int → Int → Int → Option ((List (S88)) × Int × Int × Int)
  | 0, _, _, _, _, _, _ => none
  | k + 1, x3, x4, x1000, x1001, x1002, x1003 => if x4 > 0 then ((F75.f k x1000 x1001 x1002 x1003).bind fun bt330 => ((F44.f k bt330.1 bt330.2.1).bind fun t338 => (if t338 = true then (if x3.length < 3518437208883 then (F42.l1 k (x3 ++ [(⟨bt330.1, bt330.2.1⟩ : S88)]) (wrap64 (x4 - 1)) x1000 bt330.2.2.1 bt330.2.2.2.1 bt330.2.2.2.2) else (none)) else ((F72.f x1000 bt330.2.2.1 bt330.2.2.2.1 bt330.2.2.2.2 30).bind fun bt342 => (if bt342.1 = true then (if x3.length < 3518437208883 then (F42.l1 k (x3 ++ [(⟨bt330.1, bt330.2.1⟩ : S88)]) (wrap64 (x4 - 1)) x1000 bt342.2.1 bt342.2.2.1 bt342.2.2.2) else (none)) else (F42.l1 k x3 (wrap64 (x4 - 1)) x1000 bt342.2.1 bt342.2.2.1 bt342.2.2.2)))))) else (some (x3, x1001, x1002, x1003))
end
def F42.f (k : Nat) (s0_0 : List Int) (s0_1 : Int) (s0_2 : Int) (s0_3 : Int) : Option ((List (S88)) × Int × Int × Int) := (some (([] : List (S88)) : List (S88))).bind fun y312 => ((F73.f s0_0 s0_1 s0_2 s0_3 (wrap64 (4 + s0_3))).bind fun bt315 => ((F72.f s0_0 bt315.2.1 bt315.2.2.1 bt315.2.2.2 60).bind fun bt319 => (if bt319.1 = true then ((F73.f s0_0 bt319.2.1 bt319.2.2.1 bt319.2.2.2 3).bind fun bt323 => (F42.l0 k y312 (wrap64 (199 + bt323.1)) s0_0 bt323.2.1 bt323.2.2.1 bt323.2.2.2)) else (F42.l1 k y312 bt315.1 s0_0 bt319.2.1 bt319.2.2.1 bt319.2.2.2))))
theorem F42.mono_l : ∀ k, (∀ y0 y1 y2 y3 y4 y5, LeO (F42.l0 k y0 y1 y2 y3 y4 y5) (F42.l0 (k + 1) y0 y1 y2 y3 y4 y5)) ∧ (∀ y0 y1 y2 y3 y4 y5, LeO (F42.l1 k y0 y1 y2 y3 y4 y5) (F42.l1 (k + 1) y0 y1 y2 y3 y4 y5))
 | 0 => ⟨fun _ _ _ _ _ _ r h => by simp [F42.l0] at h, fun _ _ _ _ _ _ r h => by simp [F42.l1] at h⟩
 | k + 1 => by
  obtain ⟨ih0, ih1⟩ := F42.mono_l k
  refine ⟨?_, ?_⟩
  rotate_left
  ·intro y0 y1 y2 y3 y4 y5
   unfold F42.l1
   repeat' with_reducible first | exact ih0 _ _ _ _ _ _ | exact ih1 _ _ _ _ _ _ | exact F44.mono _ _ _ | exact F75.mono _ _ _ _ _ | exact LeO.refl _ | exact LeO.none _ | refine LeO.ite ?_ ?_ | refine LeO.bind ?_ (fun _ => ?_)
  intro y0 y1 y2 y3 y4 y5
  unfold F42.l0
  repeat' with_reducible first | exact ih0 _ _ _ _ _ _ | exact ih1 _ _ _ _ _ _ | exact F44.mono _ _ _ | exact F75.mono _ _ _ _ _ | exact LeO.refl _ | exact LeO.none _ | refine LeO.ite ?_ ?_ | refine LeO.bind ?_ (fun _ => ?_)
theorem F42.mono : ∀ a0 a1 a2 a3 k, LeO (F42.f k a0 a1 a2 a3) (F42.f (k + 1) a0 a1 a2 a3) := by
 intro a0 a1 a2 a3 k
 obtain ⟨ih0, ih1⟩ := F42.mono_l k
 unfold F42.f
 repeat' with_reducible first | exact ih0 _ _ _ _ _ _ | exact ih1 _ _ _ _ _ _ | exact F44.mono _ _ _ | exact F75.mono _ _ _ _ _ | exact LeO.refl _ | exact LeO.none _ | refine LeO.ite ?_ ?_ | refine LeO.bind ?_ (fun _ => ?_)
theorem F42.calls (k : Nat) (g : Nat) (s0_0 : List Int) (s0_1 : Int) (s0_2 : Int) (s0_3 : Int) (r1 : List (S88)) (r2 : Int) (r3 : Int) (r4 : Int) (w0 w : World) (hI : IsS116 w0 w g s0_0 s0_1 s0_2 s0_3) (hB : Below w0.heap.size w0 w) (h : F42.f k s0_0 s0_1 s0_2 s0_3 = some (r1, r2, r3, r4)) :
  Calls Try.prog 42 #[.pointer (some ⟨g, 0, none⟩)] w fun e w' => ∃ v0_ : Value, e = .returned (v0_) ∧ Kd.R k88 88 w' w.heap.size (fun _ => True) v0_ r1 ∧ IsS116 w0 w' g s0_0 r2 r3 r4 ∧ Below w0.heap.size w0 w' ∧ KeepBut w w' g none := by
 have hu88 := Try.underlying88
 have HI0 := am_ hI
 have HK := am_ (KeepBut.refl w g none)
 have HL := am_ hB.size
 clear hI
 have HW0 := am_ hB.size
 have HB := am_ hB
 clear hB
 have H : ((some (([] : List (S88)) : List (S88))).bind fun y312 => ((F73.f s0_0 s0_1 s0_2 s0_3 (wrap64 (4 + s0_3))).bind fun bt315 => ((F72.f s0_0 bt315.2.1 bt315.2.2.1 bt315.2.2.2 60).bind fun bt319 => (if bt319.1 = true then ((F73.f s0_0 bt319.2.1 bt319.2.2.1 bt319.2.2.2 3).bind fun bt323 => (F42.l0 k y312 (wrap64 (199 + bt323.1)) s0_0 bt323.2.1 bt323.2.2.1 bt323.2.2.2)) else (F42.l1 k y312 bt315.1 s0_0 bt319.2.1 bt319.2.2.1 bt319.2.2.2))))) = some (r1, r2, r3, r4) := h
 clear h
 obtain ⟨y312, hy312⟩ : ∃ y_ : List (S88), y_ = (([] : List (S88))) := ⟨_, rfl⟩
 replace H : ((F73.f s0_0 s0_1 s0_2 s0_3 (wrap64 (4 + s0_3))).bind fun bt315 => ((F72.f s0_0 bt315.2.1 bt315.2.2.1 bt315.2.2.2 60).bind fun bt319 => (if bt319.1 = true then ((F73.f s0_0 bt319.2.1 bt319.2.2.1 bt319.2.2.2 3).bind fun bt323 => (F42.l0 k y312 (wrap64 (199 + bt323.1)) s0_0 bt323.2.1 bt323.2.2.1 bt323.2.2.2)) else (F42.l1 k y312 bt315.1 s0_0 bt319.2.1 bt319.2.2.1 bt319.2.2.2)))) = some (r1, r2, r3, r4) := by first | (rw [hy312]; exact H) | exact H
 have Ny312 := am_ hy312
 clear hy312
 replace H := bi_ H; rcases H with ⟨⟨t315, t316, t317, t318⟩, A2, H⟩
 replace H := bi_ H; rcases H with ⟨⟨t319, t320, t321, t322⟩, A3, H⟩
 replace H := ib_ H; rcases H with ⟨rfl, H⟩ | ⟨rfl, H⟩
 ·replace H := bi_ H; rcases H with ⟨⟨t323, t324, t325, t326⟩, A5, H⟩
  have H' := am_ H
  clear H
  go_enter Try.func42, Try.ntmps42
  go_wp2_with (first | ((with_reducible refine gate_dst (N := 6) rfl ?_); refine Kd.R_lit k88 _ 88 ?hg (N := 6) ?hd (xs := ([] : List (S88))) (inner := []) (ok := fun _ => True) (okp := fun _ => True) ?hr ?hp (fun _ hk => hk) trivial (Below.refl _ _) (Nat.le_refl _) (by simp) ?_; (case hd => rfl); (case hg => rfl); (case hr => exact hr_); (case hp => exact (Reps.none _ _)); intro v313 w6 ho7 hb hg_ hnew_; clear hg_ hnew_; (first | rw [← Ny312.out] at ho7 | (simp only [Int.reduceToNat] at ho7; rw [← Ny312.out] at ho7)); have HO314 := am_ (Kd.R_lower ho7 (keep_size (w := w) (g := g) (row := none) au2_4)); replace HK := am_ (KeepBut.trans au2_4 (KeepBut.of_below hb g none) (.inl rfl)); replace HB := am_ (below_step au2_15 hb); replace HI0 := am_ (IsS116.below is2_0_ hb); clear hb ho7; obtain ⟨ASz8_0, cSz8_0, HGz8, hgz8, HSz8_0⟩ := HI0.out; have hcz8_0 := cellS116_0 HGz8; have hcz8_1 := cellS116_1 HGz8; have hcz8_2 := cellS116_2 HGz8; have hcz8_3 := cellS116_3 HGz8; have hfz8_1 := blk_frozen HGz8 1; have hfz8_2 := blk_frozen HGz8 2; have hfz8_3 := blk_frozen HGz8 3; clear HGz8 hgz8) | ((with_reducible refine gate_callee (f := 73) rfl ?_); refine gl_ 13 Try.func73 #[.pointer (some ⟨g, 0, none⟩), .int .i64 (wrap64 (4 + s0_3))] ?_ rfl rfl rfl rfl; (with_reducible refine (F73.calls g s0_0 s0_1 s0_2 s0_3 (wrap64 (4 + s0_3)) t315 t316 t317 t318 w0 _ ?s1 ?s2 A2.out).mono ?_); (case s1 => exact au2_12); (case s2 => exact au2_13); rintro e w9 ⟨rfl, hi, hb, hk⟩; refine ⟨_, rfl, ?_⟩; replace HO314 := am_ (Kd.R_mono (Kd.R_keep (IsS116.apart (is2_0_ : IsS116 w0 _ g s0_0 s0_1 s0_2 s0_3) (rk_ HO314) (by decide)) hk (fun _ h => h.2)) (fun _ h => h.1)); replace HK := am_ (KeepBut.trans au2_4 hk (.inl rfl)); replace HB := am_ (hb); replace HI0 := am_ (hi); (try clear hb); (try clear hb2); (try clear hk); (try clear hi)) | ((with_reducible refine gate_callee (f := 72) rfl ?_); refine gl_ 15 Try.func72 #[.pointer (some ⟨g, 0, none⟩), .int .i64 60] ?_ rfl rfl rfl rfl; (with_reducible refine (F72.calls g s0_0 t316 t317 t318 60 true t320 t321 t322 w0 _ ?s1 ?s2 A3.out).mono ?_); (case s1 => exact au2_12); (case s2 => exact au2_13); rintro e w10 ⟨rfl, hi, hb, hk⟩; refine ⟨_, rfl, ?_⟩; replace HO314 := am_ (Kd.R_mono (Kd.R_keep (IsS116.apart (is2_0_ : IsS116 w0 _ g s0_0 t316 t317 t318) (rk_ HO314) (by decide)) hk (fun _ h => h.2)) (fun _ h => h.1)); replace HK := am_ (KeepBut.trans au2_4 hk (.inl rfl)); replace HB := am_ (hb); replace HI0 := am_ (hi); (try clear hb); (try clear hb2); (try clear hk); (try clear hi)) | ((with_reducible refine gate_callee (f := 73) rfl ?_); refine gl_ 17 Try.func73 #[.pointer (some ⟨g, 0, none⟩), .int .i64 3] ?_ rfl rfl rfl rfl; (with_reducible refine (F73.calls g s0_0 t320 t321 t322 3 t323 t324 t325 t326 w0 _ ?s1 ?s2 A5.out).mono ?_); (case s1 => exact au2_12); (case s2 => exact au2_13); rintro e w11 ⟨rfl, hi, hb, hk⟩; refine ⟨_, rfl, ?_⟩; replace HO314 := am_ (Kd.R_mono (Kd.R_keep (IsS116.apart (is2_0_ : IsS116 w0 _ g s0_0 t320 t321 t322) (rk_ HO314) (by decide)) hk (fun _ h => h.2)) (fun _ h => h.1)); replace HK := am_ (KeepBut.trans au2_4 hk (.inl rfl)); replace HB := am_ (hb); replace HI0 := am_ (hi); (try clear hb); (try clear hb2); (try clear hk); (try clear hi)))
  go_loopg [3, 4] k (fun kq v3 v4 w' => ∃ (x3_1 : List (S88)) (x4_1 : Int), v4 = .int .i64 x4_1 ∧ Aside0 (F42.l0 kq x3_1 x4_1 s0_0 t324 t325 t326 = some (r1, r2, r3, r4)) ∧ Aside0 (kq ≤ k) ∧ Aside0 (Kd.R k88 88 w' w.heap.size (fun _ => True) v3 x3_1) ∧ Aside0 (IsS116 w0 w' g s0_0 t324 t325 t326) ∧ Aside0 (KeepBut w w' g none) ∧ Aside0 (Below w0.heap.size w0 w'))
  case atStart => exact ⟨(y312), (wrap64 (199 + t323)), er_, H', ⟨Nat.le_refl _⟩, ⟨rk_ HO314⟩, ⟨is2_0_⟩, ⟨au2_22⟩, ⟨au2_20⟩⟩
  case round =>
   clear H'
   try clear hcz8_0 hcz8_1 hcz8_2 hcz8_3
   try clear hfz8_1
   try clear hfz8_2
   try clear hfz8_3
   obtain ⟨x3_1, x4_1, rfl, HA, HK1, HO_3, HI0, HK, HB⟩ := hrel
   cases gk with
   | zero => exact absurd HA.out (by simp [F42.l0])
   | succ k1 =>
    have H := HA.out
    clear HA
    simp only [F42.l0] at H
    replace H := it_ H; rcases H with ⟨(c12b0 : decide (0 < x4_1) = true), H⟩ | ⟨(c12b0 : decide (0 < x4_1) = false), H⟩
    rotate_left
    ·simp only [Option.some.injEq, Prod.mk.injEq] at H
     obtain ⟨rfl, rfl, rfl, rfl⟩ := H
     go_wp2
     go_ret
     exact ⟨_, au2_23, rk_ HO_3, is2_0_, au2_20, au2_22⟩
    replace H := iln_ H; rcases H with ⟨LMc13, H⟩
    obtain ⟨y327, hy327⟩ : ∃ y_ : List (S88), y_ = (x3_1 ++ [(⟨(⟨#[65, 66, 67]⟩ : ByteArray), ([] : List (S122))⟩ : S88)]) := ⟨_, rfl⟩
    replace H : (F42.l0 k1 y327 (wrap64 (x4_1 - 1)) s0_0 t324 t325 t326) = some (r1, r2, r3, r4) := by first | (rw [hy327]; exact H) | exact H
    have Ny327 := am_ hy327
    clear hy327
    have H' := am_ H
    clear H
    go_wp2_with (first | ((with_reducible refine gate_builtin (b := .append) (xs := #[.tmp 23, .tmp 25]) rfl ?_); at_builtin; refine Kd.R_append k88 w.heap.size rfl (.tmp 23) (.tmp 25) 46 88 (.agg #[(.string ⟨#[]⟩), (.slice none 0 0)]) 40 rfl Try.underlying46 info88 rfl (by decide) (by omega) u3 x3_1 (⟨(⟨#[65, 66, 67]⟩ : ByteArray), ([] : List (S122))⟩ : S88) [.string (⟨#[65, 66, 67]⟩ : ByteArray), .slice none 0 0] (fun _ => True) (fun k_ => ((fun _ => True)) k_ ∧ some k_ ≠ (u3 : Value).ownBlock) rfl rfl ?aP (fun _ hk => hk) ?aF ?aO (Below.refl _ _) ?aS ?aL ?_; (case aP => exact k88_mkM _ _ _ (⟨(⟨#[65, 66, 67]⟩ : ByteArray), ([] : List (S122))⟩ : S88) (Kd.R_nil _ _ _ _ _)); (case aF => exact (fun _ _ => trivial)); (case aO => exact (rk_ HO_3)); (case aS => exact (keep_size (w := w) (g := g) (row := none) au2_4)); (case aL => have := LMc13.out; omega); intro v328 w14 ho hb hg hat; rw [← Ny327.out] at ho; have n0_ := am_ (IsS116.grown is2_0_ hg (IsS116.own_ne HI0.out HO_3.out (by decide))); have n1_ := am_ (below_weaken au2_15 HL.out hb); have n2_ := am_ (KeepBut.trans au2_4 (KeepBut.of_grown hg g) (Kd.R_base2 HO_3.out)); have n3_ := am_ (ho); clear HI0; clear HB; clear HK; clear HO_3; have HI0 := n0_; have HB := n1_; have HK := n2_; have HO329 := n3_; clear n0_ n1_ n2_ n3_; clear ho hb hg hat))
    go_roundg k1
    case measure => have := HK1.out; omega
    case rel => exact ⟨(y327), (wrap64 (x4_1 - 1)), er_, H', ⟨by have := HK1.out; omega⟩, ⟨rk_ HO329⟩, ⟨is2_0_⟩, ⟨au2_22⟩, ⟨au2_20⟩⟩
 have H' := am_ H
 clear H
 go_enter Try.func42, Try.ntmps42
 go_wp2_with (first | ((with_reducible refine gate_dst (N := 6) rfl ?_); refine Kd.R_lit k88 _ 88 ?hg (N := 6) ?hd (xs := ([] : List (S88))) (inner := []) (ok := fun _ => True) (okp := fun _ => True) ?hr ?hp (fun _ hk => hk) trivial (Below.refl _ _) (Nat.le_refl _) (by simp) ?_; (case hd => rfl); (case hg => rfl); (case hr => exact hr_); (case hp => exact (Reps.none _ _)); intro v313 w15 ho16 hb hg_ hnew_; clear hg_ hnew_; (first | rw [← Ny312.out] at ho16 | (simp only [Int.reduceToNat] at ho16; rw [← Ny312.out] at ho16)); have HO314 := am_ (Kd.R_lower ho16 (keep_size (w := w) (g := g) (row := none) au2_4)); replace HK := am_ (KeepBut.trans au2_4 (KeepBut.of_below hb g none) (.inl rfl)); replace HB := am_ (below_step au2_15 hb); replace HI0 := am_ (IsS116.below is2_0_ hb); clear hb ho16; obtain ⟨ASz17_0, cSz17_0, HGz17, hgz17, HSz17_0⟩ := HI0.out; have hcz17_0 := cellS116_0 HGz17; have hcz17_1 := cellS116_1 HGz17; have hcz17_2 := cellS116_2 HGz17; have hcz17_3 := cellS116_3 HGz17; have hfz17_1 := blk_frozen HGz17 1; have hfz17_2 := blk_frozen HGz17 2; have hfz17_3 := blk_frozen HGz17 3; clear HGz17 hgz17) | ((with_reducible refine gate_callee (f := 73) rfl ?_); refine gl_ 13 Try.func73 #[.pointer (some ⟨g, 0, none⟩), .int .i64 (wrap64 (4 + s0_3))] ?_ rfl rfl rfl rfl; (with_reducible refine (F73.calls g s0_0 s0_1 s0_2 s0_3 (wrap64 (4 + s0_3)) t315 t316 t317 t318 w0 _ ?s1 ?s2 A2.out).mono ?_); (case s1 => exact au2_12); (case s2 => exact au2_13); rintro e w18 ⟨rfl, hi, hb, hk⟩; refine ⟨_, rfl, ?_⟩; replace HO314 := am_ (Kd.R_mono (Kd.R_keep (IsS116.apart (is2_0_ : IsS116 w0 _ g s0_0 s0_1 s0_2 s0_3) (rk_ HO314) (by decide)) hk (fun _ h => h.2)) (fun _ h => h.1)); replace HK := am_ (KeepBut.trans au2_4 hk (.inl rfl)); replace HB := am_ (hb); replace HI0 := am_ (hi); (try clear hb); (try clear hb2); (try clear hk); (try clear hi)) | ((with_reducible refine gate_callee (f := 72) rfl ?_); refine gl_ 15 Try.func72 #[.pointer (some ⟨g, 0, none⟩), .int .i64 60] ?_ rfl rfl rfl rfl; (with_reducible refine (F72.calls g s0_0 t316 t317 t318 60 false t320 t321 t322 w0 _ ?s1 ?s2 A3.out).mono ?_); (case s1 => exact au2_12); (case s2 => exact au2_13); rintro e w19 ⟨rfl, hi, hb, hk⟩; refine ⟨_, rfl, ?_⟩; replace HO314 := am_ (Kd.R_mono (Kd.R_keep (IsS116.apart (is2_0_ : IsS116 w0 _ g s0_0 t316 t317 t318) (rk_ HO314) (by decide)) hk (fun _ h => h.2)) (fun _ h => h.1)); replace HK := am_ (KeepBut.trans au2_4 hk (.inl rfl)); replace HB := am_ (hb); replace HI0 := am_ (hi); (try clear hb); (try clear hb2); (try clear hk); (try clear hi)))
 go_loopg [3, 4] k (fun kq v3 v4 w' => ∃ (x3_1 : List (S88)) (x4_1 : Int) (x1001_1 : Int) (x1002_1 : Int) (x1003_1 : Int), v4 = .int .i64 x4_1 ∧ Aside0 (F42.l1 kq x3_1 x4_1 s0_0 x1001_1 x1002_1 x1003_1 = some (r1, r2, r3, r4)) ∧ Aside0 (kq ≤ k) ∧ Aside0 (Kd.R k88 88 w' w.heap.size (fun _ => True) v3 x3_1) ∧ Aside0 (IsS116 w0 w' g s0_0 x1001_1 x1002_1 x1003_1) ∧ Aside0 (KeepBut w w' g none) ∧ Aside0 (Below w0.heap.size w0 w'))
 case atStart => exact ⟨(y312), (t315), (t320), (t321), (t322), er_, H', ⟨Nat.le_refl _⟩, ⟨rk_ HO314⟩, ⟨is2_0_⟩, ⟨au2_22⟩, ⟨au2_20⟩⟩
 case round =>
  clear H'
  try clear c12b0
  try clear hcz17_0 hcz17_1 hcz17_2 hcz17_3
  try clear hcz8_0 hcz8_1 hcz8_2 hcz8_3
  try clear hfz17_1
  try clear hfz17_2
  try clear hfz17_3
  try clear hfz8_1
  try clear hfz8_2
  try clear hfz8_3
  obtain ⟨x3_1, x4_1, x1001_1, x1002_1, x1003_1, rfl, HA, HK1, HO_3, HI0, HK, HB⟩ := hrel
  cases gk with
  | zero => exact absurd HA.out (by simp [F42.l1])
  | succ k1 =>
   have H := HA.out
   clear HA
   simp only [F42.l1] at H
   replace H := it_ H; rcases H with ⟨(c20b0 : decide (0 < x4_1) = true), H⟩ | ⟨(c20b0 : decide (0 < x4_1) = false), H⟩
   rotate_left
   ·simp only [Option.some.injEq, Prod.mk.injEq] at H
    obtain ⟨rfl, rfl, rfl, rfl⟩ := H
    go_wp2
    go_ret
    exact ⟨_, au2_23, rk_ HO_3, is2_0_, au2_20, au2_22⟩

   replace H := bi_ H; rcases H with ⟨⟨t330, t331, t334, t335, t336⟩, A21, H⟩
   replace H := bi_ H; rcases H with ⟨t338, A22, H⟩
   replace H := ib_ H; rcases H with ⟨rfl, H⟩ | ⟨rfl, H⟩
   ·replace H := iln_ H; rcases H with ⟨LMc24, H⟩
    obtain ⟨y339, hy339⟩ : ∃ y_ : List (S88), y_ = (x3_1 ++ [(⟨t330, t331⟩ : S88)]) := ⟨_, rfl⟩
    replace H : (F42.l1 k1 y339 (wrap64 (x4_1 - 1)) s0_0 t334 t335 t336) = some (r1, r2, r3, r4) := by first | (rw [hy339]; exact H) | exact H
    have Ny339 := am_ hy339
    clear hy339
    have H' := am_ H
    clear H
    go_wp2_with (first | ((with_reducible refine gate_callee (f := 75) rfl ?_); refine gl_ 33 Try.func75 #[.pointer (some ⟨g, 0, none⟩)] ?_ rfl rfl rfl rfl; (with_reducible refine (F75.calls k1 g s0_0 x1001_1 x1002_1 x1003_1 t330 t331 t334 t335 t336 w0 _ ?s1 ?s2 A21.out).mono ?_); (case s1 => exact au2_12); (case s2 => exact au2_13); rintro e w25 ⟨v332, rfl, ho0, hi, hb, hk⟩; refine ⟨_, rfl, ?_⟩; replace HO_3 := am_ (Kd.R_mono (Kd.R_told (Kd.R_oldK (IsS116.apart (is2_0_ : IsS116 w0 _ g s0_0 x1001_1 x1002_1 x1003_1) (rk_ HO_3) (by decide)) hk) (Kd.S_base ho0)) (fun _ h_ => h_.1)); have HO333 := am_ (Kd.S_lower ho0 (keep_size (w := w) (g := g) (row := none) au2_4)); replace HK := am_ (KeepBut.trans au2_4 hk (.inl rfl)); replace HB := am_ (hb); replace HI0 := am_ (hi); (try clear hb); (try clear hb2); (try clear hk); (try clear hi); (try clear ho0)) | ((with_reducible refine gate_dst (N := 5) rfl ?_); refine be_ 5 #[.string (⟨#[]⟩ : ByteArray), .slice none 0 0] 88 ?_; intro gb337 hg w26 hbox hb; replace HO_3 := am_ (Kd.R_below (Kd.R_elderB (rk_ HO_3) gb337 (Nat.le_of_eq hg.symm)) hb); replace HO333 := am_ (Kd.S_below au2_29 hb); replace HB := am_ (below_step au2_15 hb); have BK337 := am_ (hbox); have GW337 := am_ ((by rw [hg]; exact (keep_size (w := w) (g := g) (row := none) au2_4) : w.heap.size ≤ gb337)); have GE337 := am_ ((Nat.le_trans HW0.out (by rw [hg]; exact (keep_size (w := w) (g := g) (row := none) au2_4) : w.heap.size ≤ gb337) : w0.heap.size ≤ gb337)); replace HK := am_ (KeepBut.trans au2_4 (KeepBut.of_below hb g none) (.inl rfl)); have NB0_337 := am_ (gn_ hg (IsS116.lt (is2_0_ : IsS116 w0 _ g s0_0 t334 t335 t336))); have NB337_0 := am_ (gm_ hg (IsS116.lt (is2_0_ : IsS116 w0 _ g s0_0 t334 t335 t336))); replace HI0 := am_ (IsS116.below is2_0_ hb); clear hb hbox hg; have hnb27 := NB337_0.out; have hnc27 := NB0_337.out; obtain ⟨hcz28_0, hcz28_1, hfz28_0, hfz28_1⟩ := cellsF2 BK337.out; obtain ⟨Ao29, co29, eo29⟩ := Kd.S_slice HO333.out; subst eo29) | ((with_reducible refine gate_callee (f := 44) rfl ?_); refine gl_ 35 Try.func44 #[.agg #[.string t330, .slice Ao29 t331.length co29]] ?_ rfl rfl rfl rfl; (with_reducible refine (F44.calls k1 t330 _ _ t331 true _ ?s1 ?s2 A22.out).mono ?_); (case s1 => refine (Kd.S_reads' (e := 122) (base := w.heap.size) (ok := fun k_ => True) (n := t331.length) (c := co29) ?_).2.2; exact au2_33); (case s2 => exact (Kd.S_reads' HO333.out).2.1); rintro e w30 ⟨rfl, hb⟩; refine ⟨_, rfl, ?_⟩; replace HO_3 := am_ (Kd.R_below (by (with_reducible repeat (first | apply Kd.R_alloc | apply Kd.R_drewN | apply Kd.R_drew)); exact (Kd.R_mono (Kd.R_far (p := ⟨gb337, 1, none⟩) (Kd.R_far (p := ⟨gb337, 0, none⟩) (Kd.R_mono HO_3.out (fun k_ hk => (⟨hk, hk.2⟩ : _ ∧ k_ ≠ gb337))) (fun _ hk => hk.2) (.string t330)) (fun _ hk => hk.2) (.slice Ao29 t331.length co29)) (fun _ h_ => h_.1))) hb); replace HO333 := am_ (Kd.S_below au2_33 hb); replace BK337 := am_ (blk_below (g := gb337) (o := .cells #[.string t330, .slice Ao29 t331.length co29] 88 (0, 0)) (bq_ BK337) hb); replace HK := am_ (KeepBut.trans au2_11 (KeepBut.of_below hb g none) (.inl rfl)); replace HB := am_ (below_step au2_19 hb); replace HI0 := am_ (IsS116.below (show IsS116 w0 ((w26.setCell ⟨gb337, 0, none⟩ (.string t330)).setCell ⟨gb337, 1, none⟩ (.slice Ao29 t331.length co29)) g s0_0 t334 t335 t336 from by repeat (first | (with_reducible first | exact HI0.out | apply IsS116.alloc | apply IsS116.drewN | apply IsS116.drew | apply IsS116.set_1 | apply IsS116.set_2 | apply IsS116.set_3 | refine IsS116.far ?_ NB0_337.out _) | exact HI0.out)) hb); (try clear hb); (try clear hb2); (try clear hk); (try clear hi); obtain ⟨hcz31_0, hcz31_1, hfz31_0, hfz31_1⟩ := cellsF2 BK337.out) | ((with_reducible refine gate_builtin (b := .append) (xs := #[.tmp 40, .tmp 42]) rfl ?_); at_builtin; refine Kd.R_append k88 w.heap.size rfl (.tmp 40) (.tmp 42) 46 88 (.agg #[(.string ⟨#[]⟩), (.slice none 0 0)]) 40 rfl Try.underlying46 info88 rfl (by decide) (by omega) u3 x3_1 (⟨t330, t331⟩ : S88) [.string t330, .slice Ao29 t331.length co29] (fun k_ => k_ ≠ gb337) (fun k_ => ((fun k_ => k_ ≠ gb337)) k_ ∧ some k_ ≠ (u3 : Value).ownBlock) rfl rfl ?aP (fun _ hk => hk) ?aF ?aO (Below.refl _ _) ?aS ?aL ?_; (case aP => exact au2_46); (case aF => exact (fun k_ hk => Kd.freshB (g := gb337) (o := .cells #[.string t330, .slice Ao29 t331.length co29] 88 (0, 0)) (bk_ BK337) k_ hk)); (case aO => exact au2_53); (case aS => exact (keep_size (w := w) (g := g) (row := none) au2_11)); (case aL => have := LMc24.out; omega); intro v340 w32 ho hb hg hat; rw [← Ny339.out] at ho; have n0_ := am_ (IsS116.grown is2_0_ hg (IsS116.own_ne HI0.out HO_3.out (by decide))); have n1_ := am_ (bg_ BK337 hg (Kd.R_away HO_3.out (fun _ hk => hk.2))); have n2_ := am_ (below_weaken au2_19 HL.out hb); have n3_ := am_ (KeepBut.trans au2_11 (KeepBut.of_grown hg g) (Kd.R_base2 HO_3.out)); have n4_ := am_ (ho); clear HI0; clear BK337; clear HB; clear HK; clear HO_3; clear HO333; have HI0 := n0_; have BK337 := n1_; have HB := n2_; have HK := n3_; have HO341 := n4_; clear n0_ n1_ n2_ n3_ n4_; clear ho hb hg hat))
    go_roundg k1
    case measure => have := HK1.out; omega
    case rel => exact ⟨(y339), (wrap64 (x4_1 - 1)), (t334), (t335), (t336), er_, H', ⟨by have := HK1.out; omega⟩, ⟨by (with_reducible repeat (first | apply Kd.R_alloc | apply Kd.R_drewN | apply Kd.R_drew)); exact Kd.R_mono HO341.out (fun _ hk => trivial)⟩, ⟨is2_0_⟩, ⟨au2_30⟩, ⟨au2_27⟩⟩
   replace H := bi_ H; rcases H with ⟨⟨t342, t343, t344, t345⟩, A33, H⟩
   replace H := ib_ H; rcases H with ⟨rfl, H⟩ | ⟨rfl, H⟩
   rotate_left
   ·have H' := am_ H
    clear H
    go_wp2_with (first | ((with_reducible refine gate_callee (f := 75) rfl ?_); refine gl_ 33 Try.func75 #[.pointer (some ⟨g, 0, none⟩)] ?_ rfl rfl rfl rfl; (with_reducible refine (F75.calls k1 g s0_0 x1001_1 x1002_1 x1003_1 t330 t331 t334 t335 t336 w0 _ ?s1 ?s2 A21.out).mono ?_); (case s1 => exact au2_12); (case s2 => exact au2_13); rintro e w45 ⟨v332, rfl, ho0, hi, hb, hk⟩; refine ⟨_, rfl, ?_⟩; replace HO_3 := am_ (Kd.R_mono (Kd.R_told (Kd.R_oldK (IsS116.apart (is2_0_ : IsS116 w0 _ g s0_0 x1001_1 x1002_1 x1003_1) (rk_ HO_3) (by decide)) hk) (Kd.S_base ho0)) (fun _ h_ => h_.1)); have HO333 := am_ (Kd.S_lower ho0 (keep_size (w := w) (g := g) (row := none) au2_4)); replace HK := am_ (KeepBut.trans au2_4 hk (.inl rfl)); replace HB := am_ (hb); replace HI0 := am_ (hi); (try clear hb); (try clear hb2); (try clear hk); (try clear hi); (try clear ho0)) | ((with_reducible refine gate_dst (N := 5) rfl ?_); refine be_ 5 #[.string (⟨#[]⟩ : ByteArray), .slice none 0 0] 88 ?_; intro gb337 hg w46 hbox hb; replace HO_3 := am_ (Kd.R_below (Kd.R_elderB (rk_ HO_3) gb337 (Nat.le_of_eq hg.symm)) hb); replace HO333 := am_ (Kd.S_below au2_29 hb); replace HB := am_ (below_step au2_15 hb); have BK337 := am_ (hbox); have GW337 := am_ ((by rw [hg]; exact (keep_size (w := w) (g := g) (row := none) au2_4) : w.heap.size ≤ gb337)); have GE337 := am_ ((Nat.le_trans HW0.out (by rw [hg]; exact (keep_size (w := w) (g := g) (row := none) au2_4) : w.heap.size ≤ gb337) : w0.heap.size ≤ gb337)); replace HK := am_ (KeepBut.trans au2_4 (KeepBut.of_below hb g none) (.inl rfl)); have NB0_337 := am_ (gn_ hg (IsS116.lt (is2_0_ : IsS116 w0 _ g s0_0 t334 t335 t336))); have NB337_0 := am_ (gm_ hg (IsS116.lt (is2_0_ : IsS116 w0 _ g s0_0 t334 t335 t336))); replace HI0 := am_ (IsS116.below is2_0_ hb); clear hb hbox hg; have hnb47 := NB337_0.out; have hnc47 := NB0_337.out; obtain ⟨hcz48_0, hcz48_1, hfz48_0, hfz48_1⟩ := cellsF2 BK337.out; obtain ⟨Ao49, co49, eo49⟩ := Kd.S_slice HO333.out; subst eo49) | ((with_reducible refine gate_callee (f := 44) rfl ?_); refine gl_ 35 Try.func44 #[.agg #[.string t330, .slice Ao49 t331.length co49]] ?_ rfl rfl rfl rfl; (with_reducible refine (F44.calls k1 t330 _ _ t331 false _ ?s1 ?s2 A22.out).mono ?_); (case s1 => refine (Kd.S_reads' (e := 122) (base := w.heap.size) (ok := fun k_ => True) (n := t331.length) (c := co49) ?_).2.2; exact au2_35); (case s2 => exact (Kd.S_reads' HO333.out).2.1); rintro e w50 ⟨rfl, hb⟩; refine ⟨_, rfl, ?_⟩; replace HO_3 := am_ (Kd.R_below (by (with_reducible repeat (first | apply Kd.R_alloc | apply Kd.R_drewN | apply Kd.R_drew)); exact (Kd.R_mono (Kd.R_far (p := ⟨gb337, 1, none⟩) (Kd.R_far (p := ⟨gb337, 0, none⟩) (Kd.R_mono HO_3.out (fun k_ hk => (⟨hk, hk.2⟩ : _ ∧ k_ ≠ gb337))) (fun _ hk => hk.2) (.string t330)) (fun _ hk => hk.2) (.slice Ao49 t331.length co49)) (fun _ h_ => h_.1))) hb); replace HO333 := am_ (Kd.S_below au2_35 hb); replace BK337 := am_ (blk_below (g := gb337) (o := .cells #[.string t330, .slice Ao49 t331.length co49] 88 (0, 0)) (bq_ BK337) hb); replace HK := am_ (KeepBut.trans au2_11 (KeepBut.of_below hb g none) (.inl rfl)); replace HB := am_ (below_step au2_19 hb); replace HI0 := am_ (IsS116.below (show IsS116 w0 ((w46.setCell ⟨gb337, 0, none⟩ (.string t330)).setCell ⟨gb337, 1, none⟩ (.slice Ao49 t331.length co49)) g s0_0 t334 t335 t336 from by repeat (first | (with_reducible first | exact HI0.out | apply IsS116.alloc | apply IsS116.drewN | apply IsS116.drew | apply IsS116.set_1 | apply IsS116.set_2 | apply IsS116.set_3 | refine IsS116.far ?_ NB0_337.out _) | exact HI0.out)) hb); (try clear hb); (try clear hb2); (try clear hk); (try clear hi)) | (go_at_call 72; (with_reducible refine (F72.calls g s0_0 t334 t335 t336 30 false t343 t344 t345 w0 _ ?s1 ?s2 A33.out).mono ?_); (case s1 => exact au2_42); (case s2 => exact au2_44); rintro e w51 ⟨rfl, hi, hb, hk⟩; replace HO_3 := am_ (Kd.R_mono (Kd.R_keep (IsS116.apart (is2_0_ : IsS116 w0 _ g s0_0 t334 t335 t336) (rk_ HO_3) (by decide)) hk (fun _ h => h.2)) (fun _ h => h.1)); replace HO333 := am_ (Kd.S_mono (Kd.S_keep (IsS116.apartS (is2_0_ : IsS116 w0 _ g s0_0 t334 t335 t336) au2_29 (by decide)) hk (fun _ h => h.2)) (fun _ h => h.1)); replace BK337 := ka_ hk BK337 NB337_0; replace HK := am_ (KeepBut.trans au2_11 hk (.inl rfl)); replace HB := am_ (hb); replace HI0 := am_ (hi); (try clear hb); (try clear hb2); (try clear hk); (try clear hi)))
    go_roundg k1
    case measure => have := HK1.out; omega
    case rel => exact ⟨(x3_1), (wrap64 (x4_1 - 1)), (t343), (t344), (t345), er_, H', ⟨by have := HK1.out; omega⟩, ⟨by (with_reducible repeat (first | apply Kd.R_alloc | apply Kd.R_drewN | apply Kd.R_drew)); exact Kd.R_mono HO_3.out (fun _ hk => trivial)⟩, ⟨is2_0_⟩, ⟨au2_30⟩, ⟨au2_27⟩⟩
   replace H := iln_ H; rcases H with ⟨LMc35, H⟩
   obtain ⟨y346, hy346⟩ : ∃ y_ : List (S88), y_ = (x3_1 ++ [(⟨t330, t331⟩ : S88)]) := ⟨_, rfl⟩
   replace H : (F42.l1 k1 y346 (wrap64 (x4_1 - 1)) s0_0 t343 t344 t345) = some (r1, r2, r3, r4) := by first | (rw [hy346]; exact H) | exact H
   have Ny346 := am_ hy346
   clear hy346
   have H' := am_ H
   clear H
   go_wp2_with (first | ((with_reducible refine gate_callee (f := 75) rfl ?_); refine gl_ 33 Try.func75 #[.pointer (some ⟨g, 0, none⟩)] ?_ rfl rfl rfl rfl; (with_reducible refine (F75.calls k1 g s0_0 x1001_1 x1002_1 x1003_1 t330 t331 t334 t335 t336 w0 _ ?s1 ?s2 A21.out).mono ?_); (case s1 => exact au2_12); (case s2 => exact au2_13); rintro e w36 ⟨v332, rfl, ho0, hi, hb, hk⟩; refine ⟨_, rfl, ?_⟩; replace HO_3 := am_ (Kd.R_mono (Kd.R_told (Kd.R_oldK (IsS116.apart (is2_0_ : IsS116 w0 _ g s0_0 x1001_1 x1002_1 x1003_1) (rk_ HO_3) (by decide)) hk) (Kd.S_base ho0)) (fun _ h_ => h_.1)); have HO333 := am_ (Kd.S_lower ho0 (keep_size (w := w) (g := g) (row := none) au2_4)); replace HK := am_ (KeepBut.trans au2_4 hk (.inl rfl)); replace HB := am_ (hb); replace HI0 := am_ (hi); (try clear hb); (try clear hb2); (try clear hk); (try clear hi); (try clear ho0)) | ((with_reducible refine gate_dst (N := 5) rfl ?_); refine be_ 5 #[.string (⟨#[]⟩ : ByteArray), .slice none 0 0] 88 ?_; intro gb337 hg w37 hbox hb; replace HO_3 := am_ (Kd.R_below (Kd.R_elderB (rk_ HO_3) gb337 (Nat.le_of_eq hg.symm)) hb); replace HO333 := am_ (Kd.S_below au2_29 hb); replace HB := am_ (below_step au2_15 hb); have BK337 := am_ (hbox); have GW337 := am_ ((by rw [hg]; exact (keep_size (w := w) (g := g) (row := none) au2_4) : w.heap.size ≤ gb337)); have GE337 := am_ ((Nat.le_trans HW0.out (by rw [hg]; exact (keep_size (w := w) (g := g) (row := none) au2_4) : w.heap.size ≤ gb337) : w0.heap.size ≤ gb337)); replace HK := am_ (KeepBut.trans au2_4 (KeepBut.of_below hb g none) (.inl rfl)); have NB0_337 := am_ (gn_ hg (IsS116.lt (is2_0_ : IsS116 w0 _ g s0_0 t334 t335 t336))); have NB337_0 := am_ (gm_ hg (IsS116.lt (is2_0_ : IsS116 w0 _ g s0_0 t334 t335 t336))); replace HI0 := am_ (IsS116.below is2_0_ hb); clear hb hbox hg; have hnb38 := NB337_0.out; have hnc38 := NB0_337.out; obtain ⟨hcz39_0, hcz39_1, hfz39_0, hfz39_1⟩ := cellsF2 BK337.out; obtain ⟨Ao40, co40, eo40⟩ := Kd.S_slice HO333.out; subst eo40) | ((with_reducible refine gate_callee (f := 44) rfl ?_); refine gl_ 35 Try.func44 #[.agg #[.string t330, .slice Ao40 t331.length co40]] ?_ rfl rfl rfl rfl; (with_reducible refine (F44.calls k1 t330 _ _ t331 false _ ?s1 ?s2 A22.out).mono ?_); (case s1 => refine (Kd.S_reads' (e := 122) (base := w.heap.size) (ok := fun k_ => True) (n := t331.length) (c := co40) ?_).2.2; exact au2_34); (case s2 => exact (Kd.S_reads' HO333.out).2.1); rintro e w41 ⟨rfl, hb⟩; refine ⟨_, rfl, ?_⟩; replace HO_3 := am_ (Kd.R_below (by (with_reducible repeat (first | apply Kd.R_alloc | apply Kd.R_drewN | apply Kd.R_drew)); exact (Kd.R_mono (Kd.R_far (p := ⟨gb337, 1, none⟩) (Kd.R_far (p := ⟨gb337, 0, none⟩) (Kd.R_mono HO_3.out (fun k_ hk => (⟨hk, hk.2⟩ : _ ∧ k_ ≠ gb337))) (fun _ hk => hk.2) (.string t330)) (fun _ hk => hk.2) (.slice Ao40 t331.length co40)) (fun _ h_ => h_.1))) hb); replace HO333 := am_ (Kd.S_below au2_34 hb); replace BK337 := am_ (blk_below (g := gb337) (o := .cells #[.string t330, .slice Ao40 t331.length co40] 88 (0, 0)) (bq_ BK337) hb); replace HK := am_ (KeepBut.trans au2_11 (KeepBut.of_below hb g none) (.inl rfl)); replace HB := am_ (below_step au2_19 hb); replace HI0 := am_ (IsS116.below (show IsS116 w0 ((w37.setCell ⟨gb337, 0, none⟩ (.string t330)).setCell ⟨gb337, 1, none⟩ (.slice Ao40 t331.length co40)) g s0_0 t334 t335 t336 from by repeat (first | (with_reducible first | exact HI0.out | apply IsS116.alloc | apply IsS116.drewN | apply IsS116.drew | apply IsS116.set_1 | apply IsS116.set_2 | apply IsS116.set_3 | refine IsS116.far ?_ NB0_337.out _) | exact HI0.out)) hb); (try clear hb); (try clear hb2); (try clear hk); (try clear hi)) | (go_at_call 72; (with_reducible refine (F72.calls g s0_0 t334 t335 t336 30 true t343 t344 t345 w0 _ ?s1 ?s2 A33.out).mono ?_); (case s1 => exact au2_42); (case s2 => exact au2_44); rintro e w42 ⟨rfl, hi, hb, hk⟩; replace HO_3 := am_ (Kd.R_mono (Kd.R_keep (IsS116.apart (is2_0_ : IsS116 w0 _ g s0_0 t334 t335 t336) (rk_ HO_3) (by decide)) hk (fun _ h => h.2)) (fun _ h => h.1)); replace HO333 := am_ (Kd.S_mono (Kd.S_keep (IsS116.apartS (is2_0_ : IsS116 w0 _ g s0_0 t334 t335 t336) au2_29 (by decide)) hk (fun _ h => h.2)) (fun _ h => h.1)); replace BK337 := ka_ hk BK337 NB337_0; replace HK := am_ (KeepBut.trans au2_11 hk (.inl rfl)); replace HB := am_ (hb); replace HI0 := am_ (hi); (try clear hb); (try clear hb2); (try clear hk); (try clear hi); obtain ⟨hcz43_0, hcz43_1, hfz43_0, hfz43_1⟩ := cellsF2 BK337.out) | ((with_reducible refine gate_builtin (b := .append) (xs := #[.tmp 40, .tmp 42]) rfl ?_); at_builtin; refine Kd.R_append k88 w.heap.size rfl (.tmp 40) (.tmp 42) 46 88 (.agg #[(.string ⟨#[]⟩), (.slice none 0 0)]) 40 rfl Try.underlying46 info88 rfl (by decide) (by omega) u3 x3_1 (⟨t330, t331⟩ : S88) [.string t330, .slice Ao40 t331.length co40] (fun k_ => k_ ≠ gb337) (fun k_ => ((fun k_ => k_ ≠ gb337)) k_ ∧ some k_ ≠ (u3 : Value).ownBlock) rfl rfl ?aP (fun _ hk => hk) ?aF ?aO (Below.refl _ _) ?aS ?aL ?_; (case aP => exact au2_46); (case aF => exact (fun k_ hk => Kd.freshB (g := gb337) (o := .cells #[.string t330, .slice Ao40 t331.length co40] 88 (0, 0)) (bk_ BK337) k_ hk)); (case aO => exact au2_53); (case aS => exact (keep_size (w := w) (g := g) (row := none) au2_11)); (case aL => have := LMc35.out; omega); intro v347 w44 ho hb hg hat; rw [← Ny346.out] at ho; have n0_ := am_ (IsS116.grown is2_0_ hg (IsS116.own_ne HI0.out HO_3.out (by decide))); have n1_ := am_ (bg_ BK337 hg (Kd.R_away HO_3.out (fun _ hk => hk.2))); have n2_ := am_ (below_weaken au2_19 HL.out hb); have n3_ := am_ (KeepBut.trans au2_11 (KeepBut.of_grown hg g) (Kd.R_base2 HO_3.out)); have n4_ := am_ (ho); clear HI0; clear BK337; clear HB; clear HK; clear HO_3; clear HO333; have HI0 := n0_; have BK337 := n1_; have HB := n2_; have HK := n3_; have HO348 := n4_; clear n0_ n1_ n2_ n3_ n4_; clear ho hb hg hat))
   go_roundg k1
   case measure => have := HK1.out; omega
   case rel => exact ⟨(y346), (wrap64 (x4_1 - 1)), (t343), (t344), (t345), er_, H', ⟨by have := HK1.out; omega⟩, ⟨by (with_reducible repeat (first | apply Kd.R_alloc | apply Kd.R_drewN | apply Kd.R_drew)); exact Kd.R_mono HO348.out (fun _ hk => trivial)⟩, ⟨is2_0_⟩, ⟨au2_30⟩, ⟨au2_27⟩⟩
/-! ### F18: function 18 -/
def F18.f (k : Nat) (l0 : List Int) : Option (Int × Int × Int × Int × (List (S88))) := (F40.f k l0).bind fun bt350 => ((F41.f k bt350.1 bt350.2.1 bt350.2.2.1 bt350.2.2.2).bind fun bt355 => ((F42.f k bt350.1 bt355.2.2.2.2.1 bt355.2.2.2.2.2.1 bt355.2.2.2.2.2.2).bind fun bt363 => (some (bt355.1, bt355.2.1, bt355.2.2.1, bt355.2.2.2.1, bt363.1))))
theorem F18.mono : ∀ a0 k, LeO (F18.f k a0) (F18.f (k + 1) a0) := by
 intro a0 k
 unfold F18.f
 repeat' with_reducible first | exact F40.mono _ _ | exact F42.mono _ _ _ _ _ | exact F41.mono _ _ _ _ _ | exact LeO.refl _ | exact LeO.none _ | refine LeO.ite ?_ ?_ | refine LeO.bind ?_ (fun _ => ?_)
theorem F18.calls (k : Nat) (A0 : Option Addr) (c0 : Nat) (l0 : List Int) (r1 : Int) (r2 : Int) (r3 : Int) (r4 : Int) (r5 : List (S88)) (w : World) (hr0 : Kd.C (Kd.int .u8) w A0 l0.length l0) (hc0 : l0.length ≤ c0) (h : F18.f k l0 = some (r1, r2, r3, r4, r5)) :
  Calls Try.prog 18 #[.slice A0 l0.length c0] w fun e w' => ∃ v4_ : Value, e = .returned (.tuple #[.agg #[.int .i64 r1, .int .i64 r2, .int .i64 r3, .int .i64 r4], v4_]) ∧ Kd.R k88 88 w' w.heap.size (fun _ => True) v4_ r5 ∧ Below w.heap.size w w' := by
 have hu45 := Try.underlying45
 have HR0 := am_ hr0
 have HC0 := am_ hc0
 clear hr0 hc0
 have HB := am_ (Below.refl w.heap.size w)
 have H : ((F40.f k l0).bind fun bt350 => ((F41.f k bt350.1 bt350.2.1 bt350.2.2.1 bt350.2.2.2).bind fun bt355 => ((F42.f k bt350.1 bt355.2.2.2.2.1 bt355.2.2.2.2.2.1 bt355.2.2.2.2.2.2).bind fun bt363 => (some (bt355.1, bt355.2.1, bt355.2.2.1, bt355.2.2.2.1, bt363.1))))) = some (r1, r2, r3, r4, r5) := h
 clear h
 replace H := bi_ H; rcases H with ⟨⟨t350, t351, t352, t353⟩, A2, H⟩
 replace H := bi_ H; rcases H with ⟨⟨t355, t356, t357, t358, t359, t360, t361⟩, A3, H⟩
 replace H := bi_ H; rcases H with ⟨⟨t363, t366, t367, t368⟩, A4, H⟩
 simp only [Option.some.injEq, Prod.mk.injEq] at H
 obtain ⟨rfl, rfl, rfl, rfl, rfl⟩ := H
 go_enter Try.func18, Try.ntmps18
 try go_wp2_with (first | ((with_reducible refine gate_dst (N := 2) rfl ?_); refine be_ 2 #[.int .i64 0, .int .i64 0, .int .i64 0, .int .i64 0] 45 ?_; intro gb349 hg w5 hbox hb; have BK349 := am_ (hbox); have GW349 := am_ (gw_ hg bl_); have GE349 := GW349; replace HB := hs_ w hb; clear hb hbox hg) | ((with_reducible refine gate_callee (f := 40) rfl ?_); refine gl_ 7 Try.func40 #[.slice A0 l0.length c0] ?_ rfl rfl rfl rfl; (with_reducible refine (F40.calls k _ _ l0 t350 t351 t352 t353 w _ ?s1 ?s2 ?s3 A2.out).mono ?_); (case s1 => repeat (first | (with_reducible first | exact HB.out | apply below_alloc | apply pw_below_drewN | apply below_drew1 | refine below_set ?_ GE349.out) | exact HB.out)); (case s2 => exact HR0.out); (case s3 => exact HC0.out); rintro e w6 ⟨g354, rfl, hi, hb, hb2⟩; refine ⟨_, rfl, ?_⟩; replace HB := am_ (hb); have HI354 := am_ (hi); have NB354_349 := am_ (IsS116.ne_blk hi (blkb_ BK349 hb2) (by decide)); have NB349_354 := am_ (Ne.symm (IsS116.ne_blk hi (blkb_ BK349 hb2) (by decide))); replace BK349 := am_ (blkb_ BK349 hb2); (try clear hb hb2 hi)) | ((with_reducible refine gate_callee (f := 41) rfl ?_); refine gl_ 9 Try.func41 #[.pointer (some ⟨g354, 0, none⟩)] ?_ rfl rfl rfl rfl; (with_reducible refine (F41.calls k g354 t350 t351 t352 t353 t355 t356 t357 t358 t359 t360 t361 w _ ?s1 ?s2 A3.out).mono ?_); (case s1 => repeat (first | (with_reducible first | exact HI354.out | apply IsS116.alloc | apply IsS116.drewN | apply IsS116.drew | apply IsS116.set_1 | apply IsS116.set_2 | apply IsS116.set_3 | refine IsS116.far ?_ NB354_349.out _) | exact HI354.out)); (case s2 => repeat (first | (with_reducible first | exact HB.out | apply below_alloc | apply pw_below_drewN | apply below_drew1 | refine below_set ?_ (IsS116.ge HI354.out) | refine below_set ?_ GE349.out) | exact HB.out)); rintro e w7 ⟨rfl, hi, hb, hk⟩; refine ⟨_, rfl, ?_⟩; replace BK349 := ka_ hk BK349 NB349_354; replace HB := am_ (hb); replace HI354 := am_ (hi); (try clear hb hk hi)) | ((with_reducible refine gate_dst (N := 5) rfl ?_); refine be_ 5 #[.int .i64 0, .int .i64 0, .int .i64 0, .int .i64 0] 45 ?_; intro gb362 hg w8 hbox hb; have BK362 := am_ (hbox); have GW362 := am_ ((by rw [hg]; exact (below_size au2_26) : w.heap.size ≤ gb362)); have GE362 := am_ ((by rw [hg]; exact (below_size au2_26) : w.heap.size ≤ gb362)); replace HB := am_ (below_step au2_26 hb); have NB349_362 := am_ (gn_ hg (blkl_ BK349)); have NB362_349 := am_ (gm_ hg (blkl_ BK349)); replace BK349 := bb_ BK349 hb; have NB354_362 := am_ ((by rw [hg]; exact Nat.ne_of_lt (IsS116.lt (is2_1_ : IsS116 w _ g354 t350 t359 t360 t361)) : g354 ≠ gb362)); have NB362_354 := am_ ((by rw [hg]; exact Nat.ne_of_gt (IsS116.lt (is2_1_ : IsS116 w _ g354 t350 t359 t360 t361)) : gb362 ≠ g354)); replace HI354 := am_ (IsS116.below is2_1_ hb); clear hb hbox hg; have hnb9 := NB362_349.out; have hnc9 := NB349_362.out; have hnb10 := NB362_354.out; have hnc10 := NB354_362.out; obtain ⟨hcz11_0, hcz11_1, hcz11_2, hcz11_3, hfz11_0, hfz11_1, hfz11_2, hfz11_3⟩ := cellsF4 BK362.out))
 have n0_ : Aside0 (((((w8.setCell ⟨gb362, 0, none⟩ (.int .i64 t355)).setCell ⟨gb362, 1, none⟩ (.int .i64 t356)).setCell ⟨gb362, 2, none⟩ (.int .i64 t357)).setCell ⟨gb362, 3, none⟩ (.int .i64 t358)).heap[gb349]? = some (.cells #[.int .i64 0, .int .i64 0, .int .i64 0, .int .i64 0] 45 (0, 0))) := ⟨bf_ BK349⟩
 have n1_ : Aside0 (((((w8.setCell ⟨gb362, 0, none⟩ (.int .i64 t355)).setCell ⟨gb362, 1, none⟩ (.int .i64 t356)).setCell ⟨gb362, 2, none⟩ (.int .i64 t357)).setCell ⟨gb362, 3, none⟩ (.int .i64 t358)).heap[gb362]? = some (.cells #[.int .i64 t355, .int .i64 t356, .int .i64 t357, .int .i64 t358] 45 (0, 0))) := ⟨bq_ BK362⟩
 have n2_ : Aside0 (IsS116 w ((((w8.setCell ⟨gb362, 0, none⟩ (.int .i64 t355)).setCell ⟨gb362, 1, none⟩ (.int .i64 t356)).setCell ⟨gb362, 2, none⟩ (.int .i64 t357)).setCell ⟨gb362, 3, none⟩ (.int .i64 t358)) g354 t350 t359 t360 t361) := ⟨is2_1_⟩
 have n3_ : Aside0 (Below w.heap.size w ((((w8.setCell ⟨gb362, 0, none⟩ (.int .i64 t355)).setCell ⟨gb362, 1, none⟩ (.int .i64 t356)).setCell ⟨gb362, 2, none⟩ (.int .i64 t357)).setCell ⟨gb362, 3, none⟩ (.int .i64 t358))) := ⟨au2_40⟩
 (try clear BK349)
 (try clear BK362)
 (try clear HI354)
 (try clear HB)
 generalize ((((w8.setCell ⟨gb362, 0, none⟩ (.int .i64 t355)).setCell ⟨gb362, 1, none⟩ (.int .i64 t356)).setCell ⟨gb362, 2, none⟩ (.int .i64 t357)).setCell ⟨gb362, 3, none⟩ (.int .i64 t358)) = w12 at n0_ n1_ n2_ n3_ ⊢
 have BK349 := n0_
 have BK362 := n1_
 have HI354 := n2_
 have HB := n3_
 clear n0_ n1_ n2_ n3_
 replace BK349 := bd_ BK349
 replace BK362 := bd_ BK362
 replace HI354 := am_ (IsS116.drew HI354.out)
 replace HB := am_ (below_drew1 HB.out)
 refine start_ (n := 5) (S := fun w' => w'.cell? ⟨gb362, 0, none⟩ = some (.int .i64 t355) ∧ w'.cell? ⟨gb362, 1, none⟩ = some (.int .i64 t356) ∧ w'.cell? ⟨gb362, 2, none⟩ = some (.int .i64 t357) ∧ w'.cell? ⟨gb362, 3, none⟩ = some (.int .i64 t358)) (ds := []) #[false, false, false, false, false] (by kernel_rfl) rfl rfl ⟨(blk_cell BK362.out 0).trans rfl, (blk_cell BK362.out 1).trans rfl, (blk_cell BK362.out 2).trans rfl, (blk_cell BK362.out 3).trans rfl⟩ (fun hHeld => ?_)
 generalize w12.drew = w13 at BK349 BK362 HI354 HB hHeld ⊢
 refine pk_ 1 11 #[false, true, false, false, false] ?_ rfl rfl
 refine take_ (i := 0) (N := some 10) (v := ?_) (a' := ?_) #[true, true, false, false, false] rfl rfl (by kernel_rfl) (fun _ _ _ h => h) (Or.inl ⟨by rfl, ?_⟩) hHeld ?_ ?_
 rotate_left
 ·rintro w' ⟨s0, s1, s2, s3⟩
  go_simp
  with_reducible rfl
 rotate_left
 ·simp only [Act.put, List.setIfInBounds_toArray, List.set_cons_zero, List.set_cons_succ, i64_w, i32_w]
  rfl
 refine one_ (i := 2) (N := some 12) #[true, true, true, false, false] rfl rfl (by kernel_rfl) (by decide) (fun K hK => ?_)
 refine gr_ Try.func42 #[.pointer (some ⟨g354, 0, none⟩)] (by rfl) ?_ rfl rfl rfl
 with_reducible refine (F42.calls k g354 t350 t359 t360 t361 t363 t366 t367 t368 w _ ?s1 ?s2 A4.out).mono ?_
 (case s1 => repeat (first | (with_reducible first | exact HI354.out | apply IsS116.alloc | apply IsS116.drewN | apply IsS116.drew | apply IsS116.set_1 | apply IsS116.set_2 | apply IsS116.set_3 | refine IsS116.far ?_ NB354_349.out _ | refine IsS116.far ?_ NB354_362.out _) | exact HI354.out))
 (case s2 => repeat (first | (with_reducible first | exact HB.out | apply below_alloc | apply pw_below_drewN | apply below_drew1 | refine below_set ?_ (IsS116.ge HI354.out) | refine below_set ?_ GE349.out | refine below_set ?_ GE362.out) | exact HB.out))
 rintro e w14 ⟨v364, rfl, ho0, hi, hb, hk⟩
 refine ⟨_, rfl, ?_⟩
 replace BK349 := ka_ hk BK349 NB349_354
 replace BK362 := ka_ hk BK362 NB362_354
 have HO365 := am_ (Kd.R_lower ho0 (below_size (by repeat (first | (with_reducible first | exact HB.out | apply below_alloc | apply pw_below_drewN | apply below_drew1 | refine below_set ?_ (IsS116.ge HI354.out) | refine below_set ?_ GE349.out | refine below_set ?_ GE362.out) | exact HB.out))))
 replace HB := am_ (hb)
 replace HI354 := am_ (hi)
 (try clear hb)
 (try clear hb2)
 (try clear hk)
 (try clear hi)
 (try clear ho0)
 refine hK.out _ _ ⟨(blk_cell BK362.out 0).trans rfl, (blk_cell BK362.out 1).trans rfl, (blk_cell BK362.out 2).trans rfl, (blk_cell BK362.out 3).trans rfl⟩ (fun hHeld => ?_)
 clear hK K
 refine no_ 12 ?_
 refine one_ (i := 3) (N := none) #[true, true, true, true, false] rfl rfl (by kernel_rfl) (by decide) (fun K hK => ?_)
 have hs15 : w14.cell? ⟨gb349, 0, none⟩ = some (.int .i64 0) := (blk_cell BK349.out 0).trans rfl
 have hfs15 := blk_frozen BK349.out 0
 have hns15_1 := NB362_349.out
 have hms15_1 := NB349_362.out
 have hs16 : w14.cell? ⟨gb349, 1, none⟩ = some (.int .i64 0) := (blk_cell BK349.out 1).trans rfl
 have hfs16 := blk_frozen BK349.out 1
 have hns16_1 := NB362_349.out
 have hms16_1 := NB349_362.out
 have hs17 : w14.cell? ⟨gb349, 2, none⟩ = some (.int .i64 0) := (blk_cell BK349.out 2).trans rfl
 have hfs17 := blk_frozen BK349.out 2
 have hns17_1 := NB362_349.out
 have hms17_1 := NB349_362.out
 have hs18 : w14.cell? ⟨gb349, 3, none⟩ = some (.int .i64 0) := (blk_cell BK349.out 3).trans rfl
 have hfs18 := blk_frozen BK349.out 3
 have hns18_1 := NB362_349.out
 have hms18_1 := NB349_362.out
 refine skip_ (w1 := ?_) (by rfl) rfl ?_ ?_
 rotate_left
 ·go_simp
  rfl
 refine hK.out _ _ ⟨((cell_far (p := ⟨gb349, _, none⟩) NB362_349.out _).trans (((cell_far (p := ⟨gb349, _, none⟩) NB362_349.out _).trans (((cell_far (p := ⟨gb349, _, none⟩) NB362_349.out _).trans (((cell_far (p := ⟨gb349, _, none⟩) NB362_349.out _).trans (hHeld.1)))))))), ((cell_far (p := ⟨gb349, _, none⟩) NB362_349.out _).trans (((cell_far (p := ⟨gb349, _, none⟩) NB362_349.out _).trans (((cell_far (p := ⟨gb349, _, none⟩) NB362_349.out _).trans (((cell_far (p := ⟨gb349, _, none⟩) NB362_349.out _).trans (hHeld.2.1)))))))), ((cell_far (p := ⟨gb349, _, none⟩) NB362_349.out _).trans (((cell_far (p := ⟨gb349, _, none⟩) NB362_349.out _).trans (((cell_far (p := ⟨gb349, _, none⟩) NB362_349.out _).trans (((cell_far (p := ⟨gb349, _, none⟩) NB362_349.out _).trans (hHeld.2.2.1)))))))), ((cell_far (p := ⟨gb349, _, none⟩) NB362_349.out _).trans (((cell_far (p := ⟨gb349, _, none⟩) NB362_349.out _).trans (((cell_far (p := ⟨gb349, _, none⟩) NB362_349.out _).trans (((cell_far (p := ⟨gb349, _, none⟩) NB362_349.out _).trans (hHeld.2.2.2))))))))⟩ (fun hHeld => ?_)
 clear hK K
 refine pk_ 4 3 #[true, true, true, true, true] ?_ rfl rfl
 refine done_ (by kernel_rfl) ?_
 try go_wp2
 refine bodyPost_ret (results_ct rfl _ _ gb349 45 #[.int .i64 t355, .int .i64 t356, .int .i64 t357, .int .i64 t358] (0, 0) _ rfl (bq_ BK349) Try.underlying45 rfl (by kernel_rfl)) rfl ?_
 exact ⟨_, au2_23, by (with_reducible repeat (first | apply Kd.R_alloc | apply Kd.R_drewN | apply Kd.R_drew)); exact Kd.R_mono (Kd.R_far (p := ⟨gb349, 3, none⟩) (Kd.R_far (p := ⟨gb349, 2, none⟩) (Kd.R_far (p := ⟨gb349, 1, none⟩) (Kd.R_far (p := ⟨gb349, 0, none⟩) (Kd.R_types HO365.out BK349.out (by decide)) (fun _ hk => hk.2) (.int .i64 t355)) (fun _ hk => hk.2) (.int .i64 t356)) (fun _ hk => hk.2) (.int .i64 t357)) (fun _ hk => hk.2) (.int .i64 t358)) (fun _ hk => trivial), au2_40⟩

/-! ### F76: function 76 -/
def F76.f (a0 : Int) : Option (Bool) := if a0 < 33 then (some false) else (if a0 > 126 then (some false) else (if a0 = 45 then (some false) else (if a0 ≥ 65 then (if a0 ≤ 90 then (some (!true)) else (if a0 ≥ 97 then (if a0 ≤ 122 then (some (!true)) else (if a0 ≥ 48 then (some (!(decide (a0 ≤ 57)))) else (some (!false)))) else (if a0 ≥ 48 then (some (!(decide (a0 ≤ 57)))) else (some (!false))))) else (if a0 ≥ 97 then (if a0 ≤ 122 then (some (!true)) else (if a0 ≥ 48 then (some (!(decide (a0 ≤ 57)))) else (some (!false)))) else (if a0 ≥ 48 then (some (!(decide (a0 ≤ 57)))) else (some (!false)))))))
theorem F76.calls (a0 : Int) (r : Bool) (w : World) (h : F76.f a0 = some r) :
  Calls Try.prog 76 #[.int .i64 a0] w fun e w' => e = .returned (.bool r) ∧ Drawn0 w w' := by
 have H : (if a0 < 33 then (some false) else (if a0 > 126 then (some false) else (if a0 = 45 then (some false) else (if a0 ≥ 65 then (if a0 ≤ 90 then (some (!true)) else (if a0 ≥ 97 then (if a0 ≤ 122 then (some (!true)) else (if a0 ≥ 48 then (some (!(decide (a0 ≤ 57)))) else (some (!false)))) else (if a0 ≥ 48 then (some (!(decide (a0 ≤ 57)))) else (some (!false))))) else (if a0 ≥ 97 then (if a0 ≤ 122 then (some (!true)) else (if a0 ≥ 48 then (some (!(decide (a0 ≤ 57)))) else (some (!false)))) else (if a0 ≥ 48 then (some (!(decide (a0 ≤ 57)))) else (some (!false)))))))) = some r := h
 clear h
 replace H := it_ H; rcases H with ⟨c2b0, H⟩ | ⟨c2b0, H⟩
 ·obtain rfl := Option.some.inj H
  go_enter Try.func76, Try.ntmps76
  go_wp2
  go_ret
  exact ⟨er_, dn_⟩
 replace H := it_ H; rcases H with ⟨(c3b0 : decide (126 < a0) = true), H⟩ | ⟨(c3b0 : decide (126 < a0) = false), H⟩
 ·obtain rfl := Option.some.inj H
  go_enter Try.func76, Try.ntmps76
  go_wp2
  go_ret
  exact ⟨er_, dn_⟩
 by_cases c4 : a0 = 45
 ·rw [if_pos c4] at H
  have c4b0 : (a0 == 45) = true := beq_iff_eq.mpr c4
  have c4b1 : (a0 != 45) = false := bne_eq_false_iff_eq.mpr c4
  clear c4
  obtain rfl := Option.some.inj H
  go_enter Try.func76, Try.ntmps76
  go_wp2
  go_ret
  exact ⟨er_, dn_⟩
 rw [if_neg c4] at H
 have c4b0 : (a0 == 45) = false := beq_eq_false_iff_ne.mpr c4
 have c4b1 : (a0 != 45) = true := bne_iff_ne.mpr c4
 replace H := it_ H; rcases H with ⟨(c5b0 : decide (65 ≤ a0) = true), H⟩ | ⟨(c5b0 : decide (65 ≤ a0) = false), H⟩
 rotate_left
 ·replace H := it_ H; rcases H with ⟨(c11b0 : decide (97 ≤ a0) = true), H⟩ | ⟨(c11b0 : decide (97 ≤ a0) = false), H⟩
  rotate_left
  ·replace H := it_ H; rcases H with ⟨(c14b0 : decide (48 ≤ a0) = true), H⟩ | ⟨(c14b0 : decide (48 ≤ a0) = false), H⟩
   rotate_left
   ·obtain rfl := Option.some.inj H
    go_enter Try.func76, Try.ntmps76
    go_wp2
    go_ret
    exact ⟨er_, dn_⟩
   obtain rfl := Option.some.inj H
   go_enter Try.func76, Try.ntmps76
   go_wp2
   go_ret
   exact ⟨er_, dn_⟩
  replace H := it_ H; rcases H with ⟨c12b0, H⟩ | ⟨c12b0, H⟩
  ·obtain rfl := Option.some.inj H
   go_enter Try.func76, Try.ntmps76
   go_wp2
   go_ret
   exact ⟨er_, dn_⟩
  replace H := it_ H; rcases H with ⟨(c13b0 : decide (48 ≤ a0) = true), H⟩ | ⟨(c13b0 : decide (48 ≤ a0) = false), H⟩
  rotate_left
  ·obtain rfl := Option.some.inj H
   go_enter Try.func76, Try.ntmps76
   go_wp2
   go_ret
   exact ⟨er_, dn_⟩
  obtain rfl := Option.some.inj H
  go_enter Try.func76, Try.ntmps76
  go_wp2
  go_ret
  exact ⟨er_, dn_⟩
 replace H := it_ H; rcases H with ⟨c6b0, H⟩ | ⟨c6b0, H⟩
 ·obtain rfl := Option.some.inj H
  go_enter Try.func76, Try.ntmps76
  go_wp2
  go_ret
  exact ⟨er_, dn_⟩
 replace H := it_ H; rcases H with ⟨(c7b0 : decide (97 ≤ a0) = true), H⟩ | ⟨(c7b0 : decide (97 ≤ a0) = false), H⟩
 rotate_left
 ·replace H := it_ H; rcases H with ⟨(c10b0 : decide (48 ≤ a0) = true), H⟩ | ⟨(c10b0 : decide (48 ≤ a0) = false), H⟩
  rotate_left
  ·obtain rfl := Option.some.inj H
   go_enter Try.func76, Try.ntmps76
   go_wp2
   go_ret
   exact ⟨er_, dn_⟩
  obtain rfl := Option.some.inj H
  go_enter Try.func76, Try.ntmps76
  go_wp2
  go_ret
  exact ⟨er_, dn_⟩
 replace H := it_ H; rcases H with ⟨c8b0, H⟩ | ⟨c8b0, H⟩
 ·obtain rfl := Option.some.inj H
  go_enter Try.func76, Try.ntmps76
  go_wp2
  go_ret
  exact ⟨er_, dn_⟩
 replace H := it_ H; rcases H with ⟨(c9b0 : decide (48 ≤ a0) = true), H⟩ | ⟨(c9b0 : decide (48 ≤ a0) = false), H⟩
 rotate_left
 ·obtain rfl := Option.some.inj H
  go_enter Try.func76, Try.ntmps76
  go_wp2
  go_ret
  exact ⟨er_, dn_⟩
 obtain rfl := Option.some.inj H
 go_enter Try.func76, Try.ntmps76
 go_wp2
 go_ret
 exact ⟨er_, dn_⟩
end Go.Proofs.Ytlghcbmkhdibdaa.PFnFirstSegments
