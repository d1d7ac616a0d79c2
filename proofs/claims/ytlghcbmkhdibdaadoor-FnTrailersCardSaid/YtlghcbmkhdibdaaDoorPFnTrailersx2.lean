-- printed by a program of this session (wip/xp/xprint.py) out of the translation; Lean checks it
import Derived.Test.YtlghcbmkhdibdaaDoorPFnTrailersx0
import Derived.Test.YtlghcbmkhdibdaaDoorPFnTrailersx1
namespace Go.Proofs.YtlghcbmkhdibdaaDoor.PFnTrailers
open Go.RowKit Go.Proofs.YtlghcbmkhdibdaaDoorW.PrintWords Go.Proofs.YtlghcbmkhdibdaaDoorW.PrintLast Go.Proofs.YtlghcbmkhdibdaaDoorW.PrintMore
attribute [local go_sem] max2_int min2_int max_two min_two max_three min_three max_four min_four   -- for this text's walks alone
set_option linter.unusedVariables false
set_option linter.unusedSimpArgs false
set_option maxHeartbeats 8000000
set_option maxRecDepth 100000

theorem is2_0_ {p : Prop} (h : p := by repeat (first | (with_reducible first | exact ay.out | apply IsS111.alloc | apply IsS111.drewN | apply IsS111.drew | apply IsS111.set_1 | apply IsS111.set_2 | apply IsS111.set_3 | refine IsS111.far ?_ (Aside0.out (by assumption)) _) | exact ay.out)) : p := h

theorem au2_0 {p : Prop} (h : p := by repeat (first | (with_reducible first | exact HK.out | apply KeepBut.set_ | apply keep_drewN | apply keep_drew | apply keep_alloc | refine keep_far ?_ pA.out _ | refine keep_far ?_ qM.out _ | refine keep_far ?_ ti.out _) | exact HK.out)) : p := h
theorem au2_1 {p : Prop} (h : p := by repeat (first | (with_reducible first | exact ay.out | apply IsS111.alloc | apply IsS111.drewN | apply IsS111.drew | apply IsS111.set_1 | apply IsS111.set_2 | apply IsS111.set_3 | refine IsS111.far ?_ gM.out _ | refine IsS111.far ?_ kU.out _ | refine IsS111.far ?_ dV.out _) | exact ay.out)) : p := h
theorem au2_2 {p : Prop} (h : p := by repeat (first | (with_reducible first | exact HB.out | apply below_alloc | apply pw_below_drewN | apply below_drew1 | refine below_set ?_ (IsS111.ge ay.out) | refine below_set ?_ lv.out | refine below_set ?_ l8.out | refine below_set ?_ pB.out) | exact HB.out)) : p := h
theorem au2_3 {p : Prop} (h : p := by repeat (first | (with_reducible first | exact HB.out | apply below_alloc | apply pw_below_drewN | apply below_drew1 | refine below_set ?_ (IsS111.ge ay.out) | refine below_set ?_ lv.out | refine below_set ?_ l8.out | refine below_set ?_ pB.out) | exact HB.out)) : p := h
theorem au2_4 {p : Prop} (h : p := by repeat (first | (with_reducible first | exact HK.out | apply KeepBut.set_ | apply keep_drewN | apply keep_drew | apply keep_alloc | refine keep_far ?_ pA.out _ | refine keep_far ?_ qM.out _ | refine keep_far ?_ ti.out _ | refine keep_far ?_ BH.out _) | exact HK.out)) : p := h
theorem au2_5 {p : Prop} (h : p := by (with_reducible repeat (first | apply Kd.S_alloc | apply Kd.S_drewN | apply Kd.S_drew)); exact ab.out) : p := h
theorem au2_6 {p : Prop} (h : p := by repeat (first | (with_reducible first | exact HB.out | apply below_alloc | apply pw_below_drewN | apply below_drew1 | refine below_set ?_ (IsS111.ge ay.out) | refine below_set ?_ lv.out | refine below_set ?_ l8.out | refine below_set ?_ pB.out) | exact HB.out)) : p := h
theorem au2_7 {p : Prop} (h : p := by repeat (first | (with_reducible first | exact HK.out | apply KeepBut.set_ | apply keep_drewN | apply keep_drew | apply keep_alloc | refine keep_far ?_ pA.out _ | refine keep_far ?_ qM.out _ | refine keep_far ?_ ti.out _) | exact HK.out)) : p := h
theorem au2_8 {p : Prop} (h : p := by repeat (first | (with_reducible first | exact ay.out | apply IsS111.alloc | apply IsS111.drewN | apply IsS111.drew | apply IsS111.set_1 | apply IsS111.set_2 | apply IsS111.set_3 | refine IsS111.far ?_ gM.out _ | refine IsS111.far ?_ kU.out _ | refine IsS111.far ?_ dV.out _ | refine IsS111.far ?_ l9.out _) | exact ay.out)) : p := h
theorem au2_9 {p : Prop} (h : p := by repeat (first | (with_reducible first | exact HB.out | apply below_alloc | apply pw_below_drewN | apply below_drew1 | refine below_set ?_ (IsS111.ge ay.out) | refine below_set ?_ lv.out | refine below_set ?_ l8.out | refine below_set ?_ pB.out | refine below_set ?_ xA.out) | exact HB.out)) : p := h
theorem au2_10 {p : Prop} (h : p := by repeat (first | (with_reducible first | exact HK.out | apply KeepBut.set_ | apply keep_drewN | apply keep_drew | apply keep_alloc | refine keep_far ?_ pA.out _ | refine keep_far ?_ qM.out _) | exact HK.out)) : p := h
theorem au2_11 {p : Prop} (h : p := by repeat (first | (with_reducible exact jL.out) | (with_reducible refine Kd.C_alloc ?_ _) | (with_reducible refine Kd.C_drewN ?_ _) | (with_reducible refine Kd.C_drew ?_) | exact jL.out)) : p := h
theorem au2_12 {p : Prop} (h : p := by repeat (first | (with_reducible first | exact HB.out | apply below_alloc | apply pw_below_drewN | apply below_drew1 | refine below_set ?_ (IsS111.ge ay.out) | refine below_set ?_ lv.out | refine below_set ?_ l8.out | refine below_set ?_ pB.out | refine below_set ?_ xA.out) | exact HB.out)) : p := h
theorem au2_13 {p : Prop} (h : p := by repeat (first | (with_reducible first | exact HK.out | apply KeepBut.set_ | apply keep_drewN | apply keep_drew | apply keep_alloc | refine keep_far ?_ pA.out _ | refine keep_far ?_ qM.out _ | refine keep_far ?_ ti.out _ | refine keep_far ?_ BH.out _) | exact HK.out)) : p := h
theorem au2_14 {p : Prop} (h : p := by repeat (first | (with_reducible first | exact HB.out | apply below_alloc | apply pw_below_drewN | apply below_drew1 | refine below_set ?_ (IsS111.ge ay.out) | refine below_set ?_ lv.out | refine below_set ?_ l8.out | refine below_set ?_ pB.out | refine below_set ?_ xA.out) | exact HB.out)) : p := h
theorem au2_15 {p : Prop} (h : p := by repeat (first | (with_reducible first | exact HK.out | apply KeepBut.set_ | apply keep_drewN | apply keep_drew | apply keep_alloc | refine keep_far ?_ pA.out _) | exact HK.out)) : p := h
theorem au2_16 {p : Prop} (h : p := by exact (Reps.one (show Kd.M Kd.string _ _ _ (⟨#[]⟩ : ByteArray) [.string (⟨#[]⟩ : ByteArray)] from rfl) (Reps.one (show Kd.M Kd.string _ _ _ (⟨#[98]⟩ : ByteArray) [.string (⟨#[98]⟩ : ByteArray)] from rfl) (Reps.none _ _)))) : p := h
theorem au2_17 {p : Prop} (h : p := by (with_reducible repeat (first | apply Kd.R_alloc | apply Kd.R_drewN | apply Kd.R_drew)); exact iI.out) : p := h
theorem au2_18 {p : Prop} (h : p := by repeat (first | exact (Kd.R_reads' cC.out).2.2 | (with_reducible refine Kd.C_alloc ?_ _) | (with_reducible refine Kd.C_drewN ?_ _) | (with_reducible refine Kd.C_drew ?_))) : p := h
theorem au2_19 {p : Prop} (h : p := by exact (Reps.one (show Kd.M Kd.string _ _ _ (⟨#[10]⟩ : ByteArray) [.string (⟨#[10]⟩ : ByteArray)] from rfl) (Reps.one (show Kd.M Kd.string _ _ _ (⟨#[255]⟩ : ByteArray) [.string (⟨#[255]⟩ : ByteArray)] from rfl) (Reps.one (show Kd.M Kd.string _ _ _ (⟨#[97]⟩ : ByteArray) [.string (⟨#[97]⟩ : ByteArray)] from rfl) (Reps.none _ _))))) : p := h
theorem au2_20 {p : Prop} (h : p := by (with_reducible repeat (first | apply Kd.S_alloc | apply Kd.S_drewN | apply Kd.S_drew)); exact ab.out) : p := h
theorem au2_22 {p : Prop} (h : p := by repeat (first | (with_reducible first | exact HK.out | apply KeepBut.set_ | apply keep_drewN | apply keep_drew | apply keep_alloc) | exact HK.out)) : p := h
theorem au2_23 {p : Prop} (h : p := by first | rfl | (simp [errW_none, errW_some] <;> rfl) | (simp [*, errW_none, errW_some] <;> rfl)) : p := h
theorem au2_24 {p : Prop} (h : p := by (with_reducible repeat (first | apply Kd.R_alloc | apply Kd.R_drewN | apply Kd.R_drew)); exact Kd.R_mono cC.out (fun _ hk => hk.2)) : p := h
theorem au2_25 {p : Prop} (h : p := by (with_reducible repeat (first | apply Kd.R_alloc | apply Kd.R_drewN | apply Kd.R_drew)); exact Kd.R_mono eb.out (fun _ hk => hk.2)) : p := h
theorem au2_26 {p : Prop} (h : p := by repeat (first | (with_reducible first | exact HB.out | apply below_alloc | apply pw_below_drewN | apply below_drew1 | refine below_set ?_ (IsS111.ge ay.out) | refine below_set ?_ lv.out | refine below_set ?_ l8.out) | exact HB.out)) : p := h
theorem au2_27 {p : Prop} (h : p := by repeat (first | (with_reducible first | exact HB.out | apply below_alloc | apply pw_below_drewN | apply below_drew1 | refine below_set ?_ (IsS111.ge ay.out) | refine below_set ?_ lv.out) | exact HB.out)) : p := h
theorem au2_28 {p : Prop} (h : p := by first | exact nu | exact of_decide_eq_true as_ | (have e_ := (Kd.S_reads' ab.out).1; omega)) : p := h
theorem au2_29 {p : Prop} (h : p := by simp only [putAll, Act.put, List.setIfInBounds_toArray, List.set_cons_zero, List.set_cons_succ]) : p := h
theorem au2_30 {p : Prop} (h : p := by exact (by (with_reducible repeat (first | apply Kd.S_alloc | apply Kd.S_drewN | apply Kd.S_drew)); exact Kd.S_mono ab.out (fun k_ hk => ⟨hk.2, fun e_ => hk.1 e_⟩))) : p := h
theorem au2_31 {p : Prop} (h : p := by have := Fw.out; have := HK2.out; have := pC.out; first | omega | exact Nat.le_refl _) : p := h
theorem au2_32 {p : Prop} (h : p := by rintro w' ⟨s0, s1, s2, s3, s4⟩; go_simp; with_reducible rfl) : p := h
theorem au2_33 {p : Prop} (h : p := by have := Fw.out; have := HK2.out; have := pC.out; omega) : p := h
theorem au2_34 {p : Prop} (h : p := by (with_reducible repeat (first | apply Kd.S_alloc | apply Kd.S_drewN | apply Kd.S_drew)); exact Kd.S_mono ab.out (fun _ hk => ⟨hk.1.2, hk.2⟩)) : p := h
theorem au2_35 {p : Prop} (h : p := by exact far_slice (IsS111.own_ne ay.out cC.out (by decide))) : p := h
theorem au2_21 {p : Prop} (h : p := by repeat (first | exact au2_11 | (with_reducible refine Kd.C_alloc ?_ _) | (with_reducible refine Kd.C_drewN ?_ _) | (with_reducible refine Kd.C_drew ?_))) : p := h
theorem au2_36 {p : Prop} (h : p := by exact (keep_size (w := w) (g := g) (row := none) au2_4)) : p := h

/-! ### F69: function 69 -/
mutual
def F69.j0 : Nat → Int → List Int → Int → Int → Int → Int → Int → Int → Int → ByteArray → Option (ByteArray × (List (S55)) × Int × Int × Int)
  | 0, _, _, _, _, _, _, _, _, _, _ => none
  | k + 1, x5, be, dm, dn, dp, gN, gO, gP, gQ, cV => F69.l0 k x5 be dm dn dp gN gO gP gQ cV ([] : List (S55))
def F69.l0 : Nat → Int → List Int → Int → Int → Int → Int → Int → Int → Int → ByteArray → List (S55) → Option (ByteArray × (List (S55)) × Int × Int × Int)
  | 0, _, _, _, _, _, _, _, _, _, _, _ => none
  | k + 1, x5, be, dm, dn, dp, gN, gO, gP, gQ, cV, bK => if x5 > 0 then ((F68.f be dm dn dp 2).bind fun xB => ((F68.f be xB.2.1 xB.2.2.1 xB.2.2.2 4).bind fun xC => (F69.l1 k x5 (wrap64 (1 + (wrap64 (xB.1 * xC.1)))) be xC.2.1 xC.2.2.1 xC.2.2.2 gN gO gP gQ cV bK ([] : List ByteArray)))) else (F69.l2 k be dm dn dp cV bK)
def F69.l1 : Nat → Int → Int → List Int → Int → Int → Int → Int → Int → Int → Int → ByteArray → List (S55) → List ByteArray → Option (ByteArray × (List (S55)) × Int × Int × Int)
  | 0, _, _, _, _, _, _, _, _, _, _, _, _, _ => none
  | k + 1, x5, x7, be, dm, dn, dp, gN, gO, gP, gQ, cV, bK, ma => if x7 > 0 then ((F68.f be dm dn dp 6).bind fun xD => ((F101.f k be xD.2.1 xD.2.2.1 xD.2.2.2 gN gO gP gQ xD.1).bind fun xE => (if ma.length < 8796093022208 then (F69.l1 k x5 (wrap64 (x7 - 1)) be xE.2.1 xE.2.2.1 xE.2.2.2 gN gO gP gQ cV bK (ma ++ [xE.1])) else (none)))) else ((F70.f be dm dn dp 60).bind fun pD => (if pD.1 = true then ((F68.f be pD.2.1 pD.2.2.1 pD.2.2.2 3).bind fun xF => ((F101.f k be xF.2.1 xF.2.2.1 xF.2.2.2 gN gO gP gQ (wrap64 (39 + xF.1))).bind fun xG => (if 0 < (ma.length : Int) then (if bK.length < 5864062014805 then (F69.l0 k (wrap64 (x5 - 1)) be xG.2.1 xG.2.2.1 xG.2.2.2 gN gO gP gQ cV (bK ++ [(⟨(ma.set (0 : Int).toNat xG.1)⟩ : S55)])) else (none)) else (none)))) else (if bK.length < 5864062014805 then (F69.l0 k (wrap64 (x5 - 1)) be pD.2.1 pD.2.2.1 pD.2.2.2 gN gO gP gQ cV (bK ++ [(⟨ma⟩ : S55)])) else (none))))
def F69.j4 : Nat → List Int → Int → Int → Int → ByteArray → List (S55) → Option (ByteArray × (List (S55)) × Int × Int × Int)
  | 0, _, _, _, _, _, _ => none
  | k + 1, be, dm, dn, dp, cV, bK => (F70.f be dm dn dp 20).bind fun pE => (if pE.1 = true then ((F68.f be pE.2.1 pE.2.2.1 pE.2.2.2 3).bind fun kx => (if kx.1 = 0 then ((F67.f be kx.2.1 kx.2.2.1 kx.2.2.2 (([(⟨#[]⟩ : ByteArray), (⟨#[65, 66]⟩ : ByteArray), (⟨#[65, 66, 67, 68]⟩ : ByteArray), (⟨#[65, 66, 49]⟩ : ByteArray), (⟨#[97, 98, 99]⟩ : ByteArray)] : List ByteArray))).bind fun mb => (some (mb.1, bK, mb.2.1, mb.2.2.1, mb.2.2.2))) else (if kx.1 = 1 then (if bK.length < 5864062014805 then (some (cV, (bK ++ [(⟨([] : List ByteArray)⟩ : S55)]), kx.2.1, kx.2.2.1, kx.2.2.2)) else (none)) else ((F67.f be kx.2.1 kx.2.2.1 kx.2.2.2 (([(⟨#[10]⟩ : ByteArray), (⟨#[255]⟩ : ByteArray), (⟨#[97]⟩ : ByteArray)] : List ByteArray))).bind fun me => ((F67.f be me.2.1 me.2.2.1 me.2.2.2 (([(⟨#[]⟩ : ByteArray), (⟨#[98]⟩ : ByteArray)] : List ByteArray))).bind fun iJ => (if bK.length < 5864062014805 then (some (cV, (bK ++ [(⟨(([me.1, iJ.1] : List ByteArray))⟩ : S55)]), iJ.2.1, iJ.2.2.1, iJ.2.2.2)) else (none))))))) else (some (cV, bK, pE.2.1, pE.2.2.1, pE.2.2.2)))
def F69.l2 : Nat → List Int → Int → Int → Int → ByteArray → List (S55) → Option (ByteArray × (List (S55)) × Int × Int × Int)
  | 0, _, _, _, _, _, _ => none
  | k + 1, be, dm, dn, dp, cV, bK => if (bK.length : Int) > 0 then (if 0 ≤ (wrap64 ((bK.length : Int) - 1)) then (if (wrap64 ((bK.length : Int) - 1)) < (bK.length : Int) then ((F73.f ((rd_T55 bK (wrap64 ((bK.length : Int) - 1))).f0)).bind fun Gq => (if Gq = true then ((F70.f be dm dn dp 20).bind fun ig => (if ig.1 = true then (F69.j4 k be ig.2.1 ig.2.2.1 ig.2.2.2 cV bK) else (if (wrap64 ((bK.length : Int) - 1)) ≤ (bK.length : Int) then (F69.l2 k be ig.2.1 ig.2.2.1 ig.2.2.2 cV (bK.take ((wrap64 ((bK.length : Int) - 1)) : Int).toNat)) else (none)))) else (F69.j4 k be dm dn dp cV bK))) else (none)) else (none)) else (F69.j4 k be dm dn dp cV bK)
end
def F69.f (k : Nat) (ae : List Int) (bh : Int) (am : Int) (bB : Int) : Option (ByteArray × (List (S55)) × Int × Int × Int) := (F100.f).bind fun ga => ((F67.f ae bh am bB (([(⟨#[68, 79, 67]⟩ : ByteArray), (⟨#[76, 73, 78]⟩ : ByteArray), (⟨#[78, 79, 84]⟩ : ByteArray), (⟨#[65, 66, 67]⟩ : ByteArray), (⟨#[73, 88, 72]⟩ : ByteArray)] : List ByteArray))).bind fun gc => ((F68.f ae gc.2.1 gc.2.2.1 gc.2.2.2 5).bind fun iK => ((F70.f ae iK.2.1 iK.2.2.1 iK.2.2.2 40).bind fun ec => (if ec.1 = true then ((F68.f ae ec.2.1 ec.2.2.1 ec.2.2.2 3).bind fun iL => (F69.j0 k (wrap64 (9 + iL.1)) ae iL.2.1 iL.2.2.1 iL.2.2.2 ga.1 ga.2.1 ga.2.2.1 ga.2.2.2 gc.1)) else (F69.j0 k iK.1 ae ec.2.1 ec.2.2.1 ec.2.2.2 ga.1 ga.2.1 ga.2.2.1 ga.2.2.2 gc.1)))))
theorem F69.mono_l : ∀ k, (∀ y0 y1 y2 y3 y4 y5 y6 y7 y8 y9, LeO (F69.j0 k y0 y1 y2 y3 y4 y5 y6 y7 y8 y9) (F69.j0 (k + 1) y0 y1 y2 y3 y4 y5 y6 y7 y8 y9)) ∧ (∀ y0 y1 y2 y3 y4 y5 y6 y7 y8 y9 lD, LeO (F69.l0 k y0 y1 y2 y3 y4 y5 y6 y7 y8 y9 lD) (F69.l0 (k + 1) y0 y1 y2 y3 y4 y5 y6 y7 y8 y9 lD)) ∧ (∀ y0 y1 y2 y3 y4 y5 y6 y7 y8 y9 lD pF uw, LeO (F69.l1 k y0 y1 y2 y3 y4 y5 y6 y7 y8 y9 lD pF uw) (F69.l1 (k + 1) y0 y1 y2 y3 y4 y5 y6 y7 y8 y9 lD pF uw)) ∧ (∀ y0 y1 y2 y3 y4 y5, LeO (F69.j4 k y0 y1 y2 y3 y4 y5) (F69.j4 (k + 1) y0 y1 y2 y3 y4 y5)) ∧ (∀ y0 y1 y2 y3 y4 y5, LeO (F69.l2 k y0 y1 y2 y3 y4 y5) (F69.l2 (k + 1) y0 y1 y2 y3 y4 y5))
 | 0 => ⟨fun _ _ _ _ _ _ _ _ _ _ r h => by simp [F69.j0] at h, fun _ _ _ _ _ _ _ _ _ _ _ r h => by simp [F69.l0] at h, fun _ _ _ _ _ _ _ _ _ _ _ _ _ r h => by simp [F69.l1] at h, fun _ _ _ _ _ _ r h => by simp [F69.j4] at h, fun _ _ _ _ _ _ r h => by simp [F69.l2] at h⟩
 | k + 1 => by
  obtain ⟨b6, fd, gI, ke, uq⟩ := F69.mono_l k
  refine ⟨?_, ?_, ?_, ?_, ?_⟩
  rotate_left
  ·intro y0 y1 y2 y3 y4 y5 y6 y7 y8 y9 lD
   unfold F69.l0
   repeat' with_reducible first | exact b6 _ _ _ _ _ _ _ _ _ _ | exact fd _ _ _ _ _ _ _ _ _ _ _ | exact gI _ _ _ _ _ _ _ _ _ _ _ _ _ | exact ke _ _ _ _ _ _ | exact uq _ _ _ _ _ _ | exact F101.mono _ _ _ _ _ _ _ _ _ _ | exact LeO.refl _ | exact LeO.none _ | refine LeO.ite ?_ ?_ | refine LeO.bind ?_ (fun _ => ?_)
  ·intro y0 y1 y2 y3 y4 y5 y6 y7 y8 y9 lD pF uw
   unfold F69.l1
   repeat' with_reducible first | exact b6 _ _ _ _ _ _ _ _ _ _ | exact fd _ _ _ _ _ _ _ _ _ _ _ | exact gI _ _ _ _ _ _ _ _ _ _ _ _ _ | exact ke _ _ _ _ _ _ | exact uq _ _ _ _ _ _ | exact F101.mono _ _ _ _ _ _ _ _ _ _ | exact LeO.refl _ | exact LeO.none _ | refine LeO.ite ?_ ?_ | refine LeO.bind ?_ (fun _ => ?_)
  ·intro y0 y1 y2 y3 y4 y5
   unfold F69.j4
   repeat' with_reducible first | exact b6 _ _ _ _ _ _ _ _ _ _ | exact fd _ _ _ _ _ _ _ _ _ _ _ | exact gI _ _ _ _ _ _ _ _ _ _ _ _ _ | exact ke _ _ _ _ _ _ | exact uq _ _ _ _ _ _ | exact F101.mono _ _ _ _ _ _ _ _ _ _ | exact LeO.refl _ | exact LeO.none _ | refine LeO.ite ?_ ?_ | refine LeO.bind ?_ (fun _ => ?_)
  ·intro y0 y1 y2 y3 y4 y5
   unfold F69.l2
   repeat' with_reducible first | exact b6 _ _ _ _ _ _ _ _ _ _ | exact fd _ _ _ _ _ _ _ _ _ _ _ | exact gI _ _ _ _ _ _ _ _ _ _ _ _ _ | exact ke _ _ _ _ _ _ | exact uq _ _ _ _ _ _ | exact F101.mono _ _ _ _ _ _ _ _ _ _ | exact LeO.refl _ | exact LeO.none _ | refine LeO.ite ?_ ?_ | refine LeO.bind ?_ (fun _ => ?_)
  intro y0 y1 y2 y3 y4 y5 y6 y7 y8 y9
  unfold F69.j0
  repeat' with_reducible first | exact b6 _ _ _ _ _ _ _ _ _ _ | exact fd _ _ _ _ _ _ _ _ _ _ _ | exact gI _ _ _ _ _ _ _ _ _ _ _ _ _ | exact ke _ _ _ _ _ _ | exact uq _ _ _ _ _ _ | exact F101.mono _ _ _ _ _ _ _ _ _ _ | exact LeO.refl _ | exact LeO.none _ | refine LeO.ite ?_ ?_ | refine LeO.bind ?_ (fun _ => ?_)
theorem F69.mono : ∀ a0 a1 a2 a3 k, LeO (F69.f k a0 a1 a2 a3) (F69.f (k + 1) a0 a1 a2 a3) := by
 intro a0 a1 a2 a3 k
 obtain ⟨b6, fd, gI, ke, uq⟩ := F69.mono_l k
 unfold F69.f
 repeat' with_reducible first | exact b6 _ _ _ _ _ _ _ _ _ _ | exact fd _ _ _ _ _ _ _ _ _ _ _ | exact gI _ _ _ _ _ _ _ _ _ _ _ _ _ | exact ke _ _ _ _ _ _ | exact uq _ _ _ _ _ _ | exact F101.mono _ _ _ _ _ _ _ _ _ _ | exact LeO.refl _ | exact LeO.none _ | refine LeO.ite ?_ ?_ | refine LeO.bind ?_ (fun _ => ?_)
def F69.T12 : Bool × List (List Nat × List Nat) := (true, [([], []), ([0], [0]), ([], []), ([], []), ([], []), ([4], [4]), ([2, 3, 5, 5], [2, 3, 5]), ([6], [6]), ([1, 7, 6], [1, 7]), ([0, 1, 2, 3, 4, 5, 6, 7, 8], []), ([9, 8, 8, 0, 1, 2, 3, 4, 5, 6, 7, 8], [8, 9])])
def F69.B12 : List Nat := [0, 1, 0, 0, 0, 16, 60, 124, 255, 511, 1023]
theorem F69.tab12 : rtab .any (opsOf Tryd.f69 12) = F69.T12 := by kernel_rfl
theorem F69.bits12 : waitsOk F69.T12.2 F69.B12 = true := by kernel_rfl
def F69.T14 : Bool × List (List Nat × List Nat) := (true, [([], []), ([0], [0]), ([], []), ([], []), ([], []), ([4], [4]), ([5], [5]), ([2, 3, 6, 5], [2, 3, 6]), ([1, 0, 1, 2, 3, 4, 5, 6, 7], [1]), ([8, 7, 7, 0, 1, 2, 3, 4, 5, 6, 7], [7, 8])])
def F69.B14 : List Nat := [0, 1, 0, 0, 0, 16, 48, 124, 255, 511]
theorem F69.tab14 : rtab .any (opsOf Tryd.f69 14) = F69.T14 := by kernel_rfl
theorem F69.bits14 : waitsOk F69.T14.2 F69.B14 = true := by kernel_rfl
def F69.T20 : Bool × List (List Nat × List Nat) := (true, [([], []), ([0], [0]), ([], []), ([], []), ([2, 3], [2, 3]), ([], []), ([], []), ([5, 6, 4], [5, 6]), ([4, 7], [4, 7]), ([8], [8]), ([9], [9]), ([1, 10, 7], [1, 10]), ([0, 1, 2, 3, 4, 5, 6, 7, 8, 9, 10, 11], []), ([12, 11, 11, 0, 1, 2, 3, 4, 5, 6, 7, 8, 9, 10, 11], [11, 12])])
def F69.B20 : List Nat := [0, 1, 0, 0, 12, 0, 0, 124, 252, 508, 1020, 2047, 4095, 8191]
theorem F69.tab20 : rtab .any (opsOf Tryd.f69 20) = F69.T20 := by kernel_rfl
theorem F69.bits20 : waitsOk F69.T20.2 F69.B20 = true := by kernel_rfl
theorem F69.calls (k : Nat) (g : Nat) (ae : List Int) (bh : Int) (am : Int) (bB : Int) (r1 : ByteArray) (r2 : List (S55)) (r3 : Int) (r4 : Int) (r5 : Int) (w0 w : World) (hI : IsS111 w0 w g ae bh am bB) (hB : Below w0.heap.size w0 w) (h : F69.f k ae bh am bB = some (r1, r2, r3, r4, r5)) :
  Calls Tryd.prog 69 #[.pointer (some ⟨g, 0, none⟩)] w fun e w' => ∃ tj : Value, e = .returned (.agg #[.string r1, tj]) ∧ Kd.S k55 55 w' w.heap.size (fun _ => True) tj r2 ∧ IsS111 w0 w' g ae r3 r4 r5 ∧ Below w0.heap.size w0 w' ∧ KeepBut w w' g none := by
 have jn := Tryd.underlying52
 have IL := Tryd.underlying140
 have sY := Tryd.underlying55
 have ay := am_ hI
 have HK := am_ (KeepBut.refl w g none)
 have HL := am_ hB.size
 clear hI
 have qy := am_ hB.size
 have HB := am_ hB
 clear hB
 have H : ((F100.f).bind fun ga => ((F67.f ae bh am bB (([(⟨#[68, 79, 67]⟩ : ByteArray), (⟨#[76, 73, 78]⟩ : ByteArray), (⟨#[78, 79, 84]⟩ : ByteArray), (⟨#[65, 66, 67]⟩ : ByteArray), (⟨#[73, 88, 72]⟩ : ByteArray)] : List ByteArray))).bind fun gc => ((F68.f ae gc.2.1 gc.2.2.1 gc.2.2.2 5).bind fun iK => ((F70.f ae iK.2.1 iK.2.2.1 iK.2.2.2 40).bind fun ec => (if ec.1 = true then ((F68.f ae ec.2.1 ec.2.2.1 ec.2.2.2 3).bind fun iL => (F69.j0 k (wrap64 (9 + iL.1)) ae iL.2.1 iL.2.2.1 iL.2.2.2 ga.1 ga.2.1 ga.2.2.1 ga.2.2.2 gc.1)) else (F69.j0 k iK.1 ae ec.2.1 ec.2.2.1 ec.2.2.2 ga.1 ga.2.1 ga.2.2.1 ga.2.2.2 gc.1)))))) = some (r1, r2, r3, r4, r5) := h
 clear h
 replace H := bi_ H; rcases H with ⟨⟨gf, gg, gh, gi⟩, A2, H⟩
 obtain ⟨PG, BI⟩ : ∃ y_ : List ByteArray, y_ = (([(⟨#[68, 79, 67]⟩ : ByteArray), (⟨#[76, 73, 78]⟩ : ByteArray), (⟨#[78, 79, 84]⟩ : ByteArray), (⟨#[65, 66, 67]⟩ : ByteArray), (⟨#[73, 88, 72]⟩ : ByteArray)] : List ByteArray)) := ⟨_, rfl⟩
 replace H : ((F67.f ae bh am bB PG).bind fun gc => ((F68.f ae gc.2.1 gc.2.2.1 gc.2.2.2 5).bind fun iK => ((F70.f ae iK.2.1 iK.2.2.1 iK.2.2.2 40).bind fun ec => (if ec.1 = true then ((F68.f ae ec.2.1 ec.2.2.1 ec.2.2.2 3).bind fun iL => (F69.j0 k (wrap64 (9 + iL.1)) ae iL.2.1 iL.2.2.1 iL.2.2.2 gf gg gh gi gc.1)) else (F69.j0 k iK.1 ae ec.2.1 ec.2.2.1 ec.2.2.2 gf gg gh gi gc.1))))) = some (r1, r2, r3, r4, r5) := by first | (rw [BI]; exact H) | exact H
 have IS := am_ BI
 clear BI
 replace H := bi_ H; rcases H with ⟨⟨dD, BJ, BL, BM⟩, A3, H⟩
 replace H := bi_ H; rcases H with ⟨⟨PH, Ld, Gr, Gs⟩, A4, H⟩
 replace H := bi_ H; rcases H with ⟨⟨a3C, Gt, zU, Gu⟩, A5, H⟩
 have BN := am_ H
 clear H
 go_enter Tryd.func69, Tryd.ntmps69
 go_upto_if 16 with (first | ((with_reducible refine gate_dst (N := 2) rfl ?_); (try (refine gate_guard (by rfl) ?_; dsimp only)); refine be_ 2 #[.string (⟨#[]⟩ : ByteArray), .slice none 0 0] 52 ?_; intro dW hg w7 hbox hb; replace HB := am_ (below_step (by repeat (first | (with_reducible first | exact HB.out | apply below_alloc | apply pw_below_drewN | apply below_drew1 | refine below_set ?_ (IsS111.ge ay.out)) | exact HB.out)) hb); have an := am_ (hbox); have pA := am_ ((by rw [hg]; exact (keep_size (w := w) (g := g) (row := none) au2_22) : w.heap.size ≤ dW)); have lv := am_ ((Nat.le_trans qy.out (by rw [hg]; exact (keep_size (w := w) (g := g) (row := none) au2_22) : w.heap.size ≤ dW) : w0.heap.size ≤ dW)); replace HK := am_ (KeepBut.trans au2_22 (KeepBut.of_below hb g none) (.inl rfl)); have gM := am_ (gn_ hg (IsS111.lt (is2_0_ : IsS111 w0 _ g ae bh am bB))); have bF := am_ (gm_ hg (IsS111.lt (is2_0_ : IsS111 w0 _ g ae bh am bB))); replace ay := am_ (IsS111.below is2_0_ hb); clear hb hbox hg) | (go_at_call 100; (with_reducible refine (F100.calls  gf gg gh gi _ A2.out).mono ?_); rintro e w8 ⟨rfl, hb⟩; (try clear A2); replace an := bb_ an hb; replace HK := am_ (KeepBut.trans au2_15 (KeepBut.of_below hb g none) (.inl rfl)); replace HB := am_ (below_step au2_27 hb); replace ay := am_ (IsS111.below is2_0_ hb); clear hb) | ((with_reducible refine gate_dst (N := 3) rfl ?_); (try (refine gate_guard (by rfl) ?_; dsimp only)); refine be_ 3 #[.int .i64 0, .int .i64 0, .int .i64 0, .int .i64 0] 140 ?_; intro dX hg w9 hbox hb; replace HB := am_ (below_step au2_27 hb); have aj := am_ (hbox); have qM := am_ ((by rw [hg]; exact (keep_size (w := w) (g := g) (row := none) au2_15) : w.heap.size ≤ dX)); have l8 := am_ ((Nat.le_trans qy.out (by rw [hg]; exact (keep_size (w := w) (g := g) (row := none) au2_15) : w.heap.size ≤ dX) : w0.heap.size ≤ dX)); replace HK := am_ (KeepBut.trans au2_15 (KeepBut.of_below hb g none) (.inl rfl)); have jp := am_ (gn_ hg (blkl_ an)); have jq := am_ (gm_ hg (blkl_ an)); replace an := bb_ an hb; have kU := am_ (gn_ hg (IsS111.lt (is2_0_ : IsS111 w0 _ g ae bh am bB))); have bP := am_ (gm_ hg (IsS111.lt (is2_0_ : IsS111 w0 _ g ae bh am bB))); replace ay := am_ (IsS111.below is2_0_ hb); clear hb hbox hg; have a9c := jq.out; have a9d := jp.out; have a9e := bP.out; have a9f := kU.out; obtain ⟨cQ, cR, dR, dS, cS, cT, dT, dU⟩ := cellsF4 aj.out) | ((with_reducible refine gate_dst (N := 10) rfl ?_); (try (refine gate_guard (by rfl) ?_; dsimp only)); refine Kd.R_lit Kd.string _ 9 ?hg (N := 10) ?hd (xs := ([(⟨#[68, 79, 67]⟩ : ByteArray), (⟨#[76, 73, 78]⟩ : ByteArray), (⟨#[78, 79, 84]⟩ : ByteArray), (⟨#[65, 66, 67]⟩ : ByteArray), (⟨#[73, 88, 72]⟩ : ByteArray)] : List ByteArray)) (inner := [.string (⟨#[68, 79, 67]⟩ : ByteArray), .string (⟨#[76, 73, 78]⟩ : ByteArray), .string (⟨#[78, 79, 84]⟩ : ByteArray), .string (⟨#[65, 66, 67]⟩ : ByteArray), .string (⟨#[73, 88, 72]⟩ : ByteArray)]) (ok := fun _ => True) (okp := fun _ => True) ?hr ?hp (fun _ hk => hk) trivial (Below.refl _ _) (Nat.le_refl _) (by simp) ?_; (case hd => rfl); (case hg => rfl); (case hr => exact hr_); (case hp => exact (Reps.one (show Kd.M Kd.string _ _ _ (⟨#[68, 79, 67]⟩ : ByteArray) [.string (⟨#[68, 79, 67]⟩ : ByteArray)] from rfl) (Reps.one (show Kd.M Kd.string _ _ _ (⟨#[76, 73, 78]⟩ : ByteArray) [.string (⟨#[76, 73, 78]⟩ : ByteArray)] from rfl) (Reps.one (show Kd.M Kd.string _ _ _ (⟨#[78, 79, 84]⟩ : ByteArray) [.string (⟨#[78, 79, 84]⟩ : ByteArray)] from rfl) (Reps.one (show Kd.M Kd.string _ _ _ (⟨#[65, 66, 67]⟩ : ByteArray) [.string (⟨#[65, 66, 67]⟩ : ByteArray)] from rfl) (Reps.one (show Kd.M Kd.string _ _ _ (⟨#[73, 88, 72]⟩ : ByteArray) [.string (⟨#[73, 88, 72]⟩ : ByteArray)] from rfl) (Reps.none _ _))))))); intro b2o OD BO hb hg_ hnew_; clear hg_ hnew_; (first | rw [← IS.out] at BO | (simp only [Int.reduceToNat] at BO; rw [← IS.out] at BO)); have iM := am_ (Kd.R_lower BO (keep_size (w := w) (g := g) (row := none) au2_10)); replace an := am_ (blk_below (g := dW) (o := .cells #[.string (⟨#[]⟩ : ByteArray), .slice none 0 0] 52 (0, 0)) (bf_ an) hb); replace aj := am_ (blk_below (g := dX) (o := .cells #[.int .i64 gf, .int .i64 gg, .int .i64 gh, .int .i64 gi] 140 (0, 0)) (bq_ aj) hb); replace HK := am_ (KeepBut.trans au2_10 (KeepBut.of_below hb g none) (.inl rfl)); replace HB := am_ (below_step au2_26 hb); replace ay := am_ (IsS111.below (show IsS111 w0 ((((w9.setCell ⟨dX, 0, none⟩ (.int .i64 gf)).setCell ⟨dX, 1, none⟩ (.int .i64 gg)).setCell ⟨dX, 2, none⟩ (.int .i64 gh)).setCell ⟨dX, 3, none⟩ (.int .i64 gi)) g ae bh am bB from by repeat (first | (with_reducible first | exact ay.out | apply IsS111.alloc | apply IsS111.drewN | apply IsS111.drew | apply IsS111.set_1 | apply IsS111.set_2 | apply IsS111.set_3 | refine IsS111.far ?_ gM.out _ | refine IsS111.far ?_ kU.out _) | exact ay.out)) hb); clear hb BO; obtain ⟨zV, zW, zX⟩ := Kd.R_slice iM.out; subst zX) | (go_at_call 67; (with_reducible refine (F67.calls g ae bh am bB _ _ PG dD BJ BL BM w0 _ ?s1 ?s2 ?s3 ?s4 ?s5 A3.out).mono ?_); (case s1 => repeat (first | (with_reducible first | exact ay.out | apply IsS111.alloc | apply IsS111.drewN | apply IsS111.drew | apply IsS111.set_1 | apply IsS111.set_2 | apply IsS111.set_3 | refine IsS111.far ?_ gM.out _ | refine IsS111.far ?_ kU.out _) | exact ay.out)); (case s2 => repeat (first | (with_reducible first | exact HB.out | apply below_alloc | apply pw_below_drewN | apply below_drew1 | refine below_set ?_ (IsS111.ge ay.out) | refine below_set ?_ lv.out | refine below_set ?_ l8.out) | exact HB.out)); (case s3 => repeat (first | exact (Kd.R_reads' iM.out).2.2 | (with_reducible refine Kd.C_alloc ?_ _) | (with_reducible refine Kd.C_drewN ?_ _) | (with_reducible refine Kd.C_drew ?_))); (case s4 => exact (Kd.R_reads' iM.out).2.1); (case s5 => exact far_slice (IsS111.own_ne ay.out iM.out (by decide))); rintro e kP ⟨rfl, hi, hb, hk⟩; (try clear A3); replace an := ka_ hk an bF; replace aj := ka_ hk aj bP; replace iM := am_ (Kd.R_mono (Kd.R_keep (IsS111.apart (is2_0_ : IsS111 w0 _ g ae bh am bB) (rk_ iM) (by decide)) hk (fun _ h => h.2)) (fun _ h => h.1)); replace HK := am_ (KeepBut.trans au2_10 hk (.inl rfl)); replace HB := am_ (hb); replace ay := am_ (hi); clear hb hk hi) | ((with_reducible refine gate_dst (N := 4) rfl ?_); (try (refine gate_guard (by rfl) ?_; dsimp only)); refine be_ 4 #[.string (⟨#[]⟩ : ByteArray), .slice none 0 0] 52 ?_; intro dq hg w17 hbox hb; replace iM := am_ (Kd.R_below (rk_ iM) hb); replace HB := am_ (below_step au2_26 hb); have ai := am_ (hbox); have ti := am_ ((by rw [hg]; exact (keep_size (w := w) (g := g) (row := none) au2_10) : w.heap.size ≤ dq)); have pB := am_ ((Nat.le_trans qy.out (by rw [hg]; exact (keep_size (w := w) (g := g) (row := none) au2_10) : w.heap.size ≤ dq) : w0.heap.size ≤ dq)); replace HK := am_ (KeepBut.trans au2_10 (KeepBut.of_below hb g none) (.inl rfl)); have cM := am_ (gn_ hg (blkl_ an)); have cN := am_ (gm_ hg (blkl_ an)); replace an := bb_ an hb; have cO := am_ (gn_ hg (blkl_ aj)); have cP := am_ (gm_ hg (blkl_ aj)); replace aj := bb_ aj hb; have dV := am_ (gn_ hg (IsS111.lt (is2_0_ : IsS111 w0 _ g ae BJ BL BM))); have bl := am_ (gm_ hg (IsS111.lt (is2_0_ : IsS111 w0 _ g ae BJ BL BM))); replace ay := am_ (IsS111.below is2_0_ hb); clear hb hbox hg; have IQ := cN.out; have IR := cM.out; have IT := cP.out; have IU := cO.out; have a9g := bl.out; have a9h := dV.out; obtain ⟨lZ, l5, rG, l6⟩ := cellsF2 ai.out) | (go_at_call 68; (with_reducible refine (F68.calls g ae BJ BL BM 5 PH Ld Gr Gs w0 _ ?s1 ?s2 A4.out).mono ?_); (case s1 => exact au2_1); (case s2 => exact au2_2); rintro e OC ⟨rfl, hi, hb, hk⟩; (try clear A4); replace an := ka_ hk an bF; replace aj := ka_ hk aj bP; replace iM := am_ (Kd.R_mono (Kd.R_keep (IsS111.apart (is2_0_ : IsS111 w0 _ g ae BJ BL BM) (by (with_reducible repeat (first | apply Kd.R_alloc | apply Kd.R_drewN | apply Kd.R_drew)); exact (Kd.R_mono (Kd.R_far (p := ⟨dq, 1, none⟩) (Kd.R_far (p := ⟨dq, 0, none⟩) (Kd.R_types iM.out ai.out (by decide)) (fun _ hk => hk.2) (.string dD)) (fun _ hk => hk.2) (.slice none 0 0)) (fun _ h_ => h_.1))) (by decide)) hk (fun _ h => h.2)) (fun _ h => h.1)); replace ai := am_ (KeepBut.blk hk (g' := dq) (o := .cells #[.string dD, .slice none 0 0] 52 (0, 0)) (bq_ ai) bl.out (by simp)); replace HK := am_ (KeepBut.trans au2_0 hk (.inl rfl)); replace HB := am_ (hb); replace ay := am_ (hi); clear hb hk hi) | (go_at_call 70; (with_reducible refine (F70.calls g ae Ld Gr Gs 40 a3C Gt zU Gu w0 _ ?s1 ?s2 A5.out).mono ?_); (case s1 => exact au2_1); (case s2 => exact au2_2); rintro e w23 ⟨rfl, hi, hb, hk⟩; (try clear A5); replace an := ka_ hk an bF; replace aj := ka_ hk aj bP; replace iM := am_ (Kd.R_mono (Kd.R_keep (IsS111.apart (is2_0_ : IsS111 w0 _ g ae Ld Gr Gs) (rk_ iM) (by decide)) hk (fun _ h => h.2)) (fun _ h => h.1)); replace ai := ka_ hk ai bl; replace HK := am_ (KeepBut.trans au2_0 hk (.inl rfl)); replace HB := am_ (hb); replace ay := am_ (hi); clear hb hk hi))
 (try simp only [Act.put, List.setIfInBounds_toArray, List.set_cons_zero, List.set_cons_succ])
 go_cut [5] (fun v5 wc => ∃ (kq : Nat) (Gv : Int) (oT : Int) (oU : Int) (oV : Int), v5 = .int .i64 Gv ∧ Aside0 (F69.j0 kq Gv ae oT oU oV gf gg gh gi dD = some (r1, r2, r3, r4, r5)) ∧ Aside0 (kq ≤ k) ∧ Aside0 (wc.heap[dW]? = some (.cells #[.string (⟨#[]⟩ : ByteArray), (.slice none 0 0)] 52 (0, 0))) ∧ Aside0 (wc.heap[dX]? = some (.cells #[.int .i64 gf, .int .i64 gg, .int .i64 gh, .int .i64 gi] 140 (0, 0))) ∧ Aside0 (wc.heap[dq]? = some (.cells #[.string dD, (.slice none 0 0)] 52 (0, 0))) ∧ Aside0 (IsS111 w0 wc g ae oT oU oV) ∧ Aside0 (KeepBut w wc g none) ∧ Aside0 (Below w0.heap.size w0 wc))
 case first =>
  have H := BN.out
  clear BN
  replace H := ib_ H; rcases H with ⟨rfl, H⟩ | ⟨rfl, H⟩
  rotate_left
  ·have H' := am_ H
   clear H
   go_wp2
   go_meet
   case rel => exact ⟨_, (PH), (Gt), (zU), (Gu), er_, H', ⟨by first | omega | exact Nat.le_refl _⟩, ⟨bk_ an⟩, ⟨bk_ aj⟩, ⟨bk_ ai⟩, ⟨is2_0_⟩, ⟨au2_7⟩, ⟨au2_6⟩⟩
  replace H := bi_ H; rcases H with ⟨⟨Gw, PI, Le, PJ⟩, A25, H⟩
  have H' := am_ H
  clear H
  go_wp2_with (first | (go_at_call 68; (with_reducible refine (F68.calls g ae Gt zU Gu 3 Gw PI Le PJ w0 _ ?s1 ?s2 A25.out).mono ?_); (case s1 => exact au2_1); (case s2 => exact au2_2); rintro e w26 ⟨rfl, hi, hb, hk⟩; (try clear A25); replace an := ka_ hk an bF; replace aj := ka_ hk aj bP; replace iM := am_ (Kd.R_mono (Kd.R_keep (IsS111.apart (is2_0_ : IsS111 w0 _ g ae Gt zU Gu) (rk_ iM) (by decide)) hk (fun _ h => h.2)) (fun _ h => h.1)); replace ai := ka_ hk ai bl; replace HK := am_ (KeepBut.trans au2_0 hk (.inl rfl)); replace HB := am_ (hb); replace ay := am_ (hi); clear hb hk hi))
  go_meet
  case rel => exact ⟨_, (wrap64 (9 + Gw)), (PI), (Le), (PJ), er_, H', ⟨by first | omega | exact Nat.le_refl _⟩, ⟨bk_ an⟩, ⟨bk_ aj⟩, ⟨bk_ ai⟩, ⟨is2_0_⟩, ⟨au2_7⟩, ⟨au2_6⟩⟩
 case rest =>
  clear BN
  try clear cQ cR dR dS
  try clear lZ l5
  try clear cS cT dT dU
  try clear rG l6
  obtain ⟨kq, Gv, oT, oU, oV, rfl, HA, Fw, an, aj, ai, ay, HK, HB⟩ := hcut
  cases kq with
  | zero => exact absurd HA.out (by simp [F69.j0])
  | succ OE =>
   have H := HA.out
   clear HA
   simp only [F69.j0] at H
   have H' := am_ H
   clear H
   go_wp2
   go_loopg [5] OE (fun kq v5 w' => ∃ (oy : Int) (bq : Int) (br : Int) (bu : Int) (ch : List (S55)) (bY : Value), v5 = .int .i64 oy ∧ Aside0 (F69.l0 kq oy ae bq br bu gf gg gh gi dD ch = some (r1, r2, r3, r4, r5)) ∧ Aside0 (kq ≤ OE) ∧ Aside0 (Kd.S k55 55 w' w.heap.size (fun _ => True) bY ch) ∧ Aside0 (w'.heap[dW]? = some (.cells #[.string (⟨#[]⟩ : ByteArray), (.slice none 0 0)] 52 (0, 0))) ∧ Aside0 (w'.heap[dX]? = some (.cells #[.int .i64 gf, .int .i64 gg, .int .i64 gh, .int .i64 gi] 140 (0, 0))) ∧ Aside0 (w'.heap[dq]? = some (.cells #[.string dD, bY] 52 (0, 0))) ∧ Aside0 (IsS111 w0 w' g ae bq br bu) ∧ Aside0 (KeepBut w w' g none) ∧ Aside0 (Below w0.heap.size w0 w'))
   case atStart => exact ⟨(Gv), (oT), (oU), (oV), (([] : List (S55))), (.slice none 0 0), er_, H', ⟨Nat.le_refl _⟩, ⟨by first | exact Kd.S_nil _ _ _ _ _ | exact Kd.N_nil _ _ _ _ _ | exact Kd.V_nil _ _ _ _ _ | exact Kd.Q_nil _ _ _ _ _ | exact Kd.R_nil _ _ _ _ _⟩, ⟨bk_ an⟩, ⟨bk_ aj⟩, ⟨bk_ ai⟩, ⟨is2_0_⟩, ⟨au2_7⟩, ⟨au2_6⟩⟩
   case round =>
    clear H'
    try clear cQ cR dR dS
    try clear lZ l5
    try clear cS cT dT dU
    try clear rG l6
    obtain ⟨oy, bq, br, bu, ch, bY, rfl, HA, HK2, ab, an, aj, ai, ay, HK, HB⟩ := hrel
    cases gk with
    | zero => exact absurd HA.out (by simp [F69.l0])
    | succ k2 =>
     have H := HA.out
     clear HA
     simp only [F69.l0] at H
     replace H := it_ H; rcases H with ⟨(c27b0 : decide (0 < oy) = true), H⟩ | ⟨(c27b0 : decide (0 < oy) = false), H⟩
     ·replace H := bi_ H; rcases H with ⟨⟨PK, Lf, Lg, Lh⟩, PL, H⟩
      replace H := bi_ H; rcases H with ⟨⟨PM, PN, PO, PP⟩, AW, H⟩
      have H' := am_ H
      clear H
      go_wp2_with (first | ((with_reducible refine gate_dst (N := 6) rfl ?_); (try (refine gate_guard (by rfl) ?_; dsimp only)); refine be_ 6 #[.slice none 0 0] 55 ?_; intro cW hg w30 hbox hb; replace ab := am_ (Kd.S_below (Kd.S_elderB au2_5 cW (Nat.le_of_eq hg.symm)) hb); replace HB := am_ (below_step au2_3 hb); have bn := am_ (hbox); have BH := am_ ((by rw [hg]; exact (keep_size (w := w) (g := g) (row := none) au2_0) : w.heap.size ≤ cW)); have xA := am_ ((Nat.le_trans qy.out (by rw [hg]; exact (keep_size (w := w) (g := g) (row := none) au2_0) : w.heap.size ≤ cW) : w0.heap.size ≤ cW)); replace HK := am_ (KeepBut.trans au2_0 (KeepBut.of_below hb g none) (.inl rfl)); have kV := am_ (gn_ hg (blkl_ an)); have kW := am_ (gm_ hg (blkl_ an)); replace an := bb_ an hb; have kX := am_ (gn_ hg (blkl_ aj)); have kY := am_ (gm_ hg (blkl_ aj)); replace aj := bb_ aj hb; have kZ := am_ (gn_ hg (blkl_ ai)); have k5 := am_ (gm_ hg (blkl_ ai)); replace ai := bb_ ai hb; have l9 := am_ (gn_ hg (IsS111.lt (is2_0_ : IsS111 w0 _ g ae bq br bu))); have fm := am_ (gm_ hg (IsS111.lt (is2_0_ : IsS111 w0 _ g ae bq br bu))); replace ay := am_ (IsS111.below is2_0_ hb); clear hb hbox hg; have BP := kW.out; have BQ := kV.out; have a9j := kY.out; have a9k := kX.out; have BR := k5.out; have BS := kZ.out; have IV := fm.out; have IW := l9.out; have xH : w30.cell? ⟨cW, 0, none⟩ = some (.slice none 0 0) := (blk_cell bn.out 0).trans rfl; have xI := blk_frozen bn.out 0) | (go_at_call 68; (with_reducible refine (F68.calls g ae bq br bu 2 PK Lf Lg Lh w0 _ ?s1 ?s2 PL.out).mono ?_); (case s1 => exact au2_8); (case s2 => exact au2_9); rintro e w36 ⟨rfl, hi, hb, hk⟩; (try clear PL); replace ab := am_ (Kd.S_mono (Kd.S_keep (IsS111.apartS (is2_0_ : IsS111 w0 _ g ae bq br bu) (by (with_reducible repeat (first | apply Kd.S_alloc | apply Kd.S_drewN | apply Kd.S_drew)); exact (Kd.S_mono (Kd.S_far (p := ⟨cW, 0, none⟩) (Kd.S_mono ab.out (fun k_ hk => (⟨hk, hk.2⟩ : _ ∧ k_ ≠ cW))) (fun _ hk => hk.2) (.slice none 0 0)) (fun _ h_ => h_.1))) (by decide)) hk (fun _ h => h.2)) (fun _ h => h.1)); replace an := ka_ hk an bF; replace aj := ka_ hk aj bP; replace ai := ka_ hk ai bl; replace bn := am_ (KeepBut.blk hk (g' := cW) (o := .cells #[.slice none 0 0] 55 (0, 0)) (bq_ bn) fm.out (by simp)); replace HK := am_ (KeepBut.trans au2_4 hk (.inl rfl)); replace HB := am_ (hb); replace ay := am_ (hi); clear hb hk hi) | (go_at_call 68; (with_reducible refine (F68.calls g ae Lf Lg Lh 4 PM PN PO PP w0 _ ?s1 ?s2 AW.out).mono ?_); (case s1 => exact au2_8); (case s2 => exact au2_9); rintro e w37 ⟨rfl, hi, hb, hk⟩; (try clear AW); replace ab := am_ (Kd.S_mono (Kd.S_keep (IsS111.apartS (is2_0_ : IsS111 w0 _ g ae Lf Lg Lh) au2_5 (by decide)) hk (fun _ h => h.2)) (fun _ h => h.1)); replace an := ka_ hk an bF; replace aj := ka_ hk aj bP; replace ai := ka_ hk ai bl; replace bn := ka_ hk bn fm; replace HK := am_ (KeepBut.trans au2_4 hk (.inl rfl)); replace HB := am_ (hb); replace ay := am_ (hi); clear hb hk hi))
      go_loopg [7] k2 (fun kq v7 w' => ∃ (ux : Int) (aM : Int) (aN : Int) (aQ : Int) (bC : List ByteArray) (gR : Value), v7 = .int .i64 ux ∧ Aside0 (F69.l1 kq oy ux ae aM aN aQ gf gg gh gi dD ch bC = some (r1, r2, r3, r4, r5)) ∧ Aside0 (kq ≤ k2) ∧ Aside0 (Kd.S k55 55 w' w.heap.size (fun k_ => some k_ ≠ (gR : Value).ownBlock ∧ k_ ≠ cW) bY ch) ∧ Aside0 (Kd.R Kd.string 9 w' w.heap.size (fun _ => True) gR bC) ∧ Aside0 (w'.heap[dW]? = some (.cells #[.string (⟨#[]⟩ : ByteArray), (.slice none 0 0)] 52 (0, 0))) ∧ Aside0 (w'.heap[dX]? = some (.cells #[.int .i64 gf, .int .i64 gg, .int .i64 gh, .int .i64 gi] 140 (0, 0))) ∧ Aside0 (w'.heap[dq]? = some (.cells #[.string dD, bY] 52 (0, 0))) ∧ Aside0 (w'.heap[cW]? = some (.cells #[gR] 55 (0, 0))) ∧ Aside0 (IsS111 w0 w' g ae aM aN aQ) ∧ Aside0 (KeepBut w w' g none) ∧ Aside0 (Below w0.heap.size w0 w'))
      case atStart => exact ⟨(wrap64 (1 + (wrap64 (PK * PM)))), (PN), (PO), (PP), (([] : List ByteArray)), (.slice none 0 0), er_, H', ⟨Nat.le_refl _⟩, ⟨by (with_reducible repeat (first | apply Kd.S_alloc | apply Kd.S_drewN | apply Kd.S_drew)); exact Kd.S_mono ab.out (fun _ hk => ⟨(by simp [Value.ownBlock]), hk.2⟩)⟩, ⟨by first | exact Kd.R_nil _ _ _ _ _ | exact Kd.N_nil _ _ _ _ _ | exact Kd.V_nil _ _ _ _ _ | exact Kd.Q_nil _ _ _ _ _ | exact Kd.S_nil _ _ _ _ _⟩, ⟨bk_ an⟩, ⟨bk_ aj⟩, ⟨bk_ ai⟩, ⟨bk_ bn⟩, ⟨is2_0_⟩, ⟨au2_13⟩, ⟨au2_12⟩⟩
      case round =>
       clear H'
       try clear c27b0
       try clear cQ cR dR dS
       try clear lZ l5
       try clear xH
       try clear cS cT dT dU
       try clear rG l6
       try clear xI
       obtain ⟨ux, aM, aN, aQ, bC, gR, rfl, HA, pC, ab, aD, an, aj, ai, bn, ay, HK, HB⟩ := hrel
       cases gk with
       | zero => exact absurd HA.out (by simp [F69.l1])
       | succ k3 =>
        have H := HA.out
        clear HA
        simp only [F69.l1] at H
        replace H := it_ H; rcases H with ⟨(c38b0 : decide (0 < ux) = true), H⟩ | ⟨(c38b0 : decide (0 < ux) = false), H⟩
        ·replace H := bi_ H; rcases H with ⟨⟨Li, Gx, Gy, Gz⟩, A39, H⟩
         replace H := bi_ H; rcases H with ⟨⟨GA, Lj, Lk, Ll⟩, AO, H⟩
         replace H := iln_ H; rcases H with ⟨PQ, H⟩
         obtain ⟨BT, BU⟩ : ∃ y_ : List ByteArray, y_ = (bC ++ [GA]) := ⟨_, rfl⟩
         replace H : (F69.l1 k3 oy (wrap64 (ux - 1)) ae Lj Lk Ll gf gg gh gi dD ch BT) = some (r1, r2, r3, r4, r5) := by first | (rw [BU]; exact H) | exact H
         have PR := am_ BU
         clear BU
         have H' := am_ H
         clear H
         try go_wp2
         replace ab := am_ (Kd.S_drew ab.out)
         replace aD := am_ (Kd.R_drew aD.out)
         replace an := bd_ an
         replace aj := bd_ aj
         replace ai := bd_ ai
         replace bn := bd_ bn
         replace ay := am_ (IsS111.drew ay.out)
         replace HK := am_ (keep_drew HK.out)
         replace HB := am_ (below_drew1 HB.out)
         refine start_ (n := 11) (S := fun w' => w'.cell? ⟨cW, 0, none⟩ = some (gR) ∧ w'.cell? ⟨dX, 0, none⟩ = some (.int .i64 gf) ∧ w'.cell? ⟨dX, 1, none⟩ = some (.int .i64 gg) ∧ w'.cell? ⟨dX, 2, none⟩ = some (.int .i64 gh) ∧ w'.cell? ⟨dX, 3, none⟩ = some (.int .i64 gi)) (ds := [10]) (bs 11 0) (by kernel_rfl) rfl rfl ⟨(blk_cell bn.out 0).trans rfl, (blk_cell aj.out 0).trans rfl, (blk_cell aj.out 1).trans rfl, (blk_cell aj.out 2).trans rfl, (blk_cell aj.out 3).trans rfl⟩ (fun hHeld => ?_); refine with_tabW F69.tab12 F69.bits12 (fun HT_ HW_ => ?_)
         generalize wr.drew = AP at ab aD an aj ai bn ay HK HB hHeld ⊢
         refine pu_ 0 35 (bs 11 1) HT_ ?_ rfl rfl
         refine pu_ 2 37 (bs 11 5) HT_ ?_ rfl rfl
         refine pu_ 4 39 (bs 11 21) HT_ ?_ rfl rfl
         refine tk_ 1 36 (bs 11 23) HT_ HW_ hHeld au2_32 ?_ rfl rfl
         refine tk_ 3 38 (bs 11 31) HT_ HW_ hHeld au2_32 ?_ rfl rfl
         refine one_ (i := 5) (N := some 40) (bs 11 63) rfl rfl (one_of HT_.out (by kernel_rfl)) (by decide) (fun K hK => ?_)
         refine gr_ Tryd.func68 #[.pointer (some ⟨g, 0, none⟩), .int .i64 6] (by rfl) ?_ rfl rfl rfl
         with_reducible refine (F68.calls g ae aM aN aQ 6 Li Gx Gy Gz w0 _ ?s1 ?s2 A39.out).mono ?_
         (case s1 => exact au2_8)
         (case s2 => exact au2_9)
         rintro e w43 ⟨rfl, hi, hb, hk⟩
         refine ⟨_, rfl, ?_⟩
         replace ab := am_ (Kd.S_mono (Kd.S_keep (IsS111.apartS (is2_0_ : IsS111 w0 _ g ae aM aN aQ) au2_5 (by decide)) hk (fun _ h => h.2)) (fun _ h => h.1))
         replace aD := am_ (Kd.R_mono (Kd.R_keep (IsS111.apart (is2_0_ : IsS111 w0 _ g ae aM aN aQ) (rk_ aD) (by decide)) hk (fun _ h => h.2)) (fun _ h => h.1))
         replace an := ka_ hk an bF
         replace aj := ka_ hk aj bP
         replace ai := ka_ hk ai bl
         replace bn := ka_ hk bn fm
         replace HK := am_ (KeepBut.trans au2_4 hk (.inl rfl))
         replace HB := am_ (hb)
         replace ay := am_ (hi)
         (try clear hb)
         (try clear hb2)
         (try clear hk)
         (try clear hi)
         refine hK.out _ _ ⟨(blk_cell bn.out 0).trans rfl, (blk_cell aj.out 0).trans rfl, (blk_cell aj.out 1).trans rfl, (blk_cell aj.out 2).trans rfl, (blk_cell aj.out 3).trans rfl⟩ (fun hHeld => ?_)
         clear hK K
         refine no_ 40 ?_
         refine one_ (i := 6) (N := some 41) (bs 11 127) rfl rfl (one_of HT_.out (by kernel_rfl)) (by decide) (fun K hK => ?_)
         refine gr_ Tryd.func101 #[.pointer (some ⟨g, 0, none⟩), .agg #[.int .i64 gf, .int .i64 gg, .int .i64 gh, .int .i64 gi], .int .i64 Li] (by rfl) ?_ rfl rfl rfl
         with_reducible refine (F101.calls k3 g ae Gx Gy Gz gf gg gh gi Li GA Lj Lk Ll w0 _ ?s1 ?s2 AO.out).mono ?_
         (case s1 => exact au2_8)
         (case s2 => exact au2_9)
         rintro e w44 ⟨rfl, hi, hb, hk⟩
         refine ⟨_, rfl, ?_⟩
         replace ab := am_ (Kd.S_mono (Kd.S_keep (IsS111.apartS (is2_0_ : IsS111 w0 _ g ae Gx Gy Gz) au2_5 (by decide)) hk (fun _ h => h.2)) (fun _ h => h.1))
         replace aD := am_ (Kd.R_mono (Kd.R_keep (IsS111.apart (is2_0_ : IsS111 w0 _ g ae Gx Gy Gz) (rk_ aD) (by decide)) hk (fun _ h => h.2)) (fun _ h => h.1))
         replace an := ka_ hk an bF
         replace aj := ka_ hk aj bP
         replace ai := ka_ hk ai bl
         replace bn := ka_ hk bn fm
         replace HK := am_ (KeepBut.trans au2_4 hk (.inl rfl))
         replace HB := am_ (hb)
         replace ay := am_ (hi)
         (try clear hb)
         (try clear hb2)
         (try clear hk)
         (try clear hi)
         refine hK.out _ _ ⟨(blk_cell bn.out 0).trans rfl, (blk_cell aj.out 0).trans rfl, (blk_cell aj.out 1).trans rfl, (blk_cell aj.out 2).trans rfl, (blk_cell aj.out 3).trans rfl⟩ (fun hHeld => ?_)
         clear hK K
         refine no_ 41 ?_
         refine one_ (i := 7) (N := some 42) (bs 11 255) rfl rfl (one_of HT_.out (by kernel_rfl)) (by decide) (fun K hK => ?_)
         refine value_ (w1 := ?_) (v := ?_) (by rfl) rfl ?_ ?_
         rotate_left 2
         ·go_simp
          constructor
          ·rfl
          ·rfl
         refine hK.out _ _ ⟨(blk_cell (blk_alloc bn.out _) 0).trans rfl, (blk_cell (blk_alloc aj.out _) 0).trans rfl, (blk_cell (blk_alloc aj.out _) 1).trans rfl, (blk_cell (blk_alloc aj.out _) 2).trans rfl, (blk_cell (blk_alloc aj.out _) 3).trans rfl⟩ (fun hHeld => ?_)
         clear hK K
         refine no_ 42 ?_
         refine one_ (i := 8) (N := some 43) (bs 11 511) rfl rfl (one_of HT_.out (by kernel_rfl)) (by decide) (fun K hK => ?_)
         refine Kd.R_append_step Kd.string w.heap.size (by rfl) (.tmp 36) (.tmp 42) 53 9 (.string ⟨#[]⟩) 16 rfl Tryd.underlying53 info9 rfl (by decide) (by omega) gR bC GA [.string GA] (fun _ => True) (fun _ => False) rfl rfl ?aP (fun _ hk => hk.elim) ?aF ?aO (Below.refl _ _) ?aS ?aL ?_
         (case aP => exact rfl)
         (case aF => exact (fun _ _ => trivial))
         (case aO => exact (rk_ aD))
         (case aS => exact au2_36)
         (case aL => have := PQ.out; omega)
         intro b2r Y6 ho hb hg hat
         rw [← PR.out] at ho
         replace ab := am_ (Kd.S_after (ok := (fun k_ => k_ ≠ cW)) (by (with_reducible repeat (first | apply Kd.S_alloc | apply Kd.S_drewN | apply Kd.S_drew)); exact Kd.S_mono ab.out (fun _ hk => ⟨hk.2, hk.1⟩)) hg hat)
         replace an := am_ (bg_ an hg (Kd.R_ne aD.out an.out (by decide)))
         replace aj := am_ (bg_ aj hg (Kd.R_ne aD.out aj.out (by decide)))
         replace ai := am_ (bg_ ai hg (Kd.R_ne aD.out ai.out (by decide)))
         replace bn := am_ (bg_ bn hg (Kd.R_ne aD.out bn.out (by decide)))
         replace HB := am_ (below_weaken au2_14 HL.out hb)
         replace ay := am_ (IsS111.grown is2_0_ hg (IsS111.own_ne ay.out aD.out (by decide)))
         replace HK := am_ (KeepBut.trans au2_4 (KeepBut.of_grown hg g) (Kd.R_base2 aD.out))
         have IX := am_ (ho)
         clear aD
         clear ho hb hg hat
         obtain ⟨Lm, Ln, PS⟩ := Kd.R_slice IX.out
         (first | subst PS | (injection PS with dY gS dZ; have gT := dY.symm; have gU := dZ.symm; clear dY gS dZ; subst gT; subst gU))
         refine hK.out _ _ ⟨(blk_cell bn.out 0).trans rfl, (blk_cell aj.out 0).trans rfl, (blk_cell aj.out 1).trans rfl, (blk_cell aj.out 2).trans rfl, (blk_cell aj.out 3).trans rfl⟩ (fun hHeld => ?_)
         clear hK K
         refine no_ 43 ?_
         refine pu_ 9 44 (bs 11 1023) HT_ ?_ rfl rfl
         refine last_ (i := 10) (N := none) (bs 11 2047) rfl rfl (one_of HT_.out (by kernel_rfl)) (by decide) (fun K hK => ?_)
         have b2s : Y6.cell? ⟨cW, 0, none⟩ = some (gR) := (blk_cell bn.out 0).trans rfl
         have a9m := blk_frozen bn.out 0
         have Y7 := kV.out
         have Y8 := kX.out
         have Y9 := kZ.out
         have Za := kW.out
         have Zb := kY.out
         have Zc := k5.out
         refine skip_ (w1 := ?_) (by rfl) rfl ?_ ?_
         rotate_left
         ·go_simp
          rfl
         refine hK.out _ _ ?_
         clear hK K
         refine done_ (done_of HT_.out (by kernel_rfl)) ?_
         try go_wp2
         go_roundg k3
         case measure => have := Fw.out; have := HK2.out; have := pC.out; omega
         case rel => exact ⟨(wrap64 (ux - 1)), (Lj), (Lk), (Ll), (BT), (.slice Lm BT.length Ln), er_, H', ⟨au2_33⟩, ⟨by (with_reducible repeat (first | apply Kd.S_alloc | apply Kd.S_drewN | apply Kd.S_drew)); exact Kd.S_mono (Kd.S_far (p := ⟨cW, 0, none⟩) (Kd.S_mono ab.out (fun k_ hk => (⟨hk, hk.1⟩ : _ ∧ k_ ≠ cW))) (fun _ hk => hk.2) (.slice Lm BT.length Ln)) (fun _ hk => ⟨hk.1.2, hk.1.1⟩)⟩, ⟨by (with_reducible repeat (first | apply Kd.R_alloc | apply Kd.R_drewN | apply Kd.R_drew)); exact Kd.R_mono (Kd.R_far (p := ⟨cW, 0, none⟩) (Kd.R_types IX.out bn.out (by decide)) (fun _ hk => hk.2) (.slice Lm BT.length Ln)) (fun _ hk => trivial)⟩, ⟨bf_ an⟩, ⟨bf_ aj⟩, ⟨bf_ ai⟩, ⟨bq_ bn⟩, ⟨is2_0_⟩, ⟨au2_13⟩, ⟨au2_12⟩⟩
        replace H := bi_ H; rcases H with ⟨⟨b2t, uy, uz, uA⟩, Zd, H⟩
        replace H := ib_ H; rcases H with ⟨rfl, H⟩ | ⟨rfl, H⟩
        rotate_left
        ·replace H := iln_ H; rcases H with ⟨PT, H⟩
         obtain ⟨GB, BV⟩ : ∃ y_ : List (S55), y_ = (ch ++ [(⟨bC⟩ : S55)]) := ⟨_, rfl⟩
         replace H : (F69.l0 k3 (wrap64 (oy - 1)) ae uy uz uA gf gg gh gi dD GB) = some (r1, r2, r3, r4, r5) := by first | (rw [BV]; exact H) | exact H
         have PU := am_ BV
         clear BV
         have H' := am_ H
         clear H
         go_wp2_with (first | (go_at_call 70; (with_reducible refine (F70.calls g ae aM aN aQ 60 false uy uz uA w0 _ ?s1 ?s2 Zd.out).mono ?_); (case s1 => exact au2_8); (case s2 => exact au2_9); rintro e w74 ⟨rfl, hi, hb, hk⟩; (try clear Zd); replace ab := am_ (Kd.S_mono (Kd.S_keep (IsS111.apartS (is2_0_ : IsS111 w0 _ g ae aM aN aQ) au2_5 (by decide)) hk (fun _ h => h.2)) (fun _ h => h.1)); replace aD := am_ (Kd.R_mono (Kd.R_keep (IsS111.apart (is2_0_ : IsS111 w0 _ g ae aM aN aQ) (rk_ aD) (by decide)) hk (fun _ h => h.2)) (fun _ h => h.1)); replace an := ka_ hk an bF; replace aj := ka_ hk aj bP; replace ai := ka_ hk ai bl; replace bn := ka_ hk bn fm; replace HK := am_ (KeepBut.trans au2_4 hk (.inl rfl)); replace HB := am_ (hb); replace ay := am_ (hi); clear hb hk hi; have IY := cN.out; have IZ := cM.out; have a9n := cP.out; have a9o := cO.out; have a9p := kZ.out; have a9q := k5.out; have PV := bl.out; have PW := dV.out; obtain ⟨rH, rI, rJ, rK⟩ := cellsF2 ai.out; have PX := kW.out; have PY := kV.out; have PZ := kY.out; have P0 := kX.out; have a9r := fm.out; have a9s := l9.out; have rL : w74.cell? ⟨cW, 0, none⟩ = some (gR) := (blk_cell bn.out 0).trans rfl; have rN := blk_frozen bn.out 0; obtain ⟨BW, BX, Lo⟩ := Kd.R_slice aD.out; subst Lo) | ((with_reducible refine gate_builtin (b := .append) (xs := #[.tmp 57, .tmp 59]) rfl ?_); (try (refine gate_guard (by rfl) ?_; dsimp only)); at_builtin; refine Kd.S_append k55 w.heap.size rfl (.tmp 57) (.tmp 59) 50 55 (.agg #[(.slice none 0 0)]) 24 rfl Tryd.underlying50 info55 rfl (by decide) (by omega) bY ch (⟨bC⟩ : S55) [.slice BW bC.length BX] (fun k_ => k_ ≠ cW) (fun k_ => some k_ = (.slice BW bC.length BX : Value).ownBlock) rfl rfl ?aP (fun k_ hk_ => ((Kd.R_mono (ok' := fun k_ => ((fun k_ => k_ ≠ cW)) k_ ∧ some k_ ≠ (bY : Value).ownBlock) (Kd.R_types (Kd.R_apart' (aD.out) (Kd.S_typed ab.out) (by decide)) bn.out (by decide)) (fun k_ hk => ⟨hk.2, hk.1.2⟩))).1 k_ hk_.symm) ?aF ?aO (Below.refl _ _) ?aS ?aL ?_; (case aP => exact k55_mkM _ _ _ (⟨bC⟩ : S55) (Kd.R_mono (Kd.R_tight rfl (Kd.R_mono (ok' := fun k_ => ((fun k_ => k_ ≠ cW)) k_ ∧ some k_ ≠ (bY : Value).ownBlock) (Kd.R_types (Kd.R_apart' (aD.out) (Kd.S_typed ab.out) (by decide)) bn.out (by decide)) (fun k_ hk => ⟨hk.2, hk.1.2⟩))) (fun _ h_ => h_))); (case aF => exact (fun k_ hk => Kd.freshB (g := cW) (o := .cells #[.slice BW bC.length BX] 55 (0, 0)) (bk_ bn) k_ hk)); (case aO => exact au2_30); (case aS => exact au2_36); (case aL => have := PT.out; omega); intro b2v w84 ho hb hg hat; rw [← PU.out] at ho; replace an := am_ (bg_ an hg (Kd.S_ne ab.out an.out (by decide))); replace aj := am_ (bg_ aj hg (Kd.S_ne ab.out aj.out (by decide))); replace ai := am_ (bg_ ai hg (Kd.S_ne ab.out ai.out (by decide))); replace bn := am_ (bg_ bn hg (Kd.S_away ab.out (fun _ hk => hk.2))); replace HB := am_ (below_weaken au2_14 HL.out hb); replace ay := am_ (IsS111.grown is2_0_ hg (IsS111.own_neS ay.out ab.out (by decide))); replace HK := am_ (KeepBut.trans au2_4 (KeepBut.of_grown hg g) (Kd.S_base2 ab.out)); have I0 := am_ (ho); clear ab aD; clear ho hb hg hat; obtain ⟨P1, P2, a3D⟩ := Kd.S_slice I0.out; subst a3D; obtain ⟨xJ, xK, xL, xM⟩ := cellsF2 ai.out))
         go_roundg k3
         case measure => have := Fw.out; have := HK2.out; have := pC.out; omega
         case rel => exact ⟨(wrap64 (oy - 1)), (uy), (uz), (uA), (GB), (.slice P1 GB.length P2), er_, H', ⟨au2_33⟩, ⟨by (with_reducible repeat (first | apply Kd.S_alloc | apply Kd.S_drewN | apply Kd.S_drew)); exact Kd.S_mono (Kd.S_far (p := ⟨dq, 1, none⟩) (Kd.S_types I0.out ai.out (by decide)) (fun _ hk => hk.2) (.slice P1 GB.length P2)) (fun _ hk => trivial)⟩, ⟨bf_ an⟩, ⟨bf_ aj⟩, ⟨bq_ ai⟩, ⟨is2_0_⟩, ⟨au2_13⟩, ⟨au2_12⟩⟩
        replace H := bi_ H; rcases H with ⟨⟨Lp, GC, GD, GE⟩, A50, H⟩
        replace H := bi_ H; rcases H with ⟨⟨mf, BY, BZ, B0⟩, A51, H⟩
        replace H := itn_ H; rcases H with ⟨c52b0, H⟩
        have c52b1 : decide (0 < bC.length) = true := n2_ c52b0
        obtain ⟨Ca, Cb⟩ : ∃ y_ : List ByteArray, y_ = (bC.set (0 : Int).toNat mf) := ⟨_, rfl⟩
        replace H : (if ch.length < 5864062014805 then (F69.l0 k3 (wrap64 (oy - 1)) ae BY BZ B0 gf gg gh gi dD (ch ++ [(⟨Ca⟩ : S55)])) else (none)) = some (r1, r2, r3, r4, r5) := by first | (rw [Cb]; exact H) | exact H
        have P3 := am_ Cb
        clear Cb
        replace H := iln_ H; rcases H with ⟨P4, H⟩
        obtain ⟨GF, Cc⟩ : ∃ y_ : List (S55), y_ = (ch ++ [(⟨Ca⟩ : S55)]) := ⟨_, rfl⟩
        replace H : (F69.l0 k3 (wrap64 (oy - 1)) ae BY BZ B0 gf gg gh gi dD GF) = some (r1, r2, r3, r4, r5) := by first | (rw [Cc]; exact H) | exact H
        have P5 := am_ Cc
        clear Cc
        have H' := am_ H
        clear H
        try go_wp2_with (first | (go_at_call 70; (with_reducible refine (F70.calls g ae aM aN aQ 60 true uy uz uA w0 _ ?s1 ?s2 Zd.out).mono ?_); (case s1 => exact au2_8); (case s2 => exact au2_9); rintro e w55 ⟨rfl, hi, hb, hk⟩; (try clear Zd); replace ab := am_ (Kd.S_mono (Kd.S_keep (IsS111.apartS (is2_0_ : IsS111 w0 _ g ae aM aN aQ) au2_5 (by decide)) hk (fun _ h => h.2)) (fun _ h => h.1)); replace aD := am_ (Kd.R_mono (Kd.R_keep (IsS111.apart (is2_0_ : IsS111 w0 _ g ae aM aN aQ) (rk_ aD) (by decide)) hk (fun _ h => h.2)) (fun _ h => h.1)); replace an := ka_ hk an bF; replace aj := ka_ hk aj bP; replace ai := ka_ hk ai bl; replace bn := ka_ hk bn fm; replace HK := am_ (KeepBut.trans au2_4 hk (.inl rfl)); replace HB := am_ (hb); replace ay := am_ (hi); clear hb hk hi))
        replace ab := am_ (Kd.S_drew ab.out)
        replace aD := am_ (Kd.R_drew aD.out)
        replace an := bd_ an
        replace aj := bd_ aj
        replace ai := bd_ ai
        replace bn := bd_ bn
        replace ay := am_ (IsS111.drew ay.out)
        replace HK := am_ (keep_drew HK.out)
        replace HB := am_ (below_drew1 HB.out)
        refine start_ (n := 10) (S := fun w' => w'.cell? ⟨cW, 0, none⟩ = some (gR) ∧ w'.cell? ⟨dX, 0, none⟩ = some (.int .i64 gf) ∧ w'.cell? ⟨dX, 1, none⟩ = some (.int .i64 gg) ∧ w'.cell? ⟨dX, 2, none⟩ = some (.int .i64 gh) ∧ w'.cell? ⟨dX, 3, none⟩ = some (.int .i64 gi)) (ds := [9]) (bs 10 0) (by kernel_rfl) rfl rfl ⟨(blk_cell bn.out 0).trans rfl, (blk_cell aj.out 0).trans rfl, (blk_cell aj.out 1).trans rfl, (blk_cell aj.out 2).trans rfl, (blk_cell aj.out 3).trans rfl⟩ (fun hHeld => ?_); refine with_tabW F69.tab14 F69.bits14 (fun HT_ HW_ => ?_)
        generalize w55.drew = w56 at ab aD an aj ai bn ay HK HB hHeld ⊢
        refine pu_ 0 47 (bs 10 1) HT_ ?_ rfl rfl
        refine pu_ 2 49 (bs 10 5) HT_ ?_ rfl rfl
        refine pu_ 4 51 (bs 10 21) HT_ ?_ rfl rfl
        refine tk_ 1 48 (bs 10 23) HT_ HW_ hHeld au2_32 ?_ rfl rfl
        refine tk_ 3 50 (bs 10 31) HT_ HW_ hHeld au2_32 ?_ rfl rfl
        refine one_ (i := 5) (N := some 52) (bs 10 63) rfl rfl (one_of HT_.out (by kernel_rfl)) (by decide) (fun K hK => ?_)
        refine gr_ Tryd.func68 #[.pointer (some ⟨g, 0, none⟩), .int .i64 3] (by rfl) ?_ rfl rfl rfl
        with_reducible refine (F68.calls g ae uy uz uA 3 Lp GC GD GE w0 _ ?s1 ?s2 A50.out).mono ?_
        (case s1 => exact au2_8)
        (case s2 => exact au2_9)
        rintro e sW ⟨rfl, hi, hb, hk⟩
        refine ⟨_, rfl, ?_⟩
        replace ab := am_ (Kd.S_mono (Kd.S_keep (IsS111.apartS (is2_0_ : IsS111 w0 _ g ae uy uz uA) au2_5 (by decide)) hk (fun _ h => h.2)) (fun _ h => h.1))
        replace aD := am_ (Kd.R_mono (Kd.R_keep (IsS111.apart (is2_0_ : IsS111 w0 _ g ae uy uz uA) (rk_ aD) (by decide)) hk (fun _ h => h.2)) (fun _ h => h.1))
        replace an := ka_ hk an bF
        replace aj := ka_ hk aj bP
        replace ai := ka_ hk ai bl
        replace bn := ka_ hk bn fm
        replace HK := am_ (KeepBut.trans au2_4 hk (.inl rfl))
        replace HB := am_ (hb)
        replace ay := am_ (hi)
        (try clear hb)
        (try clear hb2)
        (try clear hk)
        (try clear hi)
        refine hK.out _ _ ⟨(blk_cell bn.out 0).trans rfl, (blk_cell aj.out 0).trans rfl, (blk_cell aj.out 1).trans rfl, (blk_cell aj.out 2).trans rfl, (blk_cell aj.out 3).trans rfl⟩ (fun hHeld => ?_)
        clear hK K
        refine no_ 52 ?_
        refine pu_ 6 53 (bs 10 127) HT_ ?_ rfl rfl
        refine one_ (i := 7) (N := some 54) (bs 10 255) rfl rfl (one_of HT_.out (by kernel_rfl)) (by decide) (fun K hK => ?_)
        refine gr_ Tryd.func101 #[.pointer (some ⟨g, 0, none⟩), .agg #[.int .i64 gf, .int .i64 gg, .int .i64 gh, .int .i64 gi], .int .i64 (wrap64 (39 + Lp))] (by rfl) ?_ rfl rfl rfl
        with_reducible refine (F101.calls k3 g ae GC GD GE gf gg gh gi (wrap64 (39 + Lp)) mf BY BZ B0 w0 _ ?s1 ?s2 A51.out).mono ?_
        (case s1 => exact au2_8)
        (case s2 => exact au2_9)
        rintro e Fx ⟨rfl, hi, hb, hk⟩
        refine ⟨_, rfl, ?_⟩
        replace ab := am_ (Kd.S_mono (Kd.S_keep (IsS111.apartS (is2_0_ : IsS111 w0 _ g ae GC GD GE) au2_5 (by decide)) hk (fun _ h => h.2)) (fun _ h => h.1))
        replace aD := am_ (Kd.R_mono (Kd.R_keep (IsS111.apart (is2_0_ : IsS111 w0 _ g ae GC GD GE) (rk_ aD) (by decide)) hk (fun _ h => h.2)) (fun _ h => h.1))
        replace an := ka_ hk an bF
        replace aj := ka_ hk aj bP
        replace ai := ka_ hk ai bl
        replace bn := ka_ hk bn fm
        replace HK := am_ (KeepBut.trans au2_4 hk (.inl rfl))
        replace HB := am_ (hb)
        replace ay := am_ (hi)
        (try clear hb)
        (try clear hb2)
        (try clear hk)
        (try clear hi)
        have Lq : 0 ≤ (0 : Int) := (by omega)
        have Lr : (0 : Int) < ((bC.length : Int) : Int) := od_
        have P6 : (0 < bC.length) = True := eq_true (by omega)
        obtain ⟨jr, rO, GG, P7, a3E, b2z, P8⟩ := Kd.R_form aD.out (by omega)
        (first | cases GG | (injection GG with ea_ en_ ec_; (first | subst ea_ | (injection ea_ with ea_; subst ea_)); subst ec_; clear en_))
        have P9 := am_ P7
        have b2A := am_ P8
        clear P7 a3E P8
        obtain ⟨rP, Cd⟩ := Kd.R_celln (⟨#[]⟩ : ByteArray) aD.out (0 : Int) Lq Lr
        (try rw [show ((0 : Int)).toNat = 0 from rfl] at rP)
        (try simp only [Nat.reduceMul, Nat.zero_mul, Nat.zero_add, Nat.reduceAdd] at rP)
        (try rw [show ((0 : Int)).toNat = 0 from rfl] at Cd)
        (try simp only [Nat.reduceMul, Nat.zero_mul, Nat.zero_add, Nat.reduceAdd] at Cd)
        replace Lq := eq_true Lq
        replace Lr := eq_true Lr
        have HN0_go53 := am_ (show g ≠ jr from by have h_ := IsS111.own_ne ay.out aD.out (by decide); intro e_; exact h_ (by rw [e_]; rfl))
        have Ls := Kd.R_putn aD.out (0 : Int) mf
        rw [← P3.out] at Ls
        have a3F := am_ Ls
        clear Ls
        refine hK.out _ _ ⟨(blk_cell bn.out 0).trans rfl, (blk_cell aj.out 0).trans rfl, (blk_cell aj.out 1).trans rfl, (blk_cell aj.out 2).trans rfl, (blk_cell aj.out 3).trans rfl⟩ (fun hHeld => ?_)
        clear hK K
        refine no_ 54 ?_
        refine pu_ 8 55 (bs 10 511) HT_ ?_ rfl rfl
        refine last_ (i := 9) (N := none) (bs 10 1023) rfl rfl (one_of HT_.out (by kernel_rfl)) (by decide) (fun K hK => ?_)
        refine skip_ (w1 := ?_) (by rfl) rfl ?_ ?_
        rotate_left
        ·go_simp
         rfl
        refine hK.out _ _ ?_
        clear hK K
        refine done_ (done_of HT_.out (by kernel_rfl)) ?_
        have bI : Aside0 (Kd.S k55 55 (Fx.setCell ⟨jr, 0, none⟩ (.string mf)) w.heap.size (fun k_ => some k_ ≠ (.slice (some ⟨jr, 0, none⟩) bC.length rO : Value).ownBlock ∧ k_ ≠ cW) bY ch) := ⟨by (with_reducible repeat (first | apply Kd.S_alloc | apply Kd.S_drewN | apply Kd.S_drew)); exact Kd.S_mono (Kd.S_far (p := ⟨jr, 0, none⟩) (Kd.S_mono ab.out (fun k_ hk => (⟨hk, fun e_ => hk.1 (by rw [e_]; rfl)⟩ : _ ∧ k_ ≠ jr))) (fun _ hk => hk.2) (.string mf)) (fun _ hk => ⟨hk.1.1, hk.1.2⟩)⟩
        have bZ : Aside0 (Kd.R Kd.string 9 (Fx.setCell ⟨jr, 0, none⟩ (.string mf)) w.heap.size (fun _ => True) (.slice (some ⟨jr, 0, none⟩) bC.length rO) Ca) := ⟨by (with_reducible repeat (first | apply Kd.R_alloc | apply Kd.R_drewN | apply Kd.R_drew)); exact a3F.out⟩
        have n2_ : Aside0 ((Fx.setCell ⟨jr, 0, none⟩ (.string mf)).heap[dW]? = some (.cells #[.string (⟨#[]⟩ : ByteArray), .slice none 0 0] 52 (0, 0))) := ⟨by (with_reducible repeat (first | refine blk_drewN ?_ _ | refine blk_drew ?_ | refine blk_alloc ?_ _)); refine blk_far ?_ (by have h_ := Kd.R_ne aD.out an.out (by decide); intro e_; exact h_ (by rw [e_]; rfl)) _; (with_reducible repeat (first | refine blk_drewN ?_ _ | refine blk_drew ?_ | refine blk_alloc ?_ _)); exact an.out⟩
        have cD : Aside0 ((Fx.setCell ⟨jr, 0, none⟩ (.string mf)).heap[dX]? = some (.cells #[.int .i64 gf, .int .i64 gg, .int .i64 gh, .int .i64 gi] 140 (0, 0))) := ⟨by (with_reducible repeat (first | refine blk_drewN ?_ _ | refine blk_drew ?_ | refine blk_alloc ?_ _)); refine blk_far ?_ (by have h_ := Kd.R_ne aD.out aj.out (by decide); intro e_; exact h_ (by rw [e_]; rfl)) _; (with_reducible repeat (first | refine blk_drewN ?_ _ | refine blk_drew ?_ | refine blk_alloc ?_ _)); exact aj.out⟩
        have ji : Aside0 ((Fx.setCell ⟨jr, 0, none⟩ (.string mf)).heap[dq]? = some (.cells #[.string dD, bY] 52 (0, 0))) := ⟨by (with_reducible repeat (first | refine blk_drewN ?_ _ | refine blk_drew ?_ | refine blk_alloc ?_ _)); refine blk_far ?_ (by have h_ := Kd.R_ne aD.out ai.out (by decide); intro e_; exact h_ (by rw [e_]; rfl)) _; (with_reducible repeat (first | refine blk_drewN ?_ _ | refine blk_drew ?_ | refine blk_alloc ?_ _)); exact ai.out⟩
        have jj : Aside0 ((Fx.setCell ⟨jr, 0, none⟩ (.string mf)).heap[cW]? = some (.cells #[.slice (some ⟨jr, 0, none⟩) bC.length rO] 55 (0, 0))) := ⟨by (with_reducible repeat (first | refine blk_drewN ?_ _ | refine blk_drew ?_ | refine blk_alloc ?_ _)); refine blk_far ?_ (by have h_ := Kd.R_ne aD.out bn.out (by decide); intro e_; exact h_ (by rw [e_]; rfl)) _; (with_reducible repeat (first | refine blk_drewN ?_ _ | refine blk_drew ?_ | refine blk_alloc ?_ _)); exact bn.out⟩
        have nv : Aside0 (IsS111 w0 (Fx.setCell ⟨jr, 0, none⟩ (.string mf)) g ae BY BZ B0) := ⟨by repeat (first | (with_reducible first | exact ay.out | apply IsS111.alloc | apply IsS111.drewN | apply IsS111.drew | apply IsS111.set_1 | apply IsS111.set_2 | apply IsS111.set_3 | refine IsS111.far ?_ HN0_go53.out _ | refine IsS111.far ?_ gM.out _ | refine IsS111.far ?_ kU.out _ | refine IsS111.far ?_ dV.out _ | refine IsS111.far ?_ l9.out _) | exact ay.out)⟩
        have qw : Aside0 (KeepBut w (Fx.setCell ⟨jr, 0, none⟩ (.string mf)) g none) := ⟨by repeat (first | (with_reducible first | exact HK.out | apply KeepBut.set_ | apply keep_drewN | apply keep_drew | apply keep_alloc | refine keep_far ?_ P9.out _ | refine keep_far ?_ pA.out _ | refine keep_far ?_ qM.out _ | refine keep_far ?_ ti.out _ | refine keep_far ?_ BH.out _) | exact HK.out)⟩
        have uB : Aside0 (Below w0.heap.size w0 (Fx.setCell ⟨jr, 0, none⟩ (.string mf))) := ⟨by repeat (first | (with_reducible first | exact HB.out | apply below_alloc | apply pw_below_drewN | apply below_drew1 | refine below_set ?_ (Nat.le_trans HL.out P9.out) | refine below_set ?_ (IsS111.ge ay.out) | refine below_set ?_ lv.out | refine below_set ?_ l8.out | refine below_set ?_ pB.out | refine below_set ?_ xA.out) | exact HB.out)⟩
        (try clear ab)
        (try clear aD)
        (try clear an)
        (try clear aj)
        (try clear ai)
        (try clear bn)
        (try clear ay)
        (try clear HK)
        (try clear HB)
        generalize (Fx.setCell ⟨jr, 0, none⟩ (.string mf)) = w60 at bI bZ n2_ cD ji jj nv qw uB ⊢
        have ab := bI
        have aD := bZ
        have an := n2_
        have aj := cD
        have ai := ji
        have bn := jj
        have ay := nv
        have HK := qw
        have HB := uB
        clear bI bZ n2_ cD ji jj nv qw uB
        have Qa := cN.out
        have Qb := cM.out
        have Qc := cP.out
        have Qd := cO.out
        have Qe := kZ.out
        have Qf := k5.out
        have I1 := bl.out
        have I2 := dV.out
        obtain ⟨oW, oX, oY, oZ⟩ := cellsF2 ai.out
        have a9u := kW.out
        have a9v := kV.out
        have a9w := kY.out
        have a9x := kX.out
        have a9y := fm.out
        have a9z := l9.out
        have xN : w60.cell? ⟨cW, 0, none⟩ = some (.slice (some ⟨jr, 0, none⟩) bC.length rO) := (blk_cell bn.out 0).trans rfl
        have xO := blk_frozen bn.out 0
        try go_wp2_with (first | ((with_reducible refine gate_builtin (b := .append) (xs := #[.tmp 57, .tmp 59]) rfl ?_); (try (refine gate_guard (by rfl) ?_; dsimp only)); at_builtin; refine Kd.S_append k55 w.heap.size rfl (.tmp 57) (.tmp 59) 50 55 (.agg #[(.slice none 0 0)]) 24 rfl Tryd.underlying50 info55 rfl (by decide) (by omega) bY ch (⟨Ca⟩ : S55) [.slice (some ⟨jr, 0, none⟩) bC.length rO] (fun k_ => k_ ≠ cW) (fun k_ => some k_ = (.slice (some ⟨jr, 0, none⟩) bC.length rO : Value).ownBlock) rfl rfl ?aP (fun k_ hk_ => ((Kd.R_mono (ok' := fun k_ => ((fun k_ => k_ ≠ cW)) k_ ∧ some k_ ≠ (bY : Value).ownBlock) (Kd.R_types (Kd.R_apart' (aD.out) (Kd.S_typed ab.out) (by decide)) bn.out (by decide)) (fun k_ hk => ⟨hk.2, hk.1.2⟩))).1 k_ hk_.symm) ?aF ?aO (Below.refl _ _) ?aS ?aL ?_; (case aP => exact k55_mkM _ _ _ (⟨Ca⟩ : S55) (Kd.R_mono (Kd.R_tight rfl (Kd.R_mono (ok' := fun k_ => ((fun k_ => k_ ≠ cW)) k_ ∧ some k_ ≠ (bY : Value).ownBlock) (Kd.R_types (Kd.R_apart' (aD.out) (Kd.S_typed ab.out) (by decide)) bn.out (by decide)) (fun k_ hk => ⟨hk.2, hk.1.2⟩))) (fun _ h_ => h_))); (case aF => exact (fun k_ hk => Kd.freshB (g := cW) (o := .cells #[.slice (some ⟨jr, 0, none⟩) bC.length rO] 55 (0, 0)) (bk_ bn) k_ hk)); (case aO => exact au2_30); (case aS => exact au2_36); (case aL => have := P4.out; omega); intro b2B w70 ho hb hg hat; rw [← P5.out] at ho; replace an := am_ (bg_ an hg (Kd.S_ne ab.out an.out (by decide))); replace aj := am_ (bg_ aj hg (Kd.S_ne ab.out aj.out (by decide))); replace ai := am_ (bg_ ai hg (Kd.S_ne ab.out ai.out (by decide))); replace bn := am_ (bg_ bn hg (Kd.S_away ab.out (fun _ hk => hk.2))); replace HB := am_ (below_weaken au2_14 HL.out hb); replace ay := am_ (IsS111.grown is2_0_ hg (IsS111.own_neS ay.out ab.out (by decide))); replace HK := am_ (KeepBut.trans au2_4 (KeepBut.of_grown hg g) (Kd.S_base2 ab.out)); have I3 := am_ (ho); clear ab aD; clear ho hb hg hat; obtain ⟨Qg, Qh, a3G⟩ := Kd.S_slice I3.out; subst a3G; obtain ⟨rQ, rR, rS, rT⟩ := cellsF2 ai.out))
        go_roundg k3
        case measure => have := Fw.out; have := HK2.out; have := pC.out; omega
        case rel => exact ⟨(wrap64 (oy - 1)), (BY), (BZ), (B0), (GF), (.slice Qg GF.length Qh), er_, H', ⟨au2_33⟩, ⟨by (with_reducible repeat (first | apply Kd.S_alloc | apply Kd.S_drewN | apply Kd.S_drew)); exact Kd.S_mono (Kd.S_far (p := ⟨dq, 1, none⟩) (Kd.S_types I3.out ai.out (by decide)) (fun _ hk => hk.2) (.slice Qg GF.length Qh)) (fun _ hk => trivial)⟩, ⟨bf_ an⟩, ⟨bf_ aj⟩, ⟨bq_ ai⟩, ⟨is2_0_⟩, ⟨au2_13⟩, ⟨au2_12⟩⟩
     have Lt := am_ H
     clear H
     go_upto_block 4 with (fail)
     go_cut [] (fun wc => ∃ (kq : Nat) (ed : Int) (ee : Int) (ef : Int) (aV : List (S55)) (bY : Value), Aside0 (F69.j4 kq ae ed ee ef dD aV = some (r1, r2, r3, r4, r5)) ∧ Aside0 (kq ≤ k2) ∧ Aside0 (Kd.S k55 55 wc w.heap.size (fun _ => True) bY aV) ∧ Aside0 (wc.heap[dW]? = some (.cells #[.string (⟨#[]⟩ : ByteArray), (.slice none 0 0)] 52 (0, 0))) ∧ Aside0 (wc.heap[dX]? = some (.cells #[.int .i64 gf, .int .i64 gg, .int .i64 gh, .int .i64 gi] 140 (0, 0))) ∧ Aside0 (wc.heap[dq]? = some (.cells #[.string dD, bY] 52 (0, 0))) ∧ Aside0 (IsS111 w0 wc g ae ed ee ef) ∧ Aside0 (KeepBut w wc g none) ∧ Aside0 (Below w0.heap.size w0 wc))
     case first =>
      have H := Lt.out
      clear Lt
      have H' := am_ H
      clear H
      go_wp2
      go_loopg [] k2 (fun kq w' => ∃ (aM : Int) (aN : Int) (aQ : Int) (aW : List (S55)) (bY : Value), Aside0 (F69.l2 kq ae aM aN aQ dD aW = some (r1, r2, r3, r4, r5)) ∧ Aside0 (kq ≤ k2) ∧ Aside0 (Kd.S k55 55 w' w.heap.size (fun _ => True) bY aW) ∧ Aside0 (w'.heap[dW]? = some (.cells #[.string (⟨#[]⟩ : ByteArray), (.slice none 0 0)] 52 (0, 0))) ∧ Aside0 (w'.heap[dX]? = some (.cells #[.int .i64 gf, .int .i64 gg, .int .i64 gh, .int .i64 gi] 140 (0, 0))) ∧ Aside0 (w'.heap[dq]? = some (.cells #[.string dD, bY] 52 (0, 0))) ∧ Aside0 (IsS111 w0 w' g ae aM aN aQ) ∧ Aside0 (KeepBut w w' g none) ∧ Aside0 (Below w0.heap.size w0 w'))
      case atStart => exact ⟨(bq), (br), (bu), (ch), (bY), H', ⟨Nat.le_refl _⟩, ⟨au2_20⟩, ⟨bk_ an⟩, ⟨bk_ aj⟩, ⟨bk_ ai⟩, ⟨is2_0_⟩, ⟨au2_7⟩, ⟨au2_6⟩⟩
      case round =>
       clear H'
       try clear c27b0
       try clear c38b0
       try clear c52b0
       try clear c52b1
       try clear Lq
       try clear Lr
       try clear P6
       try clear oW oX
       try clear xN
       try clear rQ rR
       try clear rH rI
       try clear rL
       try clear xJ xK
       try clear oY oZ
       try clear xO
       try clear rS rT
       try clear rJ rK
       try clear rN
       try clear xL xM
       try clear rP
       try clear Lq
       try clear Lr
       obtain ⟨aM, aN, aQ, aW, bY, HA, pC, ab, an, aj, ai, ay, HK, HB⟩ := hrel
       cases gk with
       | zero => exact absurd HA.out (by simp [F69.l2])
       | succ k3 =>
        have H := HA.out
        clear HA
        simp only [F69.l2] at H
        replace H := it_ H; rcases H with ⟨(c89b0 : decide (0 < (aW.length : Int)) = true), H⟩ | ⟨(c89b0 : decide (0 < (aW.length : Int)) = false), H⟩
        rotate_left
        ·have c89b1 : decide (0 < aW.length) = false := n2_ c89b0
         (first | rw [c89b0] | (simp only [i64_w, i32_w]; rw [c89b0]) | skip)
         have H' := am_ H
         clear H
         have a3H := cN.out
         have a3I := cM.out
         have a3J := cP.out
         have a3K := cO.out
         have a3L := bl.out
         have a3M := dV.out
         obtain ⟨tk, tl, tm, tn⟩ := cellsF2 ai.out
         obtain ⟨Qi, Qj, Qk⟩ := Kd.S_slice ab.out
         subst Qk
         go_wp2
         go_meet
         case rel => exact ⟨_, (aM), (aN), (aQ), (aW), (.slice Qi aW.length Qj), H', ⟨au2_31⟩, ⟨au2_20⟩, ⟨bk_ an⟩, ⟨bk_ aj⟩, ⟨bk_ ai⟩, ⟨is2_0_⟩, ⟨au2_7⟩, ⟨au2_6⟩⟩
        have c89b1 : decide (0 < aW.length) = true := n2_ c89b0
        (first | rw [c89b0] | (simp only [i64_w, i32_w]; rw [c89b0]) | skip)
        obtain ⟨eW, Ce⟩ : ∃ j_ : Int, (wrap64 ((aW.length : Int) - 1)) = j_ := ⟨_, rfl⟩
        replace H : (if 0 ≤ (eW) then (if (eW) < (aW.length : Int) then ((F73.f ((rd_T55 aW (eW)).f0)).bind fun Gq => (if Gq = true then ((F70.f ae aM aN aQ 20).bind fun ig => (if ig.1 = true then (F69.j4 k3 ae ig.2.1 ig.2.2.1 ig.2.2.2 dD aW) else (if (eW) ≤ (aW.length : Int) then (F69.l2 k3 ae ig.2.1 ig.2.2.1 ig.2.2.2 dD (aW.take ((eW) : Int).toNat)) else (none)))) else (F69.j4 k3 ae aM aN aQ dD aW))) else (none)) else (none)) = some (r1, r2, r3, r4, r5) := by first | (rw [Ce] at H; exact H) | (simp only [Ce] at H ⊢; exact H)
        have hji90w : (IntKind.i64.wrap ((aW.length : Int) - 1)) = eW := (i64_w _).trans Ce
        replace H := itn_ H; rcases H with ⟨c91b0, H⟩
        replace H := itn_ H; rcases H with ⟨c92b0, H⟩
        replace H := bi_ H; rcases H with ⟨Gq, OF, H⟩
        replace H := ib_ H; rcases H with ⟨rfl, H⟩ | ⟨rfl, H⟩
        rotate_left
        ·have H' := am_ H
         clear H
         have a3N := cN.out
         have a3O := cM.out
         have Lu := cP.out
         have Lv := cO.out
         have Lw := bl.out
         have Lx := dV.out
         obtain ⟨Cf, Cg, Ch, Ci⟩ := cellsF2 ai.out
         obtain ⟨a9B, Ql, Qm⟩ := Kd.S_slice ab.out
         subst Qm
         have lE : 0 ≤ ((eW) : Int) := od_
         have nu : (eW) < (aW.length : Int) := od_
         obtain ⟨pG, Cj, Ck, Cl, k7, iN, iO⟩ := at_T55 (Kd.S_reads' ab.out).2.2 (eW) lE nu
         cases Cl
         obtain ⟨I4, pH, pI, ky⟩ := Kd.S_get ab.out z55 (eW) lE au2_28
         obtain ⟨xP, rfl, fo⟩ := k55_openM pI
         have cX := ky 0 _ rfl
         rw [Nat.add_zero, show (k55).sz = 1 from rfl, Nat.mul_one] at cX
         replace cX := Option.some.inj (cX.symm.trans k7)
         rw [cX] at fo
         have iI := am_ (show Kd.R Kd.string 9 _ _ _ _ ((rd_T55 aW (eW)).f0) from fo)
         clear cX fo
         clear ky pH
         have jL := am_ iO
         have mg := am_ iN
         clear iO iN
         replace lE := eq_true lE
         replace nu := eq_true nu
         go_wp2_with (first | (go_at_call 73; (with_reducible refine (F73.calls _ _ ((rd_T55 aW (eW)).f0) false _ ?s1 ?s2 OF.out).mono ?_); (case s1 => exact au2_21); (case s2 => exact mg.out); rintro e b2C ⟨rfl, hb⟩; (try clear OF); replace ab := am_ (Kd.S_below au2_5 hb); replace iI := am_ (Kd.R_below au2_17 hb); replace an := bb_ an hb; replace aj := bb_ aj hb; replace ai := bb_ ai hb; replace jL := am_ (Kd.C_below au2_11 hb); replace HK := am_ (KeepBut.trans au2_0 (KeepBut.of_below hb g none) (.inl rfl)); replace HB := am_ (below_step au2_3 hb); replace ay := am_ (IsS111.below is2_0_ hb); clear hb))
         go_meet
         case rel => exact ⟨_, (aM), (aN), (aQ), (aW), (.slice (some pG) aW.length Ql), H', ⟨au2_31⟩, ⟨au2_20⟩, ⟨bk_ an⟩, ⟨bk_ aj⟩, ⟨bk_ ai⟩, ⟨is2_0_⟩, ⟨au2_7⟩, ⟨au2_6⟩⟩
        replace H := bi_ H; rcases H with ⟨⟨b2D, Cm, Cn, Co⟩, Ze, H⟩
        replace H := ib_ H; rcases H with ⟨rfl, H⟩ | ⟨rfl, H⟩
        ·have H' := am_ H
         clear H
         have a9C := cN.out
         have a9D := cM.out
         have a9E := cP.out
         have a9F := cO.out
         have a9G := bl.out
         have a9H := dV.out
         obtain ⟨tq, tr, tt, tu⟩ := cellsF2 ai.out
         obtain ⟨a9I, Qn, Qo⟩ := Kd.S_slice ab.out
         subst Qo
         have lE : 0 ≤ ((eW) : Int) := od_
         have nu : (eW) < (aW.length : Int) := od_
         obtain ⟨pG, Cj, Ck, Cl, k7, iN, iO⟩ := at_T55 (Kd.S_reads' ab.out).2.2 (eW) lE nu
         cases Cl
         obtain ⟨I4, pH, pI, ky⟩ := Kd.S_get ab.out z55 (eW) lE au2_28
         obtain ⟨xP, rfl, fo⟩ := k55_openM pI
         have cX := ky 0 _ rfl
         rw [Nat.add_zero, show (k55).sz = 1 from rfl, Nat.mul_one] at cX
         replace cX := Option.some.inj (cX.symm.trans k7)
         rw [cX] at fo
         have iI := am_ (show Kd.R Kd.string 9 _ _ _ _ ((rd_T55 aW (eW)).f0) from fo)
         clear cX fo
         clear ky pH
         have jL := am_ iO
         have mg := am_ iN
         clear iO iN
         replace lE := eq_true lE
         replace nu := eq_true nu
         go_wp2_with (first | (go_at_call 73; (with_reducible refine (F73.calls _ _ ((rd_T55 aW (eW)).f0) true _ ?s1 ?s2 OF.out).mono ?_); (case s1 => exact au2_21); (case s2 => exact mg.out); rintro e b2E ⟨rfl, hb⟩; (try clear OF); replace ab := am_ (Kd.S_below au2_5 hb); replace iI := am_ (Kd.R_below au2_17 hb); replace an := bb_ an hb; replace aj := bb_ aj hb; replace ai := bb_ ai hb; replace jL := am_ (Kd.C_below au2_11 hb); replace HK := am_ (KeepBut.trans au2_0 (KeepBut.of_below hb g none) (.inl rfl)); replace HB := am_ (below_step au2_3 hb); replace ay := am_ (IsS111.below is2_0_ hb); clear hb) | (go_at_call 70; (with_reducible refine (F70.calls g ae aM aN aQ 20 true Cm Cn Co w0 _ ?s1 ?s2 Ze.out).mono ?_); (case s1 => exact au2_1); (case s2 => exact au2_2); rintro e b2F ⟨rfl, hi, hb, hk⟩; (try clear Ze); replace ab := am_ (Kd.S_mono (Kd.S_keep (IsS111.apartS (is2_0_ : IsS111 w0 _ g ae aM aN aQ) au2_5 (by decide)) hk (fun _ h => h.2)) (fun _ h => h.1)); replace an := ka_ hk an bF; replace aj := ka_ hk aj bP; replace ai := ka_ hk ai bl; replace iI := am_ (Kd.R_mono (Kd.R_keep (IsS111.apart (is2_0_ : IsS111 w0 _ g ae aM aN aQ) au2_17 (by decide)) hk (fun _ h => h.2)) (fun _ h => h.1)); replace HK := am_ (KeepBut.trans au2_0 hk (.inl rfl)); replace HB := am_ (hb); replace ay := am_ (hi); clear hb hk hi))
         go_meet
         case rel => exact ⟨_, (Cm), (Cn), (Co), (aW), (.slice (some pG) aW.length Qn), H', ⟨au2_31⟩, ⟨au2_20⟩, ⟨bk_ an⟩, ⟨bk_ aj⟩, ⟨bk_ ai⟩, ⟨is2_0_⟩, ⟨au2_7⟩, ⟨au2_6⟩⟩
        by_cases zY : (eW) ≤ (aW.length : Int)
        rotate_left
        ·rw [if_neg zY] at H
         exact absurd H (by simp)
        rw [if_pos zY] at H
        have c104b0 := eq_true zY
        have c104b1 : decide ((eW) ≤ (aW.length : Int)) = true := decide_eq_true zY
        clear zY
        obtain ⟨Cp, Cq⟩ : ∃ y_ : List (S55), y_ = (aW.take ((eW) : Int).toNat) := ⟨_, rfl⟩
        replace H : (F69.l2 k3 ae Cm Cn Co dD Cp) = some (r1, r2, r3, r4, r5) := by first | (rw [Cq]; exact H) | exact H
        have I5 := am_ Cq
        clear Cq
        have H' := am_ H
        clear H
        have a3P := cN.out
        have a3Q := cM.out
        have Ly := cP.out
        have Lz := cO.out
        have LA := bl.out
        have LC := dV.out
        obtain ⟨tv, tw, tx, tz⟩ := cellsF2 ai.out
        obtain ⟨Cr, pJ, Cs⟩ := Kd.S_slice ab.out
        subst Cs
        have lE : 0 ≤ ((eW) : Int) := od_
        have nu : (eW) < (aW.length : Int) := od_
        obtain ⟨pG, Cj, Ck, Cl, k7, iN, iO⟩ := at_T55 (Kd.S_reads' ab.out).2.2 (eW) lE nu
        cases Cl
        obtain ⟨I4, pH, pI, ky⟩ := Kd.S_get ab.out z55 (eW) lE au2_28
        obtain ⟨xP, rfl, fo⟩ := k55_openM pI
        have cX := ky 0 _ rfl
        rw [Nat.add_zero, show (k55).sz = 1 from rfl, Nat.mul_one] at cX
        replace cX := Option.some.inj (cX.symm.trans k7)
        rw [cX] at fo
        have iI := am_ (show Kd.R Kd.string 9 _ _ _ _ ((rd_T55 aW (eW)).f0) from fo)
        clear cX fo
        clear ky pH
        have jL := am_ iO
        have mg := am_ iN
        clear iO iN
        replace lE := eq_true lE
        replace nu := eq_true nu
        go_wp2_with (first | (go_at_call 73; (with_reducible refine (F73.calls _ _ ((rd_T55 aW (eW)).f0) true _ ?s1 ?s2 OF.out).mono ?_); (case s1 => exact au2_21); (case s2 => exact mg.out); rintro e a3R ⟨rfl, hb⟩; (try clear OF); replace ab := am_ (Kd.S_below au2_5 hb); replace iI := am_ (Kd.R_below au2_17 hb); replace an := bb_ an hb; replace aj := bb_ aj hb; replace ai := bb_ ai hb; replace jL := am_ (Kd.C_below au2_11 hb); replace HK := am_ (KeepBut.trans au2_0 (KeepBut.of_below hb g none) (.inl rfl)); replace HB := am_ (below_step au2_3 hb); replace ay := am_ (IsS111.below is2_0_ hb); clear hb) | (go_at_call 70; (with_reducible refine (F70.calls g ae aM aN aQ 20 false Cm Cn Co w0 _ ?s1 ?s2 Ze.out).mono ?_); (case s1 => exact au2_1); (case s2 => exact au2_2); rintro e b2G ⟨rfl, hi, hb, hk⟩; (try clear Ze); replace ab := am_ (Kd.S_mono (Kd.S_keep (IsS111.apartS (is2_0_ : IsS111 w0 _ g ae aM aN aQ) au2_5 (by decide)) hk (fun _ h => h.2)) (fun _ h => h.1)); replace an := ka_ hk an bF; replace aj := ka_ hk aj bP; replace ai := ka_ hk ai bl; replace iI := am_ (Kd.R_mono (Kd.R_keep (IsS111.apart (is2_0_ : IsS111 w0 _ g ae aM aN aQ) au2_17 (by decide)) hk (fun _ h => h.2)) (fun _ h => h.1)); replace HK := am_ (KeepBut.trans au2_0 hk (.inl rfl)); replace HB := am_ (hb); replace ay := am_ (hi); clear hb hk hi; obtain ⟨Ct, Cu, Cv, Cw⟩ := cellsF2 ai.out; have rv : ((eW) : Int) ≤ ((aW.length : Int) : Int) := od_; obtain ⟨a9J, Cx, _, LD, _⟩ := info_parts info55; have GH := cut_to (P := Tryd.prog) 50 55 .i64 Tryd.underlying50 Cx (some pG) aW.length pJ (eW) (of_decide_eq_true as_) rv (Kd.S_reads' ab.out).2.1; have xQ := Kd.S_take (m := ((eW) : Int).toNat) ab.out (by omega); have I6 : Cp.length = ((eW) : Int).toNat := (by rw [I5.out, List.length_take]; omega); rw [← I5.out] at xQ; rw [← I6] at xQ GH; clear I6 Cx LD ab; have Qp := am_ xQ; clear xQ; replace rv := eq_true rv))
        go_roundg k3
        case measure => have := Fw.out; have := HK2.out; have := pC.out; omega
        case rel => exact ⟨(Cm), (Cn), (Co), (Cp), (.slice (some pG) Cp.length pJ), H', ⟨au2_33⟩, ⟨by (with_reducible repeat (first | apply Kd.S_alloc | apply Kd.S_drewN | apply Kd.S_drew)); exact Kd.S_mono (Kd.S_far (p := ⟨dq, 1, none⟩) (Kd.S_types Qp.out ai.out (by decide)) (fun _ hk => hk.2) (.slice (some pG) Cp.length pJ)) (fun _ hk => trivial)⟩, ⟨bf_ an⟩, ⟨bf_ aj⟩, ⟨bq_ ai⟩, ⟨is2_0_⟩, ⟨au2_7⟩, ⟨au2_6⟩⟩
     case rest =>
      clear Lt
      try clear c27b0
      try clear c38b0
      try clear c52b0
      try clear c52b1
      try clear Lq
      try clear Lr
      try clear P6
      try clear c89b0
      try clear c89b1
      try clear c91b0
      try clear c92b0
      try clear zY
      try clear c104b0
      try clear c104b1
      try clear rv
      try clear tq tr
      try clear tv tw
      try clear Ct Cu
      try clear Cf Cg
      try clear tk tl
      try clear oW oX
      try clear xN
      try clear rQ rR
      try clear rH rI
      try clear rL
      try clear xJ xK
      try clear tt tu
      try clear tx tz
      try clear Cv Cw
      try clear Ch Ci
      try clear tm tn
      try clear oY oZ
      try clear xO
      try clear rS rT
      try clear rJ rK
      try clear rN
      try clear xL xM
      try clear k7
      try clear rP
      try clear lE
      try clear Lq
      try clear rv
      try clear nu
      try clear Lr
      obtain ⟨kq, ed, ee, ef, aV, bY, HA, b2H, ab, an, aj, ai, ay, HK, HB⟩ := hcut
      cases kq with
      | zero => exact absurd HA.out (by simp [F69.j4])
      | succ b2I =>
       have H := HA.out
       clear HA
       simp only [F69.j4] at H
       replace H := bi_ H; rcases H with ⟨⟨b2J, qA, qB, qC⟩, tA, H⟩
       replace H := ib_ H; rcases H with ⟨rfl, H⟩ | ⟨rfl, H⟩
       rotate_left
       ·simp only [Option.some.injEq, Prod.mk.injEq] at H
        obtain ⟨rfl, rfl, rfl, rfl, rfl⟩ := H
        go_wp2_with (first | (go_at_call 70; (with_reducible refine (F70.calls g ae ed ee ef 20 false qA qB qC w0 _ ?s1 ?s2 tA.out).mono ?_); (case s1 => exact au2_1); (case s2 => exact au2_2); rintro e b2K ⟨rfl, hi, hb, hk⟩; (try clear tA); replace ab := am_ (Kd.S_mono (Kd.S_keep (IsS111.apartS (is2_0_ : IsS111 w0 _ g ae ed ee ef) au2_5 (by decide)) hk (fun _ h => h.2)) (fun _ h => h.1)); replace an := ka_ hk an bF; replace aj := ka_ hk aj bP; replace ai := ka_ hk ai bl; replace HK := am_ (KeepBut.trans au2_0 hk (.inl rfl)); replace HB := am_ (hb); replace ay := am_ (hi); clear hb hk hi; have LE := cN.out; have LF := cM.out; have LG := cP.out; have LH := cO.out; have a3S := bl.out; have a3T := dV.out; obtain ⟨Qq, Qr, Qs, Qt⟩ := cellsF2 ai.out; have a3U := jp.out; have a3V := jq.out; have a3W := bF.out; have a3X := gM.out; obtain ⟨Qu, Qv, Qw, Qx⟩ := cellsF2 an.out; obtain ⟨I7, I8, Qy⟩ := Kd.S_slice ab.out; subst Qy))
        refine bodyPost_ret (results_cell_row rfl _ _ dW 52 #[.string dD, .slice I7 aV.length I8] (0, 0) _ rfl (bq_ an) Tryd.underlying52 rfl (by kernel_rfl)) rfl ?_
        exact ⟨_, au2_23, by (with_reducible repeat (first | apply Kd.S_alloc | apply Kd.S_drewN | apply Kd.S_drew)); exact Kd.S_mono (Kd.S_far (p := ⟨dW, 1, none⟩) (Kd.S_far (p := ⟨dW, 0, none⟩) (Kd.S_types ab.out an.out (by decide)) (fun _ hk => hk.2) (.string dD)) (fun _ hk => hk.2) (.slice I7 aV.length I8)) (fun _ hk => trivial), is2_0_, au2_6, au2_7⟩
       replace H := bi_ H; rcases H with ⟨⟨nw, js, jt, iB⟩, zZ, H⟩
       by_cases uC : nw = 0
       ·rw [if_pos uC] at H
        have c128b0 : (nw == 0) = true := beq_iff_eq.mpr uC
        have c128b1 : (nw != 0) = false := bne_eq_false_iff_eq.mpr uC
        clear uC
        obtain ⟨Qz, Cy⟩ : ∃ y_ : List ByteArray, y_ = (([(⟨#[]⟩ : ByteArray), (⟨#[65, 66]⟩ : ByteArray), (⟨#[65, 66, 67, 68]⟩ : ByteArray), (⟨#[65, 66, 49]⟩ : ByteArray), (⟨#[97, 98, 99]⟩ : ByteArray)] : List ByteArray)) := ⟨_, rfl⟩
        replace H : ((F67.f ae js jt iB Qz).bind fun mb => (some (mb.1, aV, mb.2.1, mb.2.2.1, mb.2.2.2))) = some (r1, r2, r3, r4, r5) := by first | (rw [Cy]; exact H) | exact H
        have I9 := am_ Cy
        clear Cy
        replace H := bi_ H; rcases H with ⟨⟨GI, a3Y, a3Z, a30⟩, QA, H⟩
        simp only [Option.some.injEq, Prod.mk.injEq] at H
        obtain ⟨rfl, rfl, rfl, rfl, rfl⟩ := H
        go_wp2_with (first | (go_at_call 70; (with_reducible refine (F70.calls g ae ed ee ef 20 true qA qB qC w0 _ ?s1 ?s2 tA.out).mono ?_); (case s1 => exact au2_1); (case s2 => exact au2_2); rintro e b2L ⟨rfl, hi, hb, hk⟩; (try clear tA); replace ab := am_ (Kd.S_mono (Kd.S_keep (IsS111.apartS (is2_0_ : IsS111 w0 _ g ae ed ee ef) au2_5 (by decide)) hk (fun _ h => h.2)) (fun _ h => h.1)); replace an := ka_ hk an bF; replace aj := ka_ hk aj bP; replace ai := ka_ hk ai bl; replace HK := am_ (KeepBut.trans au2_0 hk (.inl rfl)); replace HB := am_ (hb); replace ay := am_ (hi); clear hb hk hi) | (go_at_call 68; (with_reducible refine (F68.calls g ae qA qB qC 3 nw js jt iB w0 _ ?s1 ?s2 zZ.out).mono ?_); (case s1 => exact au2_1); (case s2 => exact au2_2); rintro e b2M ⟨rfl, hi, hb, hk⟩; (try clear zZ); replace ab := am_ (Kd.S_mono (Kd.S_keep (IsS111.apartS (is2_0_ : IsS111 w0 _ g ae qA qB qC) au2_5 (by decide)) hk (fun _ h => h.2)) (fun _ h => h.1)); replace an := ka_ hk an bF; replace aj := ka_ hk aj bP; replace ai := ka_ hk ai bl; replace HK := am_ (KeepBut.trans au2_0 hk (.inl rfl)); replace HB := am_ (hb); replace ay := am_ (hi); clear hb hk hi) | ((with_reducible refine gate_dst (N := 110) rfl ?_); (try (refine gate_guard (by rfl) ?_; dsimp only)); refine Kd.R_lit Kd.string _ 9 ?hg (N := 110) ?hd (xs := ([(⟨#[]⟩ : ByteArray), (⟨#[65, 66]⟩ : ByteArray), (⟨#[65, 66, 67, 68]⟩ : ByteArray), (⟨#[65, 66, 49]⟩ : ByteArray), (⟨#[97, 98, 99]⟩ : ByteArray)] : List ByteArray)) (inner := [.string (⟨#[]⟩ : ByteArray), .string (⟨#[65, 66]⟩ : ByteArray), .string (⟨#[65, 66, 67, 68]⟩ : ByteArray), .string (⟨#[65, 66, 49]⟩ : ByteArray), .string (⟨#[97, 98, 99]⟩ : ByteArray)]) (ok := fun _ => True) (okp := fun _ => True) ?hr ?hp (fun _ hk => hk) trivial (Below.refl _ _) (Nat.le_refl _) (by simp) ?_; (case hd => rfl); (case hg => rfl); (case hr => exact hr_); (case hp => exact (Reps.one (show Kd.M Kd.string _ _ _ (⟨#[]⟩ : ByteArray) [.string (⟨#[]⟩ : ByteArray)] from rfl) (Reps.one (show Kd.M Kd.string _ _ _ (⟨#[65, 66]⟩ : ByteArray) [.string (⟨#[65, 66]⟩ : ByteArray)] from rfl) (Reps.one (show Kd.M Kd.string _ _ _ (⟨#[65, 66, 67, 68]⟩ : ByteArray) [.string (⟨#[65, 66, 67, 68]⟩ : ByteArray)] from rfl) (Reps.one (show Kd.M Kd.string _ _ _ (⟨#[65, 66, 49]⟩ : ByteArray) [.string (⟨#[65, 66, 49]⟩ : ByteArray)] from rfl) (Reps.one (show Kd.M Kd.string _ _ _ (⟨#[97, 98, 99]⟩ : ByteArray) [.string (⟨#[97, 98, 99]⟩ : ByteArray)] from rfl) (Reps.none _ _))))))); intro b2N b2O qN hb hg_ hnew_; clear hg_ hnew_; (first | rw [← I9.out] at qN | (simp only [Int.reduceToNat] at qN; rw [← I9.out] at qN)); replace ab := am_ (Kd.S_elder' au2_5 (Kd.R_base qN) hb); have qO := am_ (Kd.R_lower qN (keep_size (w := w) (g := g) (row := none) au2_0)); replace an := bb_ an hb; replace aj := bb_ aj hb; replace ai := bb_ ai hb; replace HK := am_ (KeepBut.trans au2_0 (KeepBut.of_below hb g none) (.inl rfl)); replace HB := am_ (below_step au2_3 hb); replace ay := am_ (IsS111.below is2_0_ hb); clear hb qN; obtain ⟨a9K, a9L, QB⟩ := Kd.R_slice qO.out; subst QB) | (go_at_call 67; (with_reducible refine (F67.calls g ae js jt iB _ _ Qz GI a3Y a3Z a30 w0 _ ?s1 ?s2 ?s3 ?s4 ?s5 QA.out).mono ?_); (case s1 => exact au2_1); (case s2 => exact au2_2); (case s3 => repeat (first | exact (Kd.R_reads' qO.out).2.2 | (with_reducible refine Kd.C_alloc ?_ _) | (with_reducible refine Kd.C_drewN ?_ _) | (with_reducible refine Kd.C_drew ?_))); (case s4 => exact (Kd.R_reads' qO.out).2.1); (case s5 => exact far_slice (IsS111.own_ne ay.out qO.out (by decide))); rintro e b2P ⟨rfl, hi, hb, hk⟩; (try clear QA); replace ab := am_ (Kd.S_mono (Kd.S_keep (IsS111.apartS (is2_0_ : IsS111 w0 _ g ae js jt iB) au2_5 (by decide)) hk (fun _ h => h.2)) (fun _ h => h.1)); replace an := ka_ hk an bF; replace aj := ka_ hk aj bP; replace ai := ka_ hk ai bl; replace qO := am_ (Kd.R_mono (Kd.R_keep (IsS111.apart (is2_0_ : IsS111 w0 _ g ae js jt iB) (rk_ qO) (by decide)) hk (fun _ h => h.2)) (fun _ h => h.1)); replace HK := am_ (KeepBut.trans au2_0 hk (.inl rfl)); replace HB := am_ (hb); replace ay := am_ (hi); clear hb hk hi; have LI := cN.out; have LJ := cM.out; have LK := cP.out; have LL := cO.out; have LN := bl.out; have LO := dV.out; obtain ⟨QC, QD, QE, QF⟩ := cellsF2 ai.out; have a31 := jp.out; have a32 := jq.out; have LP := bF.out; have LQ := gM.out; obtain ⟨QG, QH, QI, QJ⟩ := cellsF2 an.out; obtain ⟨Ja, Jb, QK⟩ := Kd.S_slice ab.out; subst QK))
        refine bodyPost_ret (results_cell_row rfl _ _ dW 52 #[.string GI, .slice Ja aV.length Jb] (0, 0) _ rfl (bq_ an) Tryd.underlying52 rfl (by kernel_rfl)) rfl ?_
        exact ⟨_, au2_23, by (with_reducible repeat (first | apply Kd.S_alloc | apply Kd.S_drewN | apply Kd.S_drew)); exact Kd.S_mono (Kd.S_far (p := ⟨dW, 1, none⟩) (Kd.S_far (p := ⟨dW, 0, none⟩) (Kd.S_far (p := ⟨dq, 0, none⟩) (Kd.S_types (Kd.S_types ab.out ai.out (by decide)) an.out (by decide)) (fun _ hk => hk.1.2) (.string GI)) (fun _ hk => hk.2) (.string GI)) (fun _ hk => hk.2) (.slice Ja aV.length Jb)) (fun _ hk => trivial), is2_0_, au2_6, au2_7⟩
       rw [if_neg uC] at H
       have c128b0 : (nw == 0) = false := beq_eq_false_iff_ne.mpr uC
       have c128b1 : (nw != 0) = true := bne_iff_ne.mpr uC
       by_cases uD : nw = 1
       ·rw [if_pos uD] at H
        have c144b0 : (nw == 1) = true := beq_iff_eq.mpr uD
        have c144b1 : (nw != 1) = false := bne_eq_false_iff_eq.mpr uD
        clear uD
        replace H := iln_ H; rcases H with ⟨LR, H⟩
        obtain ⟨GJ, Cz⟩ : ∃ y_ : List (S55), y_ = (aV ++ [(⟨([] : List ByteArray)⟩ : S55)]) := ⟨_, rfl⟩
        replace H : (some (dD, GJ, js, jt, iB)) = some (r1, r2, r3, r4, r5) := by first | (rw [Cz]; exact H) | exact H
        have QL := am_ Cz
        clear Cz
        simp only [Option.some.injEq, Prod.mk.injEq] at H
        obtain ⟨rfl, rfl, rfl, rfl, rfl⟩ := H
        go_wp2_with (first | (go_at_call 70; (with_reducible refine (F70.calls g ae ed ee ef 20 true qA qB qC w0 _ ?s1 ?s2 tA.out).mono ?_); (case s1 => exact au2_1); (case s2 => exact au2_2); rintro e b2Q ⟨rfl, hi, hb, hk⟩; (try clear tA); replace ab := am_ (Kd.S_mono (Kd.S_keep (IsS111.apartS (is2_0_ : IsS111 w0 _ g ae ed ee ef) au2_5 (by decide)) hk (fun _ h => h.2)) (fun _ h => h.1)); replace an := ka_ hk an bF; replace aj := ka_ hk aj bP; replace ai := ka_ hk ai bl; replace HK := am_ (KeepBut.trans au2_0 hk (.inl rfl)); replace HB := am_ (hb); replace ay := am_ (hi); clear hb hk hi) | (go_at_call 68; (with_reducible refine (F68.calls g ae qA qB qC 3 nw js jt iB w0 _ ?s1 ?s2 zZ.out).mono ?_); (case s1 => exact au2_1); (case s2 => exact au2_2); rintro e b2R ⟨rfl, hi, hb, hk⟩; (try clear zZ); replace ab := am_ (Kd.S_mono (Kd.S_keep (IsS111.apartS (is2_0_ : IsS111 w0 _ g ae qA qB qC) au2_5 (by decide)) hk (fun _ h => h.2)) (fun _ h => h.1)); replace an := ka_ hk an bF; replace aj := ka_ hk aj bP; replace ai := ka_ hk ai bl; replace HK := am_ (KeepBut.trans au2_0 hk (.inl rfl)); replace HB := am_ (hb); replace ay := am_ (hi); clear hb hk hi; have a33 := cN.out; have a34 := cM.out; have a35 := cP.out; have a36 := cO.out; have LS := bl.out; have LT := dV.out; obtain ⟨QM, QN, QO, QP⟩ := cellsF2 ai.out) | ((with_reducible refine gate_builtin (b := .append) (xs := #[.tmp 116, .tmp 118]) rfl ?_); (try (refine gate_guard (by rfl) ?_; dsimp only)); at_builtin; refine Kd.S_append k55 w.heap.size rfl (.tmp 116) (.tmp 118) 50 55 (.agg #[(.slice none 0 0)]) 24 rfl Tryd.underlying50 info55 rfl (by decide) (by omega) bY aV (⟨([] : List ByteArray)⟩ : S55) [.slice none 0 0] (fun _ => True) (fun _ => False) rfl rfl ?aP (fun k_ hk_ => hk_.elim) ?aF ?aO (Below.refl _ _) ?aS ?aL ?_; (case aP => exact k55_mkM _ _ _ (⟨([] : List ByteArray)⟩ : S55) (Kd.R_nil _ _ _ _ _)); (case aF => exact (fun _ _ => trivial)); (case aO => exact (by (with_reducible repeat (first | apply Kd.S_alloc | apply Kd.S_drewN | apply Kd.S_drew)); exact Kd.S_mono ab.out (fun k_ hk => ⟨trivial, fun e_ => e_⟩))); (case aS => exact (keep_size (w := w) (g := g) (row := none) au2_0)); (case aL => have := LR.out; omega); intro b2S b2T ho hb hg hat; rw [← QL.out] at ho; replace an := am_ (bg_ an hg (Kd.S_ne ab.out an.out (by decide))); replace aj := am_ (bg_ aj hg (Kd.S_ne ab.out aj.out (by decide))); replace ai := am_ (bg_ ai hg (Kd.S_ne ab.out ai.out (by decide))); replace HB := am_ (below_weaken au2_3 HL.out hb); replace ay := am_ (IsS111.grown is2_0_ hg (IsS111.own_neS ay.out ab.out (by decide))); replace HK := am_ (KeepBut.trans au2_0 (KeepBut.of_grown hg g) (Kd.S_base2 ab.out)); have Jc := am_ (ho); clear ab; clear ho hb hg hat; obtain ⟨CA, CB, QQ⟩ := Kd.S_slice Jc.out; subst QQ; obtain ⟨QR, QS, QT, QU⟩ := cellsF2 ai.out; have LU := jp.out; have LV := jq.out; have a38 := bF.out; have a39 := gM.out; obtain ⟨QV, QW, QX, QY⟩ := cellsF2 an.out))
        refine bodyPost_ret (results_cell_row rfl _ _ dW 52 #[.string dD, .slice CA GJ.length CB] (0, 0) _ rfl (bq_ an) Tryd.underlying52 rfl (by kernel_rfl)) rfl ?_
        exact ⟨_, au2_23, by (with_reducible repeat (first | apply Kd.S_alloc | apply Kd.S_drewN | apply Kd.S_drew)); exact Kd.S_mono (Kd.S_far (p := ⟨dW, 1, none⟩) (Kd.S_far (p := ⟨dW, 0, none⟩) (Kd.S_far (p := ⟨dq, 1, none⟩) (Kd.S_types (Kd.S_types Jc.out ai.out (by decide)) an.out (by decide)) (fun _ hk => hk.1.2) (.slice CA GJ.length CB)) (fun _ hk => hk.2) (.string dD)) (fun _ hk => hk.2) (.slice CA GJ.length CB)) (fun _ hk => trivial), is2_0_, au2_6, au2_7⟩
       rw [if_neg uD] at H
       have c144b0 : (nw == 1) = false := beq_eq_false_iff_ne.mpr uD
       have c144b1 : (nw != 1) = true := bne_iff_ne.mpr uD
       obtain ⟨oz, CC⟩ : ∃ y_ : List ByteArray, y_ = (([(⟨#[10]⟩ : ByteArray), (⟨#[255]⟩ : ByteArray), (⟨#[97]⟩ : ByteArray)] : List ByteArray)) := ⟨_, rfl⟩
       replace H : ((F67.f ae js jt iB oz).bind fun me => ((F67.f ae me.2.1 me.2.2.1 me.2.2.2 (([(⟨#[]⟩ : ByteArray), (⟨#[98]⟩ : ByteArray)] : List ByteArray))).bind fun iJ => (if aV.length < 5864062014805 then (some (dD, (aV ++ [(⟨(([me.1, iJ.1] : List ByteArray))⟩ : S55)]), iJ.2.1, iJ.2.2.1, iJ.2.2.2)) else (none)))) = some (r1, r2, r3, r4, r5) := by first | (rw [CC]; exact H) | exact H
       have xR := am_ CC
       clear CC
       replace H := bi_ H; rcases H with ⟨⟨qD, qE, qF, qG⟩, LW, H⟩
       obtain ⟨tB, CD⟩ : ∃ y_ : List ByteArray, y_ = (([(⟨#[]⟩ : ByteArray), (⟨#[98]⟩ : ByteArray)] : List ByteArray)) := ⟨_, rfl⟩
       replace H : ((F67.f ae qE qF qG tB).bind fun iJ => (if aV.length < 5864062014805 then (some (dD, (aV ++ [(⟨(([qD, iJ.1] : List ByteArray))⟩ : S55)]), iJ.2.1, iJ.2.2.1, iJ.2.2.2)) else (none))) = some (r1, r2, r3, r4, r5) := by first | (rw [CD]; exact H) | exact H
       have qP := am_ CD
       clear CD
       replace H := bi_ H; rcases H with ⟨⟨z6, LX, LY, LZ⟩, a4a, H⟩
       obtain ⟨z7, CE⟩ : ∃ y_ : List ByteArray, y_ = (([qD, z6] : List ByteArray)) := ⟨_, rfl⟩
       replace H : (if aV.length < 5864062014805 then (some (dD, (aV ++ [(⟨z7⟩ : S55)]), LX, LY, LZ)) else (none)) = some (r1, r2, r3, r4, r5) := by first | (rw [CE]; exact H) | exact H
       have Jd := am_ CE
       clear CE
       replace H := iln_ H; rcases H with ⟨L0, H⟩
       obtain ⟨GK, CF⟩ : ∃ y_ : List (S55), y_ = (aV ++ [(⟨z7⟩ : S55)]) := ⟨_, rfl⟩
       replace H : (some (dD, GK, LX, LY, LZ)) = some (r1, r2, r3, r4, r5) := by first | (rw [CF]; exact H) | exact H
       have QZ := am_ CF
       clear CF
       simp only [Option.some.injEq, Prod.mk.injEq] at H
       obtain ⟨rfl, rfl, rfl, rfl, rfl⟩ := H
       try go_wp2_with (first | (go_at_call 70; (with_reducible refine (F70.calls g ae ed ee ef 20 true qA qB qC w0 _ ?s1 ?s2 tA.out).mono ?_); (case s1 => exact au2_1); (case s2 => exact au2_2); rintro e b2U ⟨rfl, hi, hb, hk⟩; (try clear tA); replace ab := am_ (Kd.S_mono (Kd.S_keep (IsS111.apartS (is2_0_ : IsS111 w0 _ g ae ed ee ef) au2_5 (by decide)) hk (fun _ h => h.2)) (fun _ h => h.1)); replace an := ka_ hk an bF; replace aj := ka_ hk aj bP; replace ai := ka_ hk ai bl; replace HK := am_ (KeepBut.trans au2_0 hk (.inl rfl)); replace HB := am_ (hb); replace ay := am_ (hi); clear hb hk hi) | (go_at_call 68; (with_reducible refine (F68.calls g ae qA qB qC 3 nw js jt iB w0 _ ?s1 ?s2 zZ.out).mono ?_); (case s1 => exact au2_1); (case s2 => exact au2_2); rintro e a4b ⟨rfl, hi, hb, hk⟩; (try clear zZ); replace ab := am_ (Kd.S_mono (Kd.S_keep (IsS111.apartS (is2_0_ : IsS111 w0 _ g ae qA qB qC) au2_5 (by decide)) hk (fun _ h => h.2)) (fun _ h => h.1)); replace an := ka_ hk an bF; replace aj := ka_ hk aj bP; replace ai := ka_ hk ai bl; replace HK := am_ (KeepBut.trans au2_0 hk (.inl rfl)); replace HB := am_ (hb); replace ay := am_ (hi); clear hb hk hi; obtain ⟨kz, kA, Q0⟩ := Kd.S_slice ab.out; subst Q0))
       replace ab := am_ (Kd.S_drew ab.out)
       replace an := bd_ an
       replace aj := bd_ aj
       replace ai := bd_ ai
       replace ay := am_ (IsS111.drew ay.out)
       replace HK := am_ (keep_drew HK.out)
       replace HB := am_ (below_drew1 HB.out)
       refine start_ (n := 14) (S := fun w' => w'.cell? ⟨dq, 0, none⟩ = some (.string dD) ∧ w'.cell? ⟨dq, 1, none⟩ = some (.slice kz aV.length kA)) (ds := [13]) (bs 14 0) (by kernel_rfl) rfl rfl ⟨(blk_cell ai.out 0).trans rfl, (blk_cell ai.out 1).trans rfl⟩ (fun hHeld => ?_); refine with_tabW F69.tab20 F69.bits20 (fun HT_ HW_ => ?_)
       generalize a4b.drew = b2V at ab an aj ai ay HK HB hHeld ⊢
       refine pu_ 0 94 (bs 14 1) HT_ ?_ rfl rfl
       refine pu_ 2 96 (bs 14 5) HT_ ?_ rfl rfl
       refine pu_ 5 99 (bs 14 37) HT_ ?_ rfl rfl
       refine tk_ 1 95 (bs 14 39) HT_ HW_ hHeld (by rintro w' ⟨s0, s1⟩; go_simp; with_reducible rfl) ?_ rfl rfl
       refine join_ (σ := Value × Value) 7 (bs 14 127) (fun s_ => [(97, s_.1), (98, .string qD), (100, s_.2)]) (fun s_ w' => (w'.cell? ⟨dq, 0, none⟩ = some (.string dD) ∧ w'.cell? ⟨dq, 1, none⟩ = some (.slice kz aV.length kA)) ∧ (Kd.R Kd.string 9 w' w.heap.size (fun k_ => some k_ ≠ (s_.2 : Value).ownBlock) s_.1 oz) ∧ (Kd.R Kd.string 9 w' w.heap.size (fun k_ => some k_ ≠ (s_.1 : Value).ownBlock) s_.2 tB) ∧ (Kd.S k55 55 w' w.heap.size (fun k_ => some k_ ≠ (s_.1 : Value).ownBlock ∧ some k_ ≠ (s_.2 : Value).ownBlock) (.slice kz aV.length kA) aV) ∧ (w'.heap[dW]? = some (.cells #[.string (⟨#[]⟩ : ByteArray), .slice none 0 0] 52 (0, 0))) ∧ (w'.heap[dX]? = some (.cells #[.int .i64 gf, .int .i64 gg, .int .i64 gh, .int .i64 gi] 140 (0, 0))) ∧ (w'.heap[dq]? = some (.cells #[.string dD, .slice kz aV.length kA] 52 (0, 0))) ∧ (IsS111 w0 w' g ae qE qF qG) ∧ (KeepBut w w' g none) ∧ (Below w0.heap.size w0 w')) ?_ ?_
       rotate_left
       ·intro hCont
        refine two_ (i := 3) (j := 6) (Ni := some 97) (Nj := some 100) (bs 14 47) (bs 14 103) rfl rfl rfl rfl (two_of HT_.out (by kernel_rfl)) (by decide) (by decide) (fun K hK => ?_) (fun K hK => ?_)
        rotate_left
        ·skip
         refine Kd.R_lit_step Kd.string _ 9 ?hg (N := 100) ?hd (xs := ([(⟨#[]⟩ : ByteArray), (⟨#[98]⟩ : ByteArray)] : List ByteArray)) (inner := [.string (⟨#[]⟩ : ByteArray), .string (⟨#[98]⟩ : ByteArray)]) (ok := fun _ => True) (okp := fun _ => True) ?hr ?hp (fun _ hk => hk) trivial (Below.refl _ _) (Nat.le_refl _) (by simp) ?_; (case hd => rfl); (case hg => rfl); (case hr => exact hr_); (case hp => exact au2_16)
         intro rU a4c ju hb hg_ hnew_
         clear hg_ hnew_
         (first | rw [← qP.out] at ju | (simp only [Int.reduceToNat] at ju; rw [← qP.out] at ju))
         replace ab := am_ (Kd.S_elder' au2_5 (Kd.R_base ju) hb)
         have eb := am_ (Kd.R_lower ju (keep_size (w := w) (g := g) (row := none) au2_0))
         replace an := bb_ an hb
         replace aj := bb_ aj hb
         replace ai := bb_ ai hb
         replace HK := am_ (KeepBut.trans au2_0 (KeepBut.of_below hb g none) (.inl rfl))
         replace HB := am_ (below_step au2_3 hb)
         replace ay := am_ (IsS111.below is2_0_ hb)
         clear hb ju
         refine hK.out _ _ ⟨(blk_cell ai.out 0).trans rfl, (blk_cell ai.out 1).trans rfl⟩ (fun hHeld => ?_)
         clear hK K
         refine no_ 100 ?_
         refine one_ (i := 3) (N := some 97) (bs 14 111) rfl rfl (one_of HT_.out (by kernel_rfl)) (by decide) (fun K hK => ?_)
         refine Kd.R_lit_step Kd.string _ 9 ?hg (N := 97) ?hd (xs := ([(⟨#[10]⟩ : ByteArray), (⟨#[255]⟩ : ByteArray), (⟨#[97]⟩ : ByteArray)] : List ByteArray)) (inner := [.string (⟨#[10]⟩ : ByteArray), .string (⟨#[255]⟩ : ByteArray), .string (⟨#[97]⟩ : ByteArray)]) (ok := fun _ => True) (okp := fun _ => True) ?hr ?hp (fun _ hk => hk) trivial (Below.refl _ _) (Nat.le_refl _) (by simp) ?_; (case hd => rfl); (case hg => rfl); (case hr => exact hr_); (case hp => exact au2_19)
         intro tC Q1 ii hb hg_ hnew_
         clear hg_ hnew_
         (first | rw [← xR.out] at ii | (simp only [Int.reduceToNat] at ii; rw [← xR.out] at ii))
         replace ab := am_ (Kd.S_elder' au2_5 (Kd.R_base ii) hb)
         have cC := am_ (Kd.R_lower (Kd.R_new' ii (Kd.R_lt (rk_ eb))) (keep_size (w := w) (g := g) (row := none) au2_0))
         replace eb := am_ (Kd.R_elder' (rk_ eb) (Kd.R_base ii) hb)
         replace an := bb_ an hb
         replace aj := bb_ aj hb
         replace ai := bb_ ai hb
         replace HK := am_ (KeepBut.trans au2_0 (KeepBut.of_below hb g none) (.inl rfl))
         replace HB := am_ (below_step au2_3 hb)
         replace ay := am_ (IsS111.below is2_0_ hb)
         clear hb ii
         obtain ⟨tD, tE, tF⟩ := Kd.R_slice cC.out
         (first | subst tF | (injection tF with dY gS dZ; have gT := dY.symm; have gU := dZ.symm; clear dY gS dZ; subst gT; subst gU))
         refine hK.out _ _ ⟨(blk_cell ai.out 0).trans rfl, (blk_cell ai.out 1).trans rfl⟩ (fun hHeld => ?_)
         clear hK K
         refine no_ 97 ?_
         refine one_ (i := 4) (N := some 98) (bs 14 127) rfl rfl (one_of HT_.out (by kernel_rfl)) (by decide) (fun K hK => ?_)
         refine gr_ Tryd.func67 #[.pointer (some ⟨g, 0, none⟩), .slice tD oz.length tE] (by rfl) ?_ rfl rfl rfl
         with_reducible refine (F67.calls g ae js jt iB _ _ oz qD qE qF qG w0 _ ?s1 ?s2 ?s3 ?s4 ?s5 LW.out).mono ?_
         (case s1 => exact au2_1)
         (case s2 => exact au2_2)
         (case s3 => exact au2_18)
         (case s4 => exact (Kd.R_reads' cC.out).2.1)
         (case s5 => exact au2_35)
         rintro e a4d ⟨rfl, hi, hb, hk⟩
         refine ⟨_, rfl, ?_⟩
         replace ab := am_ (Kd.S_mono (Kd.S_keep (IsS111.apartS (is2_0_ : IsS111 w0 _ g ae js jt iB) au2_5 (by decide)) hk (fun _ h => h.2)) (fun _ h => h.1))
         replace an := ka_ hk an bF
         replace aj := ka_ hk aj bP
         replace ai := ka_ hk ai bl
         replace eb := am_ (Kd.R_mono (Kd.R_keep (IsS111.apart (is2_0_ : IsS111 w0 _ g ae js jt iB) (rk_ eb) (by decide)) hk (fun _ h => h.2)) (fun _ h => h.1))
         replace cC := am_ (Kd.R_mono (Kd.R_keep (IsS111.apart (is2_0_ : IsS111 w0 _ g ae js jt iB) (rk_ cC) (by decide)) hk (fun _ h => h.2)) (fun _ h => h.1))
         replace HK := am_ (KeepBut.trans au2_0 hk (.inl rfl))
         replace HB := am_ (hb)
         replace ay := am_ (hi)
         (try clear hb)
         (try clear hb2)
         (try clear hk)
         (try clear hi)
         refine hK.out _ _ ⟨(blk_cell ai.out 0).trans rfl, (blk_cell ai.out 1).trans rfl⟩ (fun hHeld => ?_)
         clear hK K
         refine no_ 98 ?_
         exact norm_ au2_29 (hCont (.slice tD oz.length tE, rU) _ ⟨hHeld, au2_24, au2_25, (by (with_reducible repeat (first | apply Kd.S_alloc | apply Kd.S_drewN | apply Kd.S_drew)); exact Kd.S_mono ab.out (fun _ hk => ⟨hk.2, hk.1.2⟩)), (bk_ an), (bk_ aj), (bk_ ai), is2_0_, au2_0, au2_3⟩)
        skip
        refine Kd.R_lit_step Kd.string _ 9 ?hg (N := 97) ?hd (xs := ([(⟨#[10]⟩ : ByteArray), (⟨#[255]⟩ : ByteArray), (⟨#[97]⟩ : ByteArray)] : List ByteArray)) (inner := [.string (⟨#[10]⟩ : ByteArray), .string (⟨#[255]⟩ : ByteArray), .string (⟨#[97]⟩ : ByteArray)]) (ok := fun _ => True) (okp := fun _ => True) ?hr ?hp (fun _ hk => hk) trivial (Below.refl _ _) (Nat.le_refl _) (by simp) ?_; (case hd => rfl); (case hg => rfl); (case hr => exact hr_); (case hp => exact au2_19)
        intro tC a4c ju hb hg_ hnew_
        clear hg_ hnew_
        (first | rw [← xR.out] at ju | (simp only [Int.reduceToNat] at ju; rw [← xR.out] at ju))
        replace ab := am_ (Kd.S_elder' au2_5 (Kd.R_base ju) hb)
        have cC := am_ (Kd.R_lower ju (keep_size (w := w) (g := g) (row := none) au2_0))
        replace an := bb_ an hb
        replace aj := bb_ aj hb
        replace ai := bb_ ai hb
        replace HK := am_ (KeepBut.trans au2_0 (KeepBut.of_below hb g none) (.inl rfl))
        replace HB := am_ (below_step au2_3 hb)
        replace ay := am_ (IsS111.below is2_0_ hb)
        clear hb ju
        obtain ⟨Je, Jf, Jg⟩ := Kd.R_slice cC.out
        (first | subst Jg | (injection Jg with dY gS dZ; have gT := dY.symm; have gU := dZ.symm; clear dY gS dZ; subst gT; subst gU))
        refine hK.out _ _ ⟨(blk_cell ai.out 0).trans rfl, (blk_cell ai.out 1).trans rfl⟩ (fun hHeld => ?_)
        clear hK K
        refine no_ 97 ?_
        refine two_ (i := 4) (j := 6) (Ni := some 98) (Nj := some 100) (bs 14 63) (bs 14 111) rfl rfl rfl rfl (two_of HT_.out (by kernel_rfl)) (by decide) (by decide) (fun K hK => ?_) (fun K hK => ?_)
        ·skip
         refine gr_ Tryd.func67 #[.pointer (some ⟨g, 0, none⟩), .slice Je oz.length Jf] (by rfl) ?_ rfl rfl rfl
         with_reducible refine (F67.calls g ae js jt iB _ _ oz qD qE qF qG w0 _ ?s1 ?s2 ?s3 ?s4 ?s5 LW.out).mono ?_
         (case s1 => exact au2_1)
         (case s2 => exact au2_2)
         (case s3 => exact au2_18)
         (case s4 => exact (Kd.R_reads' cC.out).2.1)
         (case s5 => exact au2_35)
         rintro e a4e ⟨rfl, hi, hb, hk⟩
         refine ⟨_, rfl, ?_⟩
         replace ab := am_ (Kd.S_mono (Kd.S_keep (IsS111.apartS (is2_0_ : IsS111 w0 _ g ae js jt iB) au2_5 (by decide)) hk (fun _ h => h.2)) (fun _ h => h.1))
         replace an := ka_ hk an bF
         replace aj := ka_ hk aj bP
         replace ai := ka_ hk ai bl
         replace cC := am_ (Kd.R_mono (Kd.R_keep (IsS111.apart (is2_0_ : IsS111 w0 _ g ae js jt iB) (rk_ cC) (by decide)) hk (fun _ h => h.2)) (fun _ h => h.1))
         replace HK := am_ (KeepBut.trans au2_0 hk (.inl rfl))
         replace HB := am_ (hb)
         replace ay := am_ (hi)
         (try clear hb)
         (try clear hb2)
         (try clear hk)
         (try clear hi)
         refine hK.out _ _ ⟨(blk_cell ai.out 0).trans rfl, (blk_cell ai.out 1).trans rfl⟩ (fun hHeld => ?_)
         clear hK K
         refine no_ 98 ?_
         refine one_ (i := 6) (N := some 100) (bs 14 127) rfl rfl (one_of HT_.out (by kernel_rfl)) (by decide) (fun K hK => ?_)
         refine Kd.R_lit_step Kd.string _ 9 ?hg (N := 100) ?hd (xs := ([(⟨#[]⟩ : ByteArray), (⟨#[98]⟩ : ByteArray)] : List ByteArray)) (inner := [.string (⟨#[]⟩ : ByteArray), .string (⟨#[98]⟩ : ByteArray)]) (ok := fun _ => True) (okp := fun _ => True) ?hr ?hp (fun _ hk => hk) trivial (Below.refl _ _) (Nat.le_refl _) (by simp) ?_; (case hd => rfl); (case hg => rfl); (case hr => exact hr_); (case hp => exact au2_16)
         intro rU b2W pK hb hg_ hnew_
         clear hg_ hnew_
         (first | rw [← qP.out] at pK | (simp only [Int.reduceToNat] at pK; rw [← qP.out] at pK))
         replace ab := am_ (Kd.S_elder' au2_5 (Kd.R_base pK) hb)
         have eb := am_ (Kd.R_lower (Kd.R_new' pK (Kd.R_lt (rk_ cC))) (keep_size (w := w) (g := g) (row := none) au2_0))
         replace cC := am_ (Kd.R_elder' (rk_ cC) (Kd.R_base pK) hb)
         replace an := bb_ an hb
         replace aj := bb_ aj hb
         replace ai := bb_ ai hb
         replace HK := am_ (KeepBut.trans au2_0 (KeepBut.of_below hb g none) (.inl rfl))
         replace HB := am_ (below_step au2_3 hb)
         replace ay := am_ (IsS111.below is2_0_ hb)
         clear hb pK
         refine hK.out _ _ ⟨(blk_cell ai.out 0).trans rfl, (blk_cell ai.out 1).trans rfl⟩ (fun hHeld => ?_)
         clear hK K
         refine no_ 100 ?_
         exact norm_ au2_29 (hCont (.slice Je oz.length Jf, rU) _ ⟨hHeld, au2_24, au2_25, au2_34, (bk_ an), (bk_ aj), (bk_ ai), is2_0_, au2_0, au2_3⟩)
        skip
        refine Kd.R_lit_step Kd.string _ 9 ?hg (N := 100) ?hd (xs := ([(⟨#[]⟩ : ByteArray), (⟨#[98]⟩ : ByteArray)] : List ByteArray)) (inner := [.string (⟨#[]⟩ : ByteArray), .string (⟨#[98]⟩ : ByteArray)]) (ok := fun _ => True) (okp := fun _ => True) ?hr ?hp (fun _ hk => hk) trivial (Below.refl _ _) (Nat.le_refl _) (by simp) ?_; (case hd => rfl); (case hg => rfl); (case hr => exact hr_); (case hp => exact au2_16)
        intro rU Q1 ii hb hg_ hnew_
        clear hg_ hnew_
        (first | rw [← qP.out] at ii | (simp only [Int.reduceToNat] at ii; rw [← qP.out] at ii))
        replace ab := am_ (Kd.S_elder' au2_5 (Kd.R_base ii) hb)
        have eb := am_ (Kd.R_lower (Kd.R_new' ii (Kd.R_lt (rk_ cC))) (keep_size (w := w) (g := g) (row := none) au2_0))
        replace cC := am_ (Kd.R_elder' (rk_ cC) (Kd.R_base ii) hb)
        replace an := bb_ an hb
        replace aj := bb_ aj hb
        replace ai := bb_ ai hb
        replace HK := am_ (KeepBut.trans au2_0 (KeepBut.of_below hb g none) (.inl rfl))
        replace HB := am_ (below_step au2_3 hb)
        replace ay := am_ (IsS111.below is2_0_ hb)
        clear hb ii
        obtain ⟨tD, tE, tF⟩ := Kd.R_slice cC.out
        (first | subst tF | (injection tF with dY gS dZ; have gT := dY.symm; have gU := dZ.symm; clear dY gS dZ; subst gT; subst gU))
        refine hK.out _ _ ⟨(blk_cell ai.out 0).trans rfl, (blk_cell ai.out 1).trans rfl⟩ (fun hHeld => ?_)
        clear hK K
        refine no_ 100 ?_
        refine one_ (i := 4) (N := some 98) (bs 14 127) rfl rfl (one_of HT_.out (by kernel_rfl)) (by decide) (fun K hK => ?_)
        refine gr_ Tryd.func67 #[.pointer (some ⟨g, 0, none⟩), .slice tD oz.length tE] (by rfl) ?_ rfl rfl rfl
        with_reducible refine (F67.calls g ae js jt iB _ _ oz qD qE qF qG w0 _ ?s1 ?s2 ?s3 ?s4 ?s5 LW.out).mono ?_
        (case s1 => exact au2_1)
        (case s2 => exact au2_2)
        (case s3 => exact au2_18)
        (case s4 => exact (Kd.R_reads' cC.out).2.1)
        (case s5 => exact au2_35)
        rintro e a4d ⟨rfl, hi, hb, hk⟩
        refine ⟨_, rfl, ?_⟩
        replace ab := am_ (Kd.S_mono (Kd.S_keep (IsS111.apartS (is2_0_ : IsS111 w0 _ g ae js jt iB) au2_5 (by decide)) hk (fun _ h => h.2)) (fun _ h => h.1))
        replace an := ka_ hk an bF
        replace aj := ka_ hk aj bP
        replace ai := ka_ hk ai bl
        replace cC := am_ (Kd.R_mono (Kd.R_keep (IsS111.apart (is2_0_ : IsS111 w0 _ g ae js jt iB) (rk_ cC) (by decide)) hk (fun _ h => h.2)) (fun _ h => h.1))
        replace eb := am_ (Kd.R_mono (Kd.R_keep (IsS111.apart (is2_0_ : IsS111 w0 _ g ae js jt iB) (rk_ eb) (by decide)) hk (fun _ h => h.2)) (fun _ h => h.1))
        replace HK := am_ (KeepBut.trans au2_0 hk (.inl rfl))
        replace HB := am_ (hb)
        replace ay := am_ (hi)
        (try clear hb)
        (try clear hb2)
        (try clear hk)
        (try clear hi)
        refine hK.out _ _ ⟨(blk_cell ai.out 0).trans rfl, (blk_cell ai.out 1).trans rfl⟩ (fun hHeld => ?_)
        clear hK K
        refine no_ 98 ?_
        exact norm_ au2_29 (hCont (.slice tD oz.length tE, rU) _ ⟨hHeld, au2_24, au2_25, au2_34, (bk_ an), (bk_ aj), (bk_ ai), is2_0_, au2_0, au2_3⟩)
       rintro ⟨tC, rU⟩ oA ⟨hS_, Q2, Q3, h2_, h3_, h4_, Q4, Q5, Q6, Q7⟩
       have bI : Aside0 (Kd.R Kd.string 9 oA w.heap.size (fun k_ => some k_ ≠ (rU : Value).ownBlock) tC oz) := ⟨Q2⟩
       have bZ : Aside0 (Kd.R Kd.string 9 oA w.heap.size (fun k_ => some k_ ≠ (tC : Value).ownBlock) rU tB) := ⟨Q3⟩
       have n2_ : Aside0 (Kd.S k55 55 oA w.heap.size (fun k_ => some k_ ≠ (tC : Value).ownBlock ∧ some k_ ≠ (rU : Value).ownBlock) (.slice kz aV.length kA) aV) := ⟨h2_⟩
       have cD : Aside0 (oA.heap[dW]? = some (.cells #[.string (⟨#[]⟩ : ByteArray), .slice none 0 0] 52 (0, 0))) := ⟨h3_⟩
       have ji : Aside0 (oA.heap[dX]? = some (.cells #[.int .i64 gf, .int .i64 gg, .int .i64 gh, .int .i64 gi] 140 (0, 0))) := ⟨h4_⟩
       have jj : Aside0 (oA.heap[dq]? = some (.cells #[.string dD, .slice kz aV.length kA] 52 (0, 0))) := ⟨Q4⟩
       have nv : Aside0 (IsS111 w0 oA g ae qE qF qG) := ⟨Q5⟩
       have qw : Aside0 (KeepBut w oA g none) := ⟨Q6⟩
       have uB : Aside0 (Below w0.heap.size w0 oA) := ⟨Q7⟩
       clear ab
       clear an
       clear aj
       clear ai
       clear ay
       clear HK
       clear HB
       clear Q2 Q3 h2_ h3_ h4_ Q4 Q5 Q6 Q7
       have cC := bI
       have eb := bZ
       have ab := n2_
       have an := cD
       have aj := ji
       have ai := jj
       have ay := nv
       have HK := qw
       have HB := uB
       clear bI bZ n2_ cD ji jj nv qw uB
       have hHeld : oA.cell? ⟨dq, 0, none⟩ = some (.string dD) ∧ oA.cell? ⟨dq, 1, none⟩ = some (.slice kz aV.length kA) := hS_
       obtain ⟨xS, xT, Jh⟩ := Kd.R_slice eb.out
       (first | subst Jh | (injection Jh with dY gS dZ; have gT := dY.symm; have gU := dZ.symm; clear dY gS dZ; subst gT; subst gU))
       refine norm_ (a' := ?_) ?_ ?_
       rotate_left
       ·simp only [putAll, Act.put, List.setIfInBounds_toArray, List.set_cons_zero, List.set_cons_succ]
        rfl
       refine one_ (i := 7) (N := some 101) (bs 14 255) rfl rfl (one_of HT_.out (by kernel_rfl)) (by decide) (fun K hK => ?_)
       refine gr_ Tryd.func67 #[.pointer (some ⟨g, 0, none⟩), .slice xS tB.length xT] (by rfl) ?_ rfl rfl rfl
       with_reducible refine (F67.calls g ae qE qF qG _ _ tB z6 LX LY LZ w0 _ ?s1 ?s2 ?s3 ?s4 ?s5 a4a.out).mono ?_
       (case s1 => exact au2_1)
       (case s2 => exact au2_2)
       (case s3 => repeat (first | exact (Kd.R_reads' eb.out).2.2 | (with_reducible refine Kd.C_alloc ?_ _) | (with_reducible refine Kd.C_drewN ?_ _) | (with_reducible refine Kd.C_drew ?_)))
       (case s4 => exact (Kd.R_reads' eb.out).2.1)
       (case s5 => exact far_slice (IsS111.own_ne ay.out eb.out (by decide)))
       rintro e b2X ⟨rfl, hi, hb, hk⟩
       refine ⟨_, rfl, ?_⟩
       replace ab := am_ (Kd.S_mono (Kd.S_keep (IsS111.apartS (is2_0_ : IsS111 w0 _ g ae qE qF qG) au2_5 (by decide)) hk (fun _ h => h.2)) (fun _ h => h.1))
       replace an := ka_ hk an bF
       replace aj := ka_ hk aj bP
       replace ai := ka_ hk ai bl
       replace cC := am_ (Kd.R_mono (Kd.R_keep (IsS111.apart (is2_0_ : IsS111 w0 _ g ae qE qF qG) (rk_ cC) (by decide)) hk (fun _ h => h.2)) (fun _ h => h.1))
       replace eb := am_ (Kd.R_mono (Kd.R_keep (IsS111.apart (is2_0_ : IsS111 w0 _ g ae qE qF qG) (rk_ eb) (by decide)) hk (fun _ h => h.2)) (fun _ h => h.1))
       replace HK := am_ (KeepBut.trans au2_0 hk (.inl rfl))
       replace HB := am_ (hb)
       replace ay := am_ (hi)
       (try clear hb)
       (try clear hb2)
       (try clear hk)
       (try clear hi)
       refine hK.out _ _ ⟨(blk_cell ai.out 0).trans rfl, (blk_cell ai.out 1).trans rfl⟩ (fun hHeld => ?_)
       clear hK K
       refine no_ 101 ?_
       refine one_ (i := 8) (N := some 102) (bs 14 511) rfl rfl (one_of HT_.out (by kernel_rfl)) (by decide) (fun K hK => ?_)
       refine Kd.R_lit_step Kd.string _ 9 ?hg (N := 102) ?hd (xs := ([qD, z6] : List ByteArray)) (inner := [.string qD, .string z6]) (ok := fun _ => True) (okp := fun _ => True) ?hr ?hp (fun _ hk => hk) trivial (Below.refl _ _) (Nat.le_refl _) (by simp) ?_; (case hd => rfl); (case hg => rfl); (case hr => exact hr_); (case hp => exact (Reps.one (show Kd.M Kd.string _ _ _ qD [.string qD] from rfl) (Reps.one (show Kd.M Kd.string _ _ _ z6 [.string z6] from rfl) (Reps.none _ _))))
       intro b2Y b2Z oe hb hg_ hnew_
       clear hg_ hnew_
       (first | rw [← Jd.out] at oe | (simp only [Int.reduceToNat] at oe; rw [← Jd.out] at oe))
       replace ab := am_ (Kd.S_elder' au2_5 (Kd.R_base oe) hb)
       have xU := am_ (Kd.R_lower (Kd.R_new' (Kd.R_new' oe (Kd.R_lt (rk_ cC))) (Kd.R_lt (rk_ eb))) (keep_size (w := w) (g := g) (row := none) au2_0))
       replace cC := am_ (Kd.R_elder' (rk_ cC) (Kd.R_base oe) hb)
       replace eb := am_ (Kd.R_elder' (rk_ eb) (Kd.R_base oe) hb)
       replace an := bb_ an hb
       replace aj := bb_ aj hb
       replace ai := bb_ ai hb
       replace HK := am_ (KeepBut.trans au2_0 (KeepBut.of_below hb g none) (.inl rfl))
       replace HB := am_ (below_step au2_3 hb)
       replace ay := am_ (IsS111.below is2_0_ hb)
       clear hb oe
       obtain ⟨Ji, Jj, Jk⟩ := Kd.R_slice xU.out
       (first | subst Jk | (injection Jk with dY gS dZ; have gT := dY.symm; have gU := dZ.symm; clear dY gS dZ; subst gT; subst gU))
       refine hK.out _ _ ⟨(blk_cell ai.out 0).trans rfl, (blk_cell ai.out 1).trans rfl⟩ (fun hHeld => ?_)
       clear hK K
       refine no_ 102 ?_
       refine pu_ 9 103 (bs 14 1023) HT_ ?_ rfl rfl
       refine one_ (i := 10) (N := some 104) (bs 14 2047) rfl rfl (one_of HT_.out (by kernel_rfl)) (by decide) (fun K hK => ?_)
       refine value_ (w1 := ?_) (v := ?_) (by rfl) rfl ?_ ?_
       rotate_left 2
       ·go_simp
        constructor
        ·rfl
        ·rfl
       refine hK.out _ _ ⟨(blk_cell (blk_alloc ai.out _) 0).trans rfl, (blk_cell (blk_alloc ai.out _) 1).trans rfl⟩ (fun hHeld => ?_)
       clear hK K
       refine no_ 104 ?_
       refine one_ (i := 11) (N := some 105) (bs 14 4095) rfl rfl (one_of HT_.out (by kernel_rfl)) (by decide) (fun K hK => ?_)
       refine Kd.S_append_step k55 w.heap.size (by rfl) (.tmp 95) (.tmp 104) 50 55 (.agg #[(.slice none 0 0)]) 24 rfl Tryd.underlying50 info55 rfl (by decide) (by omega) (.slice kz aV.length kA) aV (⟨z7⟩ : S55) [.slice Ji z7.length Jj] (fun k_ => some k_ ≠ (tC : Value).ownBlock ∧ some k_ ≠ (.slice xS tB.length xT : Value).ownBlock) (fun k_ => some k_ = (.slice Ji z7.length Jj : Value).ownBlock) rfl rfl ?aP (fun k_ hk_ => ((Kd.R_mono (ok' := fun k_ => ((fun k_ => some k_ ≠ (tC : Value).ownBlock ∧ some k_ ≠ (.slice xS tB.length xT : Value).ownBlock)) k_ ∧ some k_ ≠ (.slice kz aV.length kA : Value).ownBlock) (Kd.R_apart' (xU.out) (Kd.S_typed ab.out) (by decide)) (fun k_ hk => ⟨⟨hk.1.1.2, hk.1.2⟩, hk.2⟩))).1 k_ hk_.symm) ?aF ?aO (Below.refl _ _) ?aS ?aL ?_
       (case aP => exact k55_mkM _ _ _ (⟨z7⟩ : S55) (Kd.R_mono (Kd.R_tight rfl (Kd.R_mono (ok' := fun k_ => ((fun k_ => some k_ ≠ (tC : Value).ownBlock ∧ some k_ ≠ (.slice xS tB.length xT : Value).ownBlock)) k_ ∧ some k_ ≠ (.slice kz aV.length kA : Value).ownBlock) (Kd.R_apart' (xU.out) (Kd.S_typed ab.out) (by decide)) (fun k_ hk => ⟨⟨hk.1.1.2, hk.1.2⟩, hk.2⟩))) (fun _ h_ => h_)))
       (case aF => exact (fun k_ hk => ⟨Kd.fresh' (Kd.R_lt (rk_ cC)) k_ hk, Kd.fresh' (Kd.R_lt (rk_ eb)) k_ hk⟩))
       (case aO => exact (by (with_reducible repeat (first | apply Kd.S_alloc | apply Kd.S_drewN | apply Kd.S_drew)); exact Kd.S_mono ab.out (fun k_ hk => ⟨⟨hk.1.1, hk.1.2⟩, fun e_ => hk.2 e_⟩)))
       (case aS => exact (keep_size (w := w) (g := g) (row := none) au2_0))
       (case aL => have := L0.out; omega)
       intro b20 a4f ho hb hg hat
       rw [← QZ.out] at ho
       replace an := am_ (bg_ an hg (Kd.S_ne ab.out an.out (by decide)))
       replace aj := am_ (bg_ aj hg (Kd.S_ne ab.out aj.out (by decide)))
       replace ai := am_ (bg_ ai hg (Kd.S_ne ab.out ai.out (by decide)))
       replace cC := am_ (Kd.R_over' (rk_ cC) (Kd.S_typed au2_5) (by decide) hg)
       replace eb := am_ (Kd.R_over' (rk_ eb) (Kd.S_typed au2_5) (by decide) hg)
       replace HB := am_ (below_weaken au2_3 HL.out hb)
       replace ay := am_ (IsS111.grown is2_0_ hg (IsS111.own_neS ay.out ab.out (by decide)))
       replace HK := am_ (KeepBut.trans au2_0 (KeepBut.of_grown hg g) (Kd.S_base2 ab.out))
       have Jl := am_ (ho)
       clear ab xU
       clear ho hb hg hat
       obtain ⟨CG, CH, Jm⟩ := Kd.S_slice Jl.out
       (first | subst Jm | (injection Jm with dY gS dZ; have gT := dY.symm; have gU := dZ.symm; clear dY gS dZ; subst gT; subst gU))
       refine hK.out _ _ ⟨(blk_cell ai.out 0).trans rfl, (blk_cell ai.out 1).trans rfl⟩ (fun hHeld => ?_)
       clear hK K
       refine no_ 105 ?_
       refine pu_ 12 106 (bs 14 8191) HT_ ?_ rfl rfl
       refine last_ (i := 13) (N := none) (bs 14 16383) rfl rfl (one_of HT_.out (by kernel_rfl)) (by decide) (fun K hK => ?_)
       have a9M : a4f.cell? ⟨dq, 1, none⟩ = some (.slice kz aV.length kA) := (blk_cell ai.out 1).trans rfl
       have a4g := blk_frozen ai.out 1
       have Q8 := cM.out
       have Q9 := cO.out
       have Ra := cN.out
       have Rb := cP.out
       refine skip_ (w1 := ?_) (by rfl) rfl ?_ ?_
       rotate_left
       ·go_simp
        rfl
       refine hK.out _ _ ?_
       clear hK K
       refine done_ (done_of HT_.out (by kernel_rfl)) ?_
       have a4h := cN.out
       have a4i := cM.out
       have a4j := cP.out
       have a4k := cO.out
       have a4l := bl.out
       have a4m := dV.out
       obtain ⟨Rc, Rd, Re, Rf⟩ := cellsF2 ai.out
       have a4n := jp.out
       have a4o := jq.out
       have a4p := bF.out
       have a4q := gM.out
       obtain ⟨Rg, Rh, Ri, Rj⟩ := cellsF2 an.out
       try go_wp2
       refine bodyPost_ret (results_cell_row rfl _ _ dW 52 #[.string dD, .slice CG GK.length CH] (0, 0) _ rfl (bq_ an) Tryd.underlying52 rfl (by kernel_rfl)) rfl ?_
       exact ⟨_, au2_23, by (with_reducible repeat (first | apply Kd.S_alloc | apply Kd.S_drewN | apply Kd.S_drew)); exact Kd.S_mono (Kd.S_far (p := ⟨dW, 1, none⟩) (Kd.S_far (p := ⟨dW, 0, none⟩) (Kd.S_far (p := ⟨dq, 1, none⟩) (Kd.S_types (Kd.S_types Jl.out ai.out (by decide)) an.out (by decide)) (fun _ hk => hk.1.2) (.slice CG GK.length CH)) (fun _ hk => hk.2) (.string dD)) (fun _ hk => hk.2) (.slice CG GK.length CH)) (fun _ hk => trivial), is2_0_, au2_6, au2_7⟩
end Go.Proofs.YtlghcbmkhdibdaaDoor.PFnTrailers
