-- printed by a program of this session (wip/xp/xprint.py) out of the translation; Lean checks it
import Derived.Test.YtlghcbmkhdibdaaDoorPFnTrailersx0
import Derived.Test.YtlghcbmkhdibdaaDoorPFnTrailersx4
import Derived.Test.YtlghcbmkhdibdaaDoorPFnTrailersx6
namespace Go.Proofs.YtlghcbmkhdibdaaDoor.PFnTrailers
open Go.RowKit Go.Proofs.YtlghcbmkhdibdaaDoorW.PrintWords Go.Proofs.YtlghcbmkhdibdaaDoorW.PrintLast Go.Proofs.YtlghcbmkhdibdaaDoorW.PrintMore
attribute [local go_sem] max2_int min2_int max_two min_two max_three min_three max_four min_four   -- for this text's walks alone
set_option linter.unusedVariables false
set_option linter.unusedSimpArgs false
set_option maxHeartbeats 8000000
set_option maxRecDepth 100000

theorem au7_0 {p : Prop} (h : p := by (with_reducible repeat (first | apply Kd.N_alloc | apply Kd.N_drewN | apply Kd.N_drew)); exact aE.out) : p := h
theorem au7_1 {p : Prop} (h : p := by (with_reducible repeat (first | apply Kd.N_alloc | apply Kd.N_drewN | apply Kd.N_drew)); exact dv.out) : p := h
theorem au7_2 {p : Prop} (h : p := by (with_reducible repeat (first | apply Kd.N_alloc | apply Kd.N_drewN | apply Kd.N_drew)); exact fI.out) : p := h
theorem au7_3 {p : Prop} (h : p := by (with_reducible repeat (first | apply Kd.V_alloc | apply Kd.V_drewN | apply Kd.V_drew)); exact bM.out) : p := h
theorem au7_4 {p : Prop} (h : p := by (with_reducible repeat (first | apply Kd.V_alloc | apply Kd.V_drewN | apply Kd.V_drew)); exact bN.out) : p := h
theorem au7_5 {p : Prop} (h : p := by repeat (first | exact (Kd.N_reads' fI.out).2.2 | (with_reducible refine Kd.C_alloc ?_ _) | (with_reducible refine Kd.C_drewN ?_ _) | (with_reducible refine Kd.C_drew ?_))) : p := h
theorem au7_6 {p : Prop} (h : p := by first | rfl | (simp [errW_none, errW_some] <;> rfl) | (simp only [← un]; first | rfl | (simp [errW_none, errW_some] <;> rfl)) | (simp [*, errW_none, errW_some] <;> rfl)) : p := h
theorem au7_7 {p : Prop} (h : p := by (with_reducible repeat (first | apply Kd.V_alloc | apply Kd.V_drewN | apply Kd.V_drew)); exact eN.out) : p := h
theorem au7_8 {p : Prop} (h : p := by (with_reducible repeat (first | apply Kd.N_alloc | apply Kd.N_drewN | apply Kd.N_drew)); exact iw.out) : p := h
theorem au7_9 {p : Prop} (h : p := by (with_reducible repeat (first | apply Kd.N_alloc | apply Kd.N_drewN | apply Kd.N_drew)); exact (Kd.N_mono (Kd.N_far (p := ⟨aq, 3, none⟩) (Kd.N_far (p := ⟨aq, 2, none⟩) (Kd.N_far (p := ⟨aq, 1, none⟩) (Kd.N_far (p := ⟨aq, 0, none⟩) (Kd.N_mono gG.out (fun k_ hk => (⟨hk, hk.2⟩ : _ ∧ k_ ≠ aq))) (fun _ hk => hk.2) (.string cr)) (fun _ hk => hk.2) (.string cK)) (fun _ hk => hk.2) (.int .i64 cL)) (fun _ hk => hk.2) (.slice Cr aC.length pJ)) (fun _ h_ => h_.1))) : p := h
theorem au7_10 {p : Prop} (h : p := by (with_reducible repeat (first | apply Kd.N_alloc | apply Kd.N_drewN | apply Kd.N_drew)); exact (Kd.N_mono (Kd.N_far (p := ⟨aq, 3, none⟩) (Kd.N_far (p := ⟨aq, 2, none⟩) (Kd.N_far (p := ⟨aq, 1, none⟩) (Kd.N_far (p := ⟨aq, 0, none⟩) (Kd.N_mono gG.out (fun k_ hk => (⟨hk, hk.2⟩ : _ ∧ k_ ≠ aq))) (fun _ hk => hk.2) (.string cr)) (fun _ hk => hk.2) (.string cK)) (fun _ hk => hk.2) (.int .i64 cL)) (fun _ hk => hk.2) (.slice aU aC.length aT)) (fun _ h_ => h_.1))) : p := h
theorem au7_11 {p : Prop} (h : p := by (with_reducible repeat (first | apply Kd.N_alloc | apply Kd.N_drewN | apply Kd.N_drew)); exact eO.out) : p := h
theorem au7_12 {p : Prop} (h : p := by (with_reducible repeat (first | apply Kd.N_alloc | apply Kd.N_drewN | apply Kd.N_drew)); exact ix.out) : p := h
theorem au7_13 {p : Prop} (h : p := by repeat (first | (with_reducible exact jb.out) | (with_reducible refine Kd.C_alloc ?_ _) | (with_reducible refine Kd.C_drewN ?_ _) | (with_reducible refine Kd.C_drew ?_) | exact jb.out)) : p := h
theorem au7_14 {p : Prop} (h : p := by repeat (first | (with_reducible exact pq.out) | (with_reducible refine Kd.C_alloc ?_ _) | (with_reducible refine Kd.C_drewN ?_ _) | (with_reducible refine Kd.C_drew ?_) | exact pq.out)) : p := h
theorem au7_15 {p : Prop} (h : p := by repeat (first | (with_reducible exact jb.out) | (with_reducible refine Kd.C_alloc ?_ _) | (with_reducible refine Kd.C_drewN ?_ _) | (with_reducible refine Kd.C_drew ?_) | exact jb.out)) : p := h
theorem au7_18 {p : Prop} (h : p := by (with_reducible repeat (first | apply Kd.N_alloc | apply Kd.N_drewN | apply Kd.N_drew)); exact aE.out) : p := h
theorem au7_19 {p : Prop} (h : p := by (with_reducible repeat (first | apply Kd.N_alloc | apply Kd.N_drewN | apply Kd.N_drew)); exact gG.out) : p := h
theorem au7_20 {p : Prop} (h : p := by (with_reducible repeat (first | apply Kd.N_alloc | apply Kd.N_drewN | apply Kd.N_drew)); exact dv.out) : p := h
theorem au7_21 {p : Prop} (h : p := by first | (with_reducible exact HZT.out) | exact HZT.out.below bl_) : p := h
theorem au7_22 {p : Prop} (h : p := by (with_reducible repeat (first | apply Kd.V_alloc | apply Kd.V_drewN | apply Kd.V_drew)); exact Kd.V_mono bM.out (fun _ hk => ⟨hk.2, ⟨hk.1.2.2.1, ⟨hk.1.2.1, ⟨hk.1.1, ⟨hk.1.2.2.2.1, hk.1.2.2.2.2⟩⟩⟩⟩⟩)) : p := h
theorem au7_23 {p : Prop} (h : p := by (with_reducible repeat (first | apply Kd.V_alloc | apply Kd.V_drewN | apply Kd.V_drew)); exact Kd.V_mono bN.out (fun _ hk => ⟨hk.2, ⟨hk.1.2.2.1, ⟨hk.1.2.1, ⟨hk.1.1, ⟨hk.1.2.2.2.1, hk.1.2.2.2.2⟩⟩⟩⟩⟩)) : p := h
theorem au7_24 {p : Prop} (h : p := by repeat (first | (with_reducible exact pr.out) | (with_reducible refine Kd.C_alloc ?_ _) | (with_reducible refine Kd.C_drewN ?_ _) | (with_reducible refine Kd.C_drew ?_) | exact pr.out)) : p := h
theorem au7_25 {p : Prop} (h : p := by (with_reducible repeat (first | apply Kd.N_alloc | apply Kd.N_drewN | apply Kd.N_drew)); exact Kd.N_mono aE.out (fun _ hk => ⟨hk.2, ⟨hk.1.2.1, ⟨hk.1.1, ⟨hk.1.2.2.1, hk.1.2.2.2⟩⟩⟩⟩)) : p := h
theorem au7_26 {p : Prop} (h : p := by exact (by (with_reducible repeat (first | apply Kd.N_alloc | apply Kd.N_drewN | apply Kd.N_drew)); exact Kd.N_mono jc.out (fun _ hk => ⟨hk.2.1, ⟨hk.2.2.1, ⟨hk.2.2.2.1, hk.2.2.2.2⟩⟩⟩))) : p := h
theorem au7_27 {p : Prop} (h : p := by simp only [putAll, Act.put, List.setIfInBounds_toArray, List.set_cons_zero, List.set_cons_succ]) : p := h
theorem au7_28 {p : Prop} (h : p := by (with_reducible repeat (first | apply Kd.V_alloc | apply Kd.V_drewN | apply Kd.V_drew)); exact Kd.V_mono eN.out (fun _ hk => ⟨hk.2, ⟨hk.1.2.1, ⟨hk.1.1, ⟨hk.1.2.2.1, hk.1.2.2.2⟩⟩⟩⟩)) : p := h
theorem au7_29 {p : Prop} (h : p := by (with_reducible repeat (first | apply Kd.N_alloc | apply Kd.N_drewN | apply Kd.N_drew)); exact Kd.N_mono iw.out (fun _ hk => ⟨hk.2, ⟨hk.1.2.1, ⟨hk.1.1, ⟨hk.1.2.2.1, hk.1.2.2.2⟩⟩⟩⟩)) : p := h
theorem au7_30 {p : Prop} (h : p := by (with_reducible repeat (first | apply Kd.N_alloc | apply Kd.N_drewN | apply Kd.N_drew)); exact Kd.N_mono dv.out (fun _ hk => ⟨hk.2, ⟨hk.1.2.1, ⟨hk.1.1, ⟨hk.1.2.2.1, hk.1.2.2.2⟩⟩⟩⟩)) : p := h
theorem au7_31 {p : Prop} (h : p := by first | rfl | (simp [errW_none, errW_some] <;> rfl) | (simp [*, errW_none, errW_some] <;> rfl)) : p := h
theorem au7_32 {p : Prop} (h : p := by repeat (first | exact (Kd.C_below n3.out HB.out) | (with_reducible refine Kd.C_alloc ?_ _) | (with_reducible refine Kd.C_drewN ?_ _) | (with_reducible refine Kd.C_drew ?_))) : p := h
theorem au7_33 {p : Prop} (h : p := by (with_reducible repeat (first | apply Kd.N_alloc | apply Kd.N_drewN | apply Kd.N_drew)); exact Kd.N_mono bH.out (fun _ hk => ⟨hk.2.1, ⟨hk.1, ⟨hk.2.2.1, hk.2.2.2⟩⟩⟩)) : p := h
theorem au7_34 {p : Prop} (h : p := by have := HJ2.out; have := HK2.out; first | omega | exact Nat.le_refl _) : p := h
theorem au7_35 {p : Prop} (h : p := by (with_reducible repeat (first | apply Kd.N_alloc | apply Kd.N_drewN | apply Kd.N_drew)); exact bH.out) : p := h
theorem au7_36 {p : Prop} (h : p := by (with_reducible repeat (first | apply Kd.N_alloc | apply Kd.N_drewN | apply Kd.N_drew)); exact jc.out) : p := h
theorem au7_37 {p : Prop} (h : p := by exact (Kd.N_reads' fI.out).2.1) : p := h
theorem au7_16 {p : Prop} (h : p := by exact (fun k_ hk => ⟨Kd.fresh' (Kd.N_lt au7_0) k_ hk, Kd.fresh' (Kd.N_lt au7_8) k_ hk, Kd.freshB (g := aq) (o := .cells #[.string cr, .string cK, .int .i64 cL, .slice aU aC.length aT] 29 (0, 0)) (bk_ az) k_ hk, Kd.freshB (g := al) (o := .cells #[.string ((rd_T52 ak (ax)).f0), .slice b9 bO.length ca] 52 (0, 0)) (bk_ aG) k_ hk⟩)) : p := h
theorem au7_17 {p : Prop} (h : p := by exact (fun k_ hk => ⟨Kd.fresh' (Kd.N_lt au7_0) k_ hk, Kd.freshB (g := aq) (o := .cells #[.string cr, .string cK, .int .i64 cL, .slice aU aC.length aT] 29 (0, 0)) (bk_ az) k_ hk, Kd.freshB (g := al) (o := .cells #[.string ((rd_T52 ak (ax)).f0), .slice b9 bO.length ca] 52 (0, 0)) (bk_ aG) k_ hk⟩)) : p := h

/-! ### F5: function 5 -/
mutual
def F5.j0 : Nat → List Int → List Int → Bool → Option (Bool)
  | 0, _, _, _ => none
  | k + 1, x0, x1, x21 => if x21 = true then (some true) else ((F20.f k x0).bind fun kc => ((F21.f k kc.1 kc.2.1 kc.2.2.1 kc.2.2.2).bind fun XL => (if XL = true then ((F22.f k kc.1 kc.2.1 kc.2.2.1 kc.2.2.2).bind fun ak => (F5.l0 k x1 ak (ak.length : Int) 0 kc.1 kc.2.1 kc.2.2.1 kc.2.2.2)) else (some true))))
def F5.l0 : Nat → List Int → List (S52) → Int → Int → ByteArray → ByteArray → Int → List (S83) → Option (Bool)
  | 0, _, _, _, _, _, _, _, _ => none
  | k + 1, x1, x6, x7, x8, jd, j6, je, j7 => if x8 < x7 then ((F23.f x1 0 x7).bind fun nb => (if x7 = 0 then (none) else (if 0 ≤ (Int.tmod (wrap64 (nb + x8)) x7) then (if (Int.tmod (wrap64 (nb + x8)) x7) < (x6.length : Int) then (if ((rd_T52 x6 (Int.tmod (wrap64 (nb + x8)) x7)).f0).toList = ([77, 83, 84] : List UInt8) then (F5.j2 k x1 x6 x7 x8 (Int.tmod (wrap64 (nb + x8)) x7) ((rd_T52 x6 (Int.tmod (wrap64 (nb + x8)) x7)).f0) false jd j6 je j7) else (if ((rd_T52 x6 (Int.tmod (wrap64 (nb + x8)) x7)).f0).toList = ([71, 82, 84] : List UInt8) then (F5.j2 k x1 x6 x7 x8 (Int.tmod (wrap64 (nb + x8)) x7) ((rd_T52 x6 (Int.tmod (wrap64 (nb + x8)) x7)).f0) false jd j6 je j7) else (F5.j2 k x1 x6 x7 x8 (Int.tmod (wrap64 (nb + x8)) x7) ((rd_T52 x6 (Int.tmod (wrap64 (nb + x8)) x7)).f0) (((rd_T52 x6 (Int.tmod (wrap64 (nb + x8)) x7)).f0).toList != ([73, 88, 84] : List UInt8)) jd j6 je j7))) else (none)) else (none)))) else (some true)
def F5.j2 : Nat → List Int → List (S52) → Int → Int → Int → ByteArray → Bool → ByteArray → ByteArray → Int → List (S83) → Option (Bool)
  | 0, _, _, _, _, _, _, _, _, _, _, _ => none
  | k + 1, x1, x6, x7, x8, x9, WV, x57, jd, j6, je, j7 => if x57 = true then (F5.l0 k x1 x6 x7 (wrap64 (x8 + 1)) jd j6 je j7) else (if 0 ≤ x9 then (if x9 < (x6.length : Int) then (if 1 < (((rd_T52 x6 x9).f1).length : Int) then ((some (([] : List (S52)) : List (S52))).bind fun kM => (if x9 ≤ (x6.length : Int) then ((some (x6.take (x9 : Int).toNat : List (S52))).bind fun gn => (if kM.length + gn.length < 3518437208883 then ((some (kM ++ gn : List (S52))).bind fun iy => ((some (([(⟨WV, (([(⟨(([(⟨#[55, 55]⟩ : ByteArray)] : List ByteArray))⟩ : S55), (⟨(rd_T55 ((rd_T52 x6 x9).f1) 1).f0⟩ : S55)] : List (S55)))⟩ : S52)] : List (S52)) : List (S52))).bind fun eh => (if iy.length + eh.length < 3518437208883 then ((some (iy ++ eh : List (S52))).bind fun fA => (if 0 ≤ (wrap64 (x9 + 1)) then (if (wrap64 (x9 + 1)) ≤ (x6.length : Int) then ((some (x6.drop ((wrap64 (x9 + 1)) : Int).toNat : List (S52))).bind fun dM => (if fA.length + dM.length < 3518437208883 then (F5.j3 k x9 (fA ++ dM) jd j6 je j7) else (none))) else (none)) else (none))) else (none)))) else (none))) else (none))) else (none)) else (none)) else (none))
def F5.j3 : Nat → Int → List (S52) → ByteArray → ByteArray → Int → List (S83) → Option (Bool)
  | 0, _, _, _, _, _, _ => none
  | k + 1, x9, H6, jd, j6, je, j7 => (F24.f k H6).bind fun uo => (if uo.2.2.2.2.2.2 = 5 then (if uo.2.2.2.2.2.1 = x9 then (if uo.2.2.2.2.1 = true then (if uo.1.toList = jd.toList then (some (uo.2.2.1 == je)) else (some false)) else (some false)) else (some false)) else (some false))
end
def F5.f (k : Nat) (l0 : List Int) (l1 : List Int) : Option (Bool) := if (l0.length : Int) > 1048576 then (F5.j0 k l0 l1 true) else (F5.j0 k l0 l1 (decide ((l1.length : Int) > 1048576)))
theorem F5.mono_l : ∀ k, (∀ y0 y1 y2, LeO (F5.j0 k y0 y1 y2) (F5.j0 (k + 1) y0 y1 y2)) ∧ (∀ y0 y1 y2 y3 y4 y5 y6 y7, LeO (F5.l0 k y0 y1 y2 y3 y4 y5 y6 y7) (F5.l0 (k + 1) y0 y1 y2 y3 y4 y5 y6 y7)) ∧ (∀ y0 y1 y2 y3 y4 y5 y6 y7 y8 y9 lD, LeO (F5.j2 k y0 y1 y2 y3 y4 y5 y6 y7 y8 y9 lD) (F5.j2 (k + 1) y0 y1 y2 y3 y4 y5 y6 y7 y8 y9 lD)) ∧ (∀ y0 y1 y2 y3 y4 y5, LeO (F5.j3 k y0 y1 y2 y3 y4 y5) (F5.j3 (k + 1) y0 y1 y2 y3 y4 y5))
 | 0 => ⟨fun _ _ _ r h => by simp [F5.j0] at h, fun _ _ _ _ _ _ _ _ r h => by simp [F5.l0] at h, fun _ _ _ _ _ _ _ _ _ _ _ r h => by simp [F5.j2] at h, fun _ _ _ _ _ _ r h => by simp [F5.j3] at h⟩
 | k + 1 => by
  obtain ⟨b6, fd, gI, ke⟩ := F5.mono_l k
  refine ⟨?_, ?_, ?_, ?_⟩
  rotate_left
  ·intro y0 y1 y2 y3 y4 y5 y6 y7
   unfold F5.l0
   repeat' with_reducible first | exact b6 _ _ _ | exact fd _ _ _ _ _ _ _ _ | exact gI _ _ _ _ _ _ _ _ _ _ _ | exact ke _ _ _ _ _ _ | exact F24.mono _ _ | exact F20.mono _ _ | exact F21.mono _ _ _ _ _ | exact F22.mono _ _ _ _ _ | exact LeO.refl _ | exact LeO.none _ | refine LeO.ite ?_ ?_ | refine LeO.bind ?_ (fun _ => ?_)
  ·intro y0 y1 y2 y3 y4 y5 y6 y7 y8 y9 lD
   unfold F5.j2
   repeat' with_reducible first | exact b6 _ _ _ | exact fd _ _ _ _ _ _ _ _ | exact gI _ _ _ _ _ _ _ _ _ _ _ | exact ke _ _ _ _ _ _ | exact F24.mono _ _ | exact F20.mono _ _ | exact F21.mono _ _ _ _ _ | exact F22.mono _ _ _ _ _ | exact LeO.refl _ | exact LeO.none _ | refine LeO.ite ?_ ?_ | refine LeO.bind ?_ (fun _ => ?_)
  ·intro y0 y1 y2 y3 y4 y5
   unfold F5.j3
   repeat' with_reducible first | exact b6 _ _ _ | exact fd _ _ _ _ _ _ _ _ | exact gI _ _ _ _ _ _ _ _ _ _ _ | exact ke _ _ _ _ _ _ | exact F24.mono _ _ | exact F20.mono _ _ | exact F21.mono _ _ _ _ _ | exact F22.mono _ _ _ _ _ | exact LeO.refl _ | exact LeO.none _ | refine LeO.ite ?_ ?_ | refine LeO.bind ?_ (fun _ => ?_)
  intro y0 y1 y2
  unfold F5.j0
  repeat' with_reducible first | exact b6 _ _ _ | exact fd _ _ _ _ _ _ _ _ | exact gI _ _ _ _ _ _ _ _ _ _ _ | exact ke _ _ _ _ _ _ | exact F24.mono _ _ | exact F20.mono _ _ | exact F21.mono _ _ _ _ _ | exact F22.mono _ _ _ _ _ | exact LeO.refl _ | exact LeO.none _ | refine LeO.ite ?_ ?_ | refine LeO.bind ?_ (fun _ => ?_)
theorem F5.mono : ∀ a0 a1 k, LeO (F5.f k a0 a1) (F5.f (k + 1) a0 a1) := by
 intro a0 a1 k
 obtain ⟨b6, fd, gI, ke⟩ := F5.mono_l k
 unfold F5.f
 repeat' with_reducible first | exact b6 _ _ _ | exact fd _ _ _ _ _ _ _ _ | exact gI _ _ _ _ _ _ _ _ _ _ _ | exact ke _ _ _ _ _ _ | exact F24.mono _ _ | exact F20.mono _ _ | exact F21.mono _ _ _ _ _ | exact F22.mono _ _ _ _ _ | exact LeO.refl _ | exact LeO.none _ | refine LeO.ite ?_ ?_ | refine LeO.bind ?_ (fun _ => ?_)
def F5.T15 : Bool × List (List Nat × List Nat) := (true, [([], []), ([], []), ([], []), ([1, 2], [1, 2]), ([0, 3], [0, 3]), ([], []), ([5], [5]), ([4, 6, 4], [4, 6]), ([7, 7, 0, 1, 2, 3, 4, 5, 6, 7], [7])])
def F5.B15 : List Nat := [0, 0, 0, 6, 15, 0, 32, 127, 255]
theorem F5.tab15 : rtab .any (opsOf Tryd.f5 15) = F5.T15 := by kernel_rfl
theorem F5.bits15 : waitsOk F5.T15.2 F5.B15 = true := by kernel_rfl
theorem F5.calls (k : Nat) (A0 : Option Addr) (c0 : Nat) (l0 : List Int) (A1 : Option Addr) (c1 : Nat) (l1 : List Int) (r : Bool) (w : World) (eQ : Kd.C (Kd.int .u8) w A0 l0.length l0) (f9 : l0.length ≤ c0) (hr1 : Kd.C (Kd.int .u8) w A1 l1.length l1) (hc1 : l1.length ≤ c1) (hT : LaidT true Tryd.prog w) (h : F5.f k l0 l1 = some r) :
  Calls Tryd.prog 5 #[.slice A0 l0.length c0, .slice A1 l1.length c1] w fun e w' => e = .returned (.bool r) ∧ Below w.heap.size w w' := by
 have tH := Tryd.underlying29
 have sY := Tryd.underlying55
 have jn := Tryd.underlying52
 have Xt := Tryd.underlying36
 have n3 := am_ eQ
 have sV := am_ f9
 clear eQ f9
 have Pb := am_ hr1
 have ko := am_ hc1
 clear hr1 hc1
 have HZT := am_ hT
 clear hT
 have HB := am_ (Below.refl w.heap.size w)
 have H : (if (l0.length : Int) > 1048576 then (F5.j0 k l0 l1 true) else (F5.j0 k l0 l1 (decide ((l1.length : Int) > 1048576)))) = some r := h
 clear h
 have HC3 := am_ H
 clear H
 go_enter Tryd.func5, Tryd.ntmps5
 go_upto_region 1 with (fail)
 go_cut [21] (fun ON wc => ∃ (kq : Nat) (E3 : Bool), ON = .bool E3 ∧ Aside0 (F5.j0 kq l0 l1 E3 = some r) ∧ Aside0 (kq ≤ k) ∧ Aside0 (Below w.heap.size w wc))
 case first =>
  have H := HC3.out
  clear HC3
  replace H := it_ H; rcases H with ⟨(c4b0 : decide (1048576 < (l0.length : Int)) = true), H⟩ | ⟨(c4b0 : decide (1048576 < (l0.length : Int)) = false), H⟩
  rotate_left
  ·have c4b1 : decide (1048576 < l0.length) = false := n2_ c4b0
   (first | rw [c4b0] | (simp only [i64_w, i32_w]; rw [c4b0]) | skip)
   have H' := am_ H
   clear H
   go_wp2
   go_meet
   case rel => exact ⟨_, (decide ((l1.length : Int) > 1048576)), er_, H', ⟨by first | omega | exact Nat.le_refl _⟩, ⟨bl_⟩⟩
  have c4b1 : decide (1048576 < l0.length) = true := n2_ c4b0
  (first | rw [c4b0] | (simp only [i64_w, i32_w]; rw [c4b0]) | skip)
  have H' := am_ H
  clear H
  go_wp2
  go_meet
  case rel => exact ⟨_, (true), er_, H', ⟨by first | omega | exact Nat.le_refl _⟩, ⟨bl_⟩⟩
 case rest =>
  clear HC3
  try clear c1
  try clear c4b0
  try clear c4b1
  obtain ⟨kq, E3, rfl, HA, HJ2, HB⟩ := hcut
  cases kq with
  | zero => exact absurd HA.out (by simp [F5.j0])
  | succ Od =>
   have H := HA.out
   clear HA
   simp only [F5.j0] at H
   replace H := ib_ H; rcases H with ⟨rfl, H⟩ | ⟨rfl, H⟩
   ·obtain rfl := Option.some.inj H
    go_wp2
    go_ret
    exact ⟨au7_31, bl_⟩
   replace H := bi_ H; rcases H with ⟨⟨cr, cK, cL, aC⟩, A6, H⟩
   replace H := bi_ H; rcases H with ⟨XL, A7, H⟩
   replace H := ib_ H; rcases H with ⟨rfl, H⟩ | ⟨rfl, H⟩
   rotate_left
   ·obtain rfl := Option.some.inj H
    go_wp2_with (first | (go_at_call 20; (with_reducible refine (F20.calls Od _ _ l0 cr cK cL aC _ ?s1 ?s2 A6.out).mono ?_); (case s1 => exact au7_32); (case s2 => exact sV.out); rintro e b6w ⟨a8t, rfl, bm, hb⟩; (try clear A6); have gG := am_ (Kd.N_lower (Kd.N_mono (ok' := fun k_ => True) bm (fun k_ hk_ => trivial)) (below_size bl_)); replace HB := hs_ w hb; clear hb bm) | ((with_reducible refine gate_dst (N := 5) rfl ?_); (try (refine gate_guard (by rfl) ?_; dsimp only)); refine be_ 5 #[.string (⟨#[]⟩ : ByteArray), .string (⟨#[]⟩ : ByteArray), .int .i64 0, .slice none 0 0] 29 ?_; intro aq hg b6x hbox hb; replace gG := am_ (Kd.N_below (Kd.N_elderB au7_19 aq (Nat.le_of_eq hg.symm)) hb); have az := am_ (hbox); have E4 := am_ (gw_ hg bl_); have XM := E4; replace HB := hs_ w hb; clear hb hbox hg; obtain ⟨tv, tw, XN, XO, tx, tz, XP, XQ⟩ := cellsF4 az.out; obtain ⟨Cr, pJ, Cs⟩ := Kd.N_slice gG.out; subst Cs) | (go_at_call 21; (with_reducible refine (F21.calls Od cr cK cL _ _ aC false _ ?s1 ?s2 A7.out).mono ?_); (case s1 => refine (Kd.N_reads' (e := 83) (base := w.heap.size) (ok := fun k_ => (True ∧ k_ ≠ aq)) (n := aC.length) (c := pJ) ?_).2.2; exact au7_9); (case s2 => exact (Kd.N_reads' gG.out).2.1); rintro e a3R ⟨rfl, hb⟩; (try clear A7); replace gG := am_ (Kd.N_below au7_9 hb); replace az := am_ (blk_below (g := aq) (o := .cells #[.string cr, .string cK, .int .i64 cL, .slice Cr aC.length pJ] 29 (0, 0)) (bq_ az) hb); replace HB := hs_ w hb; clear hb))
    go_ret
    exact ⟨au7_31, bl_⟩

   replace H := bi_ H; rcases H with ⟨ak, A9, H⟩
   have H' := am_ H
   clear H
   go_wp2_with (first | (go_at_call 20; (with_reducible refine (F20.calls Od _ _ l0 cr cK cL aC _ ?s1 ?s2 A6.out).mono ?_); (case s1 => exact au7_32); (case s2 => exact sV.out); rintro e F4 ⟨a8t, rfl, bm, hb⟩; (try clear A6); have gG := am_ (Kd.N_lower (Kd.N_mono (ok' := fun k_ => True) bm (fun k_ hk_ => trivial)) (below_size bl_)); replace HB := hs_ w hb; clear hb bm) | ((with_reducible refine gate_dst (N := 5) rfl ?_); (try (refine gate_guard (by rfl) ?_; dsimp only)); refine be_ 5 #[.string (⟨#[]⟩ : ByteArray), .string (⟨#[]⟩ : ByteArray), .int .i64 0, .slice none 0 0] 29 ?_; intro aq hg IP hbox hb; replace gG := am_ (Kd.N_below (Kd.N_elderB au7_19 aq (Nat.le_of_eq hg.symm)) hb); have az := am_ (hbox); have E4 := am_ (gw_ hg bl_); have XM := E4; replace HB := hs_ w hb; clear hb hbox hg; obtain ⟨cQ, cR, dR, dS, cS, cT, dT, dU⟩ := cellsF4 az.out; obtain ⟨aU, aT, u6⟩ := Kd.N_slice gG.out; subst u6) | (go_at_call 21; (with_reducible refine (F21.calls Od cr cK cL _ _ aC true _ ?s1 ?s2 A7.out).mono ?_); (case s1 => refine (Kd.N_reads' (e := 83) (base := w.heap.size) (ok := fun k_ => (True ∧ k_ ≠ aq)) (n := aC.length) (c := aT) ?_).2.2; exact au7_10); (case s2 => exact (Kd.N_reads' gG.out).2.1); rintro e AN ⟨rfl, hb⟩; (try clear A7); replace gG := am_ (Kd.N_below au7_10 hb); replace az := am_ (blk_below (g := aq) (o := .cells #[.string cr, .string cK, .int .i64 cL, .slice aU aC.length aT] 29 (0, 0)) (bq_ az) hb); replace HB := hs_ w hb; clear hb; obtain ⟨eT, fZ, hD, hJ, eU, f4, hU, hX⟩ := cellsF4 az.out) | (go_at_call 22; (with_reducible refine (F22.calls Od cr cK cL _ _ aC ak _ ?s1 ?s2 A9.out).mono ?_); (case s1 => repeat (first | exact (Kd.N_reads' gG.out).2.2 | (with_reducible refine Kd.C_alloc ?_ _) | (with_reducible refine Kd.C_drewN ?_ _) | (with_reducible refine Kd.C_drew ?_))); (case s2 => exact (Kd.N_reads' gG.out).2.1); rintro e kP ⟨b6y, rfl, bm, hb⟩; (try clear A9); have KI := am_ (Kd.N_lower (Kd.N_mono (ok' := fun k_ => some k_ ≠ (.slice aU aC.length aT : Value).ownBlock ∧ k_ ≠ aq) (Kd.S_N (Kd.S_bound bm)) (fun k_ hk_ => ⟨(Kd.fresh' (Kd.N_lt au7_19) k_ hk_.2.1), (Kd.freshB (g := aq) (o := .cells #[.string cr, .string cK, .int .i64 cL, .slice aU aC.length aT] 29 (0, 0)) (bk_ az) k_ hk_.2.1)⟩)) (below_size bl_)); replace gG := am_ (Kd.N_elder' au7_19 (Kd.S_base bm) hb); replace az := bb_ az hb; replace HB := hs_ w hb; clear hb bm; obtain ⟨Ay, bv, vq⟩ := Kd.N_slice KI.out; subst vq))
   go_loopg [8] Od (fun kq v8 w' => ∃ (sM : Int), v8 = .int .i64 sM ∧ Aside0 (F5.l0 kq l1 ak (ak.length : Int) sM cr cK cL aC = some r) ∧ Aside0 (kq ≤ Od) ∧ Aside0 (Kd.N k52 52 w' w.heap.size (fun k_ => some k_ ≠ ((.slice aU aC.length aT) : Value).ownBlock ∧ k_ ≠ aq) (.slice Ay ak.length bv) ak) ∧ Aside0 (Kd.N k83 83 w' w.heap.size (fun k_ => some k_ ≠ ((.slice Ay ak.length bv) : Value).ownBlock ∧ k_ ≠ aq) (.slice aU aC.length aT) aC) ∧ Aside0 (w'.heap[aq]? = some (.cells #[.string cr, .string cK, .int .i64 cL, (.slice aU aC.length aT)] 29 (0, 0))) ∧ Aside0 (Below w.heap.size w w'))
   case atStart => exact ⟨(0), er_, H', ⟨Nat.le_refl _⟩, ⟨by (with_reducible repeat (first | apply Kd.N_alloc | apply Kd.N_drewN | apply Kd.N_drew)); exact KI.out⟩, ⟨by (with_reducible repeat (first | apply Kd.N_alloc | apply Kd.N_drewN | apply Kd.N_drew)); exact Kd.N_mono gG.out (fun _ hk => ⟨hk.2, hk.1.2⟩)⟩, ⟨bk_ az⟩, ⟨bl_⟩⟩
   case round =>
    clear H'
    try clear c1
    try clear c4b0
    try clear c4b1
    try clear cQ cR dR dS
    try clear eT fZ hD hJ
    try clear cS cT dT dU
    try clear eU f4 hU hX
    obtain ⟨sM, rfl, HA, HK2, dv, aE, az, HB⟩ := hrel
    cases gk with
    | zero => exact absurd HA.out (by simp [F5.l0])
    | succ k2 =>
     have H := HA.out
     clear HA
     simp only [F5.l0] at H
     replace H := it_ H; rcases H with ⟨c18b0, H⟩ | ⟨c18b0, H⟩
     rotate_left
     ·obtain rfl := Option.some.inj H
      go_wp2
      go_ret
      exact ⟨au7_31, bl_⟩
     replace H := bi_ H; rcases H with ⟨nb, OG, H⟩
     by_cases vp : (ak.length : Int) = 0
     ·rw [if_pos vp] at H
      exact absurd H (by simp)
     rw [if_neg vp] at H
     have c20b0 : ((ak.length : Int) == 0) = false := beq_eq_false_iff_ne.mpr vp
     have c20b1 : ((ak.length : Int) != 0) = true := bne_iff_ne.mpr vp
     have c20b2 : ¬ (ak = []) := fun h_ => vp (by rw [h_]; rfl)
     obtain ⟨ax, un⟩ : ∃ j_ : Int, (Int.tmod (wrap64 (nb + sM)) (ak.length : Int)) = j_ := ⟨_, rfl⟩
     replace H : (if 0 ≤ (ax) then (if (ax) < (ak.length : Int) then (if ((rd_T52 ak (ax)).f0).toList = ([77, 83, 84] : List UInt8) then (F5.j2 k2 l1 ak (ak.length : Int) sM ax ((rd_T52 ak (ax)).f0) false cr cK cL aC) else (if ((rd_T52 ak (ax)).f0).toList = ([71, 82, 84] : List UInt8) then (F5.j2 k2 l1 ak (ak.length : Int) sM ax ((rd_T52 ak (ax)).f0) false cr cK cL aC) else (F5.j2 k2 l1 ak (ak.length : Int) sM ax ((rd_T52 ak (ax)).f0) (((rd_T52 ak (ax)).f0).toList != ([73, 88, 84] : List UInt8)) cr cK cL aC))) else (none)) else (none)) = some r := by first | (rw [un] at H; exact H) | (simp only [un] at H ⊢; exact H)
     (try rw [un] at OG)
     replace H := itn_ H; rcases H with ⟨c22b0, H⟩
     replace H := itn_ H; rcases H with ⟨c23b0, H⟩
     have Oe := am_ H
     clear H
     go_upto_region 13 with (first | (go_at_call 23; (with_reducible refine (F23.calls _ _ l1 0 (ak.length : Int) nb _ ?s1 ?s2 OG.out).mono ?_); (case s1 => repeat (first | exact (Kd.C_below Pb.out HB.out) | (with_reducible refine Kd.C_alloc ?_ _) | (with_reducible refine Kd.C_drewN ?_ _) | (with_reducible refine Kd.C_drew ?_))); (case s2 => exact ko.out); rintro e w' ⟨rfl, ⟨nd, rfl⟩⟩; (try clear OG); have E5 : 0 ≤ ((ax) : Int) := od_; have E6 : (ax) < (ak.length : Int) := od_; obtain ⟨aX, Of, a8u, a8v, Iw, zD, zE, zF⟩ := at_T52 (Kd.N_reads' dv.out).2.2 (ax) E5 E6; cases a8v; obtain ⟨b1P, Og, Oh, E7⟩ := Kd.N_get dv.out z52 (ax) E5 (by first | exact E6 | exact of_decide_eq_true as_ | (have e_ := (Kd.N_reads' dv.out).1; omega)); obtain ⟨a1L, a1M, rfl, sN, sO⟩ := k52_openF Oh; have pt := E7 1 _ rfl; rw [add_field _ _ 1 (by omega)] at pt; replace pt := Option.some.inj (pt.symm.trans zD); injection pt with hva_ hvn_ hvc_; rw [hva_] at sO; rw [hvc_] at sN; have a1N := am_ (show Kd.V k55 55 _ w.heap.size _ _ ((rd_T52 ak (ax)).f1) from Kd.V_mk sN sO); clear hva_ hvn_ hvc_ sO sN; clear E7 Og; have jb := am_ zF; have a1O := am_ zE; clear zF zE; replace E5 := eq_true E5; replace E6 := eq_true E6))
     (try simp only [Act.put, List.setIfInBounds_toArray, List.set_cons_zero, List.set_cons_succ])
     go_cut [57] (fun v57 wc => ∃ (kq : Nat) (wo : Bool), v57 = .bool wo ∧ Aside0 (F5.j2 kq l1 ak (ak.length : Int) sM ax ((rd_T52 ak (ax)).f0) wo cr cK cL aC = some r) ∧ Aside0 (kq ≤ k2) ∧ Aside0 (Kd.N k52 52 wc w.heap.size (fun k_ => some k_ ≠ ((.slice aU aC.length aT) : Value).ownBlock ∧ k_ ≠ aq) (.slice (some aX) ak.length bv) ak) ∧ Aside0 (Kd.N k83 83 wc w.heap.size (fun k_ => some k_ ≠ ((.slice (some aX) ak.length bv) : Value).ownBlock ∧ k_ ≠ aq) (.slice aU aC.length aT) aC) ∧ Aside0 (wc.heap[aq]? = some (.cells #[.string cr, .string cK, .int .i64 cL, (.slice aU aC.length aT)] 29 (0, 0))) ∧ Aside0 (Kd.C k55 wc Of ((rd_T52 ak (ax)).f1).length ((rd_T52 ak (ax)).f1)) ∧ Aside0 (Below w.heap.size w wc))
     case first =>
      have H := Oe.out
      clear Oe
      by_cases zS : ((rd_T52 ak (ax)).f0).toList = ([77, 83, 84] : List UInt8)
      ·rw [if_pos zS] at H
       have c25b0 : (((rd_T52 ak (ax)).f0).toList == ([77, 83, 84] : List UInt8)) = true := beq_iff_eq.mpr zS
       have c25b1 : (((rd_T52 ak (ax)).f0).toList != ([77, 83, 84] : List UInt8)) = false := bne_eq_false_iff_eq.mpr zS
       clear zS
       (first | rw [c25b0] | (simp only [i64_w, i32_w]; rw [c25b0]) | skip)
       have H' := am_ H
       clear H
       go_wp2
       go_meet
       case rel => exact ⟨_, (false), er_, H', ⟨au7_34⟩, ⟨au7_20⟩, ⟨au7_18⟩, ⟨bk_ az⟩, ⟨au7_15⟩, ⟨bl_⟩⟩
      rw [if_neg zS] at H
      have c25b0 : (((rd_T52 ak (ax)).f0).toList == ([77, 83, 84] : List UInt8)) = false := beq_eq_false_iff_ne.mpr zS
      have c25b1 : (((rd_T52 ak (ax)).f0).toList != ([77, 83, 84] : List UInt8)) = true := bne_iff_ne.mpr zS
      (first | rw [c25b0] | (simp only [i64_w, i32_w]; rw [c25b0]) | skip)
      by_cases KJ : ((rd_T52 ak (ax)).f0).toList = ([71, 82, 84] : List UInt8)
      rotate_left
      ·rw [if_neg KJ] at H
       have c26b0 : (((rd_T52 ak (ax)).f0).toList == ([71, 82, 84] : List UInt8)) = false := beq_eq_false_iff_ne.mpr KJ
       have c26b1 : (((rd_T52 ak (ax)).f0).toList != ([71, 82, 84] : List UInt8)) = true := bne_iff_ne.mpr KJ
       have H' := am_ H
       clear H
       go_wp2
       go_meet
       case rel => exact ⟨_, ((((rd_T52 ak (ax)).f0).toList != ([73, 88, 84] : List UInt8))), (by first | rfl | (simp; done) | (simp only [← un] <;> (first | rfl | simp)) | (simp [*]; done)), H', ⟨au7_34⟩, ⟨au7_20⟩, ⟨au7_18⟩, ⟨bk_ az⟩, ⟨au7_15⟩, ⟨bl_⟩⟩
      rw [if_pos KJ] at H
      have c26b0 : (((rd_T52 ak (ax)).f0).toList == ([71, 82, 84] : List UInt8)) = true := beq_iff_eq.mpr KJ
      have c26b1 : (((rd_T52 ak (ax)).f0).toList != ([71, 82, 84] : List UInt8)) = false := bne_eq_false_iff_eq.mpr KJ
      clear KJ
      have H' := am_ H
      clear H
      go_wp2
      go_meet
      case rel => exact ⟨_, (false), er_, H', ⟨au7_34⟩, ⟨au7_20⟩, ⟨au7_18⟩, ⟨bk_ az⟩, ⟨au7_15⟩, ⟨bl_⟩⟩
     case rest =>
      clear Oe
      try clear c1
      try clear c2
      try clear c4b0
      try clear c4b1
      try clear c18b0
      try clear vp
      try clear c20b0
      try clear c20b1
      try clear c20b2
      try clear c22b0
      try clear c23b0
      try clear zS
      try clear c25b0
      try clear c25b1
      try clear KJ
      try clear c26b0
      try clear c26b1
      try clear cQ cR dR dS
      try clear eT fZ hD hJ
      try clear cS cT dT dU
      try clear eU f4 hU hX
      try clear Iw
      try clear zD
      try clear E5
      try clear E6
      obtain ⟨kq, wo, rfl, HA, Oi, dv, aE, az, jb, HB⟩ := hcut
      cases kq with
      | zero => exact absurd HA.out (by simp [F5.j2])
      | succ oD =>
       have H := HA.out
       clear HA
       simp only [F5.j2] at H
       replace H := ib_ H; rcases H with ⟨rfl, H⟩ | ⟨rfl, H⟩
       ·have H' := am_ H
        clear H
        go_wp2
        go_roundg oD
        case measure => have := HJ2.out; have := HK2.out; have := Oi.out; omega
        case rel => exact ⟨(wrap64 (sM + 1)), er_, H', ⟨by have := HJ2.out; have := HK2.out; have := Oi.out; omega⟩, ⟨au7_20⟩, ⟨au7_18⟩, ⟨bk_ az⟩, ⟨bl_⟩⟩
       obtain ⟨wq, E8⟩ : ∃ y_ : List ByteArray, y_ = (([(⟨#[55, 55]⟩ : ByteArray)] : List ByteArray)) := ⟨_, rfl⟩
       replace H : (if 0 ≤ ax then (if ax < (ak.length : Int) then (if 1 < (((rd_T52 ak ax).f1).length : Int) then ((some (([] : List (S52)) : List (S52))).bind fun kM => (if ax ≤ (ak.length : Int) then ((some (ak.take (ax : Int).toNat : List (S52))).bind fun gn => (if kM.length + gn.length < 3518437208883 then ((some (kM ++ gn : List (S52))).bind fun iy => ((some (([(⟨((rd_T52 ak (ax)).f0), (([(⟨wq⟩ : S55), (⟨(rd_T55 ((rd_T52 ak ax).f1) 1).f0⟩ : S55)] : List (S55)))⟩ : S52)] : List (S52)) : List (S52))).bind fun eh => (if iy.length + eh.length < 3518437208883 then ((some (iy ++ eh : List (S52))).bind fun fA => (if 0 ≤ (wrap64 (ax + 1)) then (if (wrap64 (ax + 1)) ≤ (ak.length : Int) then ((some (ak.drop ((wrap64 (ax + 1)) : Int).toNat : List (S52))).bind fun dM => (if fA.length + dM.length < 3518437208883 then (F5.j3 oD ax (fA ++ dM) cr cK cL aC) else (none))) else (none)) else (none))) else (none)))) else (none))) else (none))) else (none)) else (none)) else (none)) = some r := by first | (rw [E8]; exact H) | exact H
       have KK := am_ E8
       clear E8
       replace H := itn_ H; rcases H with ⟨c28b0, H⟩
       replace H := itn_ H; rcases H with ⟨c29b0, H⟩
       replace H := itn_ H; rcases H with ⟨c30b0, H⟩
       have c30b1 : decide (1 < ((rd_T52 ak ax).f1).length) = true := n2_ c30b0
       obtain ⟨bO, E9⟩ : ∃ y_ : List (S55), y_ = (([(⟨wq⟩ : S55), (⟨(rd_T55 ((rd_T52 ak ax).f1) 1).f0⟩ : S55)] : List (S55))) := ⟨_, rfl⟩
       replace H : ((some (([] : List (S52)) : List (S52))).bind fun kM => (if ax ≤ (ak.length : Int) then ((some (ak.take (ax : Int).toNat : List (S52))).bind fun gn => (if kM.length + gn.length < 3518437208883 then ((some (kM ++ gn : List (S52))).bind fun iy => ((some (([(⟨((rd_T52 ak (ax)).f0), bO⟩ : S52)] : List (S52)) : List (S52))).bind fun eh => (if iy.length + eh.length < 3518437208883 then ((some (iy ++ eh : List (S52))).bind fun fA => (if 0 ≤ (wrap64 (ax + 1)) then (if (wrap64 (ax + 1)) ≤ (ak.length : Int) then ((some (ak.drop ((wrap64 (ax + 1)) : Int).toNat : List (S52))).bind fun dM => (if fA.length + dM.length < 3518437208883 then (F5.j3 oD ax (fA ++ dM) cr cK cL aC) else (none))) else (none)) else (none))) else (none)))) else (none))) else (none))) = some r := by first | (rw [E9]; exact H) | exact H
       have KL := am_ E9
       clear E9
       obtain ⟨kM, Fa⟩ : ∃ y_ : List (S52), y_ = (([] : List (S52))) := ⟨_, rfl⟩
       replace H : (if ax ≤ (ak.length : Int) then ((some (ak.take (ax : Int).toNat : List (S52))).bind fun gn => (if kM.length + gn.length < 3518437208883 then ((some (kM ++ gn : List (S52))).bind fun iy => ((some (([(⟨((rd_T52 ak (ax)).f0), bO⟩ : S52)] : List (S52)) : List (S52))).bind fun eh => (if iy.length + eh.length < 3518437208883 then ((some (iy ++ eh : List (S52))).bind fun fA => (if 0 ≤ (wrap64 (ax + 1)) then (if (wrap64 (ax + 1)) ≤ (ak.length : Int) then ((some (ak.drop ((wrap64 (ax + 1)) : Int).toNat : List (S52))).bind fun dM => (if fA.length + dM.length < 3518437208883 then (F5.j3 oD ax (fA ++ dM) cr cK cL aC) else (none))) else (none)) else (none))) else (none)))) else (none))) else (none)) = some r := by first | (rw [Fa]; exact H) | exact H
       have zG := am_ Fa
       clear Fa
       have c31b0 := eq_true (of_decide_eq_true as_ : 0 ≤ ax)
       by_cases XR : ax ≤ (ak.length : Int)
       rotate_left
       ·rw [if_neg XR] at H
        exact absurd H (by simp)
       rw [if_pos XR] at H
       have c32b0 := eq_true XR
       have c32b1 : decide (ax ≤ (ak.length : Int)) = true := decide_eq_true XR
       clear XR
       obtain ⟨gn, Fb⟩ : ∃ y_ : List (S52), y_ = (ak.take (ax : Int).toNat) := ⟨_, rfl⟩
       replace H : (if kM.length + gn.length < 3518437208883 then ((some (kM ++ gn : List (S52))).bind fun iy => ((some (([(⟨((rd_T52 ak (ax)).f0), bO⟩ : S52)] : List (S52)) : List (S52))).bind fun eh => (if iy.length + eh.length < 3518437208883 then ((some (iy ++ eh : List (S52))).bind fun fA => (if 0 ≤ (wrap64 (ax + 1)) then (if (wrap64 (ax + 1)) ≤ (ak.length : Int) then ((some (ak.drop ((wrap64 (ax + 1)) : Int).toNat : List (S52))).bind fun dM => (if fA.length + dM.length < 3518437208883 then (F5.j3 oD ax (fA ++ dM) cr cK cL aC) else (none))) else (none)) else (none))) else (none)))) else (none)) = some r := by first | (rw [Fb]; exact H) | exact H
       have KM := am_ Fb
       clear Fb
       replace H := iln_ H; rcases H with ⟨Fc, H⟩
       obtain ⟨iy, Fd⟩ : ∃ y_ : List (S52), y_ = (kM ++ gn) := ⟨_, rfl⟩
       replace H : ((some (([(⟨((rd_T52 ak (ax)).f0), bO⟩ : S52)] : List (S52)) : List (S52))).bind fun eh => (if iy.length + eh.length < 3518437208883 then ((some (iy ++ eh : List (S52))).bind fun fA => (if 0 ≤ (wrap64 (ax + 1)) then (if (wrap64 (ax + 1)) ≤ (ak.length : Int) then ((some (ak.drop ((wrap64 (ax + 1)) : Int).toNat : List (S52))).bind fun dM => (if fA.length + dM.length < 3518437208883 then (F5.j3 oD ax (fA ++ dM) cr cK cL aC) else (none))) else (none)) else (none))) else (none))) = some r := by first | (rw [Fd]; exact H) | exact H
       have Fe := am_ Fd
       clear Fd
       obtain ⟨eh, Ff⟩ : ∃ y_ : List (S52), y_ = (([(⟨((rd_T52 ak (ax)).f0), bO⟩ : S52)] : List (S52))) := ⟨_, rfl⟩
       replace H : (if iy.length + eh.length < 3518437208883 then ((some (iy ++ eh : List (S52))).bind fun fA => (if 0 ≤ (wrap64 (ax + 1)) then (if (wrap64 (ax + 1)) ≤ (ak.length : Int) then ((some (ak.drop ((wrap64 (ax + 1)) : Int).toNat : List (S52))).bind fun dM => (if fA.length + dM.length < 3518437208883 then (F5.j3 oD ax (fA ++ dM) cr cK cL aC) else (none))) else (none)) else (none))) else (none)) = some r := by first | (rw [Ff]; exact H) | exact H
       have rm := am_ Ff
       clear Ff
       replace H := iln_ H; rcases H with ⟨XS, H⟩
       obtain ⟨fA, Fg⟩ : ∃ y_ : List (S52), y_ = (iy ++ eh) := ⟨_, rfl⟩
       replace H : (if 0 ≤ (wrap64 (ax + 1)) then (if (wrap64 (ax + 1)) ≤ (ak.length : Int) then ((some (ak.drop ((wrap64 (ax + 1)) : Int).toNat : List (S52))).bind fun dM => (if fA.length + dM.length < 3518437208883 then (F5.j3 oD ax (fA ++ dM) cr cK cL aC) else (none))) else (none)) else (none)) = some r := by first | (rw [Fg]; exact H) | exact H
       have XT := am_ Fg
       clear Fg
       have Oj := am_ H
       clear H
       try go_wp2_with (first | ((with_reducible refine gate_dst (N := 59) rfl ?_); (try (refine gate_guard (by rfl) ?_; dsimp only)); refine Kd.R_lit Kd.string _ 9 ?hg (N := 59) ?hd (xs := ([(⟨#[55, 55]⟩ : ByteArray)] : List ByteArray)) (inner := [.string (⟨#[55, 55]⟩ : ByteArray)]) (ok := fun _ => True) (okp := fun _ => True) ?hr ?hp (fun _ hk => hk) trivial (Below.refl _ _) (Nat.le_refl _) (by simp) ?_; (case hd => rfl); (case hg => rfl); (case hr => exact hr_); (case hp => exact (Reps.one (show Kd.M Kd.string _ _ _ (⟨#[55, 55]⟩ : ByteArray) [.string (⟨#[55, 55]⟩ : ByteArray)] from rfl) (Reps.none _ _))); intro b6A w36 ws hb hg_ hnew_; clear hg_ hnew_; (first | rw [← KK.out] at ws | (simp only [Int.reduceToNat] at ws; rw [← KK.out] at ws)); replace dv := am_ (Kd.N_elder' au7_1 (Kd.R_base ws) hb); replace aE := am_ (Kd.N_elder' au7_0 (Kd.R_base ws) hb); have zH := am_ (Kd.R_lower ws (below_size bl_)); replace az := bb_ az hb; replace jb := am_ (Kd.C_below au7_13 hb); replace HB := hs_ w hb; clear hb ws; obtain ⟨XU, XV, a8w⟩ := Kd.R_slice zH.out; subst a8w; have Ix : 0 ≤ (ax : Int) := od_; have Iy : ax < (ak.length : Int) := od_; obtain ⟨XW, a8x, wt, a8y, a1P, Iz, zI, zJ⟩ := at_T52 (Kd.N_reads' dv.out).2.2 ax Ix Iy; obtain rfl : aX = XW := (by injection a8y); obtain ⟨b1Q, Ok, Ol, Fh⟩ := Kd.N_get dv.out z52 ax Ix (by first | exact Iy | exact of_decide_eq_true as_ | (have e_ := (Kd.N_reads' dv.out).1; omega)); obtain ⟨a1Q, a1R, rfl, sP, sQ⟩ := k52_openF Ol; have pu := Fh 1 _ rfl; rw [add_field _ _ 1 (by omega)] at pu; replace pu := Option.some.inj (pu.symm.trans Iz); injection pu with hva_ hvn_ hvc_; rw [hva_] at sQ; rw [hvc_] at sP; have bM := am_ (show Kd.V k55 55 _ w.heap.size _ _ ((rd_T52 ak ax).f1) from Kd.V_mk sP sQ); clear hva_ hvn_ hvc_ sQ sP; clear Fh Ok; have pq := am_ zJ; have a1S := am_ zI; clear zJ zI; replace Ix := eq_true Ix; replace Iy := eq_true Iy; have IA : 0 ≤ (1 : Int) := (by omega); have IB : 1 < (((rd_T52 ak ax).f1).length : Int) := od_; obtain ⟨Fi, qq, qr, a8z, sR, zK, zL⟩ := at_T55 au7_14 1 IA IB; cases a8z; obtain ⟨b1R, Om, On, Fj⟩ := Kd.V_get bM.out z55 1 IA (by first | exact IB | exact of_decide_eq_true as_ | (have e_ := (Kd.V_reads' bM.out).1; omega)); obtain ⟨a1T, a1U, rfl, sS, sT⟩ := k55_openF On; have pv := Fj 0 _ rfl; rw [Nat.add_zero, show (k55).sz = 1 from rfl, Nat.mul_one] at pv; replace pv := Option.some.inj (pv.symm.trans sR); injection pv with hva_ hvn_ hvc_; rw [hva_] at sT; rw [hvc_] at sS; have bN := am_ (show Kd.V Kd.string 9 _ w.heap.size _ _ ((rd_T55 ((rd_T52 ak ax).f1) 1).f0) from Kd.V_mk sS sT); clear hva_ hvn_ hvc_ sT sS; clear Fj Om; (try simp only [show (1 : Int).toNat = 1 from rfl, Nat.reduceMul, Nat.reduceEqDiff, Go.Addr.add, ↓reduceIte] at sR); have b1S : (1 < ((rd_T52 ak ax).f1).length) = True := eq_true (by omega); (try rw [show ((1 : Int)).toNat = 1 from rfl] at sR); have pr := am_ zL; have a1V := am_ zK; clear zL zK; replace IA := eq_true IA; replace IB := eq_true IB) | ((with_reducible refine gate_dst (N := 68) rfl ?_); (try (refine gate_guard (by rfl) ?_; dsimp only)); refine Kd.N_lit k55 _ 55 ?hg (N' := 68) ?hd (xs := ([(⟨wq⟩ : S55), (⟨(rd_T55 ((rd_T52 ak ax).f1) 1).f0⟩ : S55)] : List (S55))) (inner := [.slice XU wq.length XV, .slice qq ((rd_T55 ((rd_T52 ak ax).f1) 1).f0).length qr]) (ok := (fun k_ => some k_ ≠ (.slice (some aX) ak.length bv : Value).ownBlock ∧ some k_ ≠ (.slice aU aC.length aT : Value).ownBlock ∧ k_ ≠ aq)) (okp := (fun k_ => some k_ ≠ (.slice (some aX) ak.length bv : Value).ownBlock ∧ some k_ ≠ (.slice aU aC.length aT : Value).ownBlock ∧ k_ ≠ aq)) ?hr ?hp (fun _ hk => hk) ((show ∀ k_, w36.heap.size ≤ k_ → (fun k_ => some k_ ≠ (.slice (some aX) ak.length bv : Value).ownBlock ∧ some k_ ≠ (.slice aU aC.length aT : Value).ownBlock ∧ k_ ≠ aq) k_ from fun k_ hk => ⟨Kd.fresh' (Kd.N_lt au7_1) k_ hk, Kd.fresh' (Kd.N_lt au7_0) k_ hk, Kd.freshB (g := aq) (o := .cells #[.string cr, .string cK, .int .i64 cL, .slice aU aC.length aT] 29 (0, 0)) (bk_ az) k_ hk⟩) _ (Nat.le_refl _)) (Below.refl _ _) (Nat.le_refl _) (by simp) ?_; (case hd => rfl); (case hg => rfl); (case hr => exact hr_); (case hp => exact (Reps.one (show Kd.FK k55 _ _ (⟨wq⟩ : S55) [.slice XU wq.length XV] from (k55_mkF _ _ (⟨wq⟩ : S55) (Kd.R_reads' (Kd.R_mono (ok' := (fun k_ => some k_ ≠ (.slice (some aX) ak.length bv : Value).ownBlock ∧ some k_ ≠ (.slice aU aC.length aT : Value).ownBlock ∧ k_ ≠ aq)) (Kd.R_types (Kd.R_apart' (Kd.R_apart' (zH.out) (Kd.N_typed dv.out) (by decide)) (Kd.N_typed aE.out) (by decide)) az.out (by decide)) (fun k_ hk => ⟨hk.1.1.2, ⟨hk.1.2, hk.2⟩⟩))).2.1 (Kd.R_F (Kd.R_mono (ok' := (fun k_ => some k_ ≠ (.slice (some aX) ak.length bv : Value).ownBlock ∧ some k_ ≠ (.slice aU aC.length aT : Value).ownBlock ∧ k_ ≠ aq)) (Kd.R_types (Kd.R_apart' (Kd.R_apart' (zH.out) (Kd.N_typed dv.out) (by decide)) (Kd.N_typed aE.out) (by decide)) az.out (by decide)) (fun k_ hk => ⟨hk.1.1.2, ⟨hk.1.2, hk.2⟩⟩))))) (Reps.one (show Kd.FK k55 _ _ (⟨(rd_T55 ((rd_T52 ak ax).f1) 1).f0⟩ : S55) [.slice qq ((rd_T55 ((rd_T52 ak ax).f1) 1).f0).length qr] from (k55_mkF _ _ (⟨(rd_T55 ((rd_T52 ak ax).f1) 1).f0⟩ : S55) (Kd.V_reads' (Kd.V_mono (ok' := (fun k_ => some k_ ≠ (.slice (some aX) ak.length bv : Value).ownBlock ∧ some k_ ≠ (.slice aU aC.length aT : Value).ownBlock ∧ k_ ≠ aq)) (bN.out) (fun k_ hk => ⟨hk.2, ⟨hk.1.1.1, hk.1.1.2⟩⟩))).2.1 (Kd.V_F (Kd.V_mono (ok' := (fun k_ => some k_ ≠ (.slice (some aX) ak.length bv : Value).ownBlock ∧ some k_ ≠ (.slice aU aC.length aT : Value).ownBlock ∧ k_ ≠ aq)) (bN.out) (fun k_ hk => ⟨hk.2, ⟨hk.1.1.1, hk.1.1.2⟩⟩))))) (Reps.none _ _)))); intro b6B w39 sU hb hg_ hnew_; clear hg_ hnew_; (first | rw [← KL.out] at sU | (simp only [Int.reduceToNat] at sU; rw [← KL.out] at sU)); replace dv := am_ (Kd.N_elder' au7_1 (Kd.N_base sU) hb); replace aE := am_ (Kd.N_elder' au7_0 (Kd.N_base sU) hb); replace bM := am_ (Kd.V_elder' au7_3 (Kd.N_base sU) hb); replace bN := am_ (Kd.V_elder' au7_4 (Kd.N_base sU) hb); have eO := am_ (Kd.N_lower sU (below_size bl_)); replace az := bb_ az hb; replace jb := am_ (Kd.C_below au7_13 hb); replace pq := am_ (Kd.C_below au7_14 hb); replace pr := am_ (Kd.C_below au7_24 hb); replace HB := am_ (below_step bl_ hb); clear zH; clear hb sU; obtain ⟨b9, ca, a8A⟩ := Kd.N_slice eO.out; subst a8A) | ((with_reducible refine gate_dst (N := 11) rfl ?_); (try (refine gate_guard (by rfl) ?_; dsimp only)); refine be_ 11 #[.string (⟨#[]⟩ : ByteArray), .slice none 0 0] 52 ?_; intro al hg AP hbox hb; replace dv := am_ (Kd.N_below (Kd.N_elderB au7_1 al (Nat.le_of_eq hg.symm)) hb); replace aE := am_ (Kd.N_below (Kd.N_elderB au7_0 al (Nat.le_of_eq hg.symm)) hb); replace bM := am_ (Kd.V_below (Kd.V_elderB au7_3 al (Nat.le_of_eq hg.symm)) hb); replace bN := am_ (Kd.V_below (Kd.V_elderB au7_4 al (Nat.le_of_eq hg.symm)) hb); replace eO := am_ (Kd.N_below (Kd.N_elderB au7_11 al (Nat.le_of_eq hg.symm)) hb); replace jb := am_ (Kd.C_below au7_13 hb); replace pq := am_ (Kd.C_below au7_14 hb); replace pr := am_ (Kd.C_below au7_24 hb); have aG := am_ (hbox); have XX := am_ (gw_ hg bl_); have b1T := XX; replace HB := hs_ w hb; have n1 := am_ (gn_ hg (blkl_ az)); have n2 := am_ (gm_ hg (blkl_ az)); replace az := bb_ az hb; clear hb hbox hg; have Vp := n2.out; have Vq := n1.out; obtain ⟨sf, sg, sh, si⟩ := cellsF2 aG.out))
       have bI : Aside0 (Kd.N k52 52 ((AP.setCell ⟨al, 0, none⟩ (.string ((rd_T52 ak (ax)).f0))).setCell ⟨al, 1, none⟩ (.slice b9 bO.length ca)) w.heap.size (fun k_ => some k_ ≠ (.slice aU aC.length aT : Value).ownBlock ∧ some k_ ≠ (.slice b9 bO.length ca : Value).ownBlock ∧ k_ ≠ aq ∧ k_ ≠ al) (.slice (some aX) ak.length bv) ak) := ⟨by (with_reducible repeat (first | apply Kd.N_alloc | apply Kd.N_drewN | apply Kd.N_drew)); exact Kd.N_mono (Kd.N_far (p := ⟨al, 1, none⟩) (Kd.N_far (p := ⟨al, 0, none⟩) (Kd.N_mono dv.out (fun k_ hk => (⟨hk, hk.2⟩ : _ ∧ k_ ≠ al))) (fun _ hk => hk.2) (.string ((rd_T52 ak (ax)).f0))) (fun _ hk => hk.2) (.slice b9 bO.length ca)) (fun _ hk => ⟨hk.1.1.1.1.1, ⟨hk.1.1.2, ⟨hk.1.1.1.1.2, hk.1.2⟩⟩⟩)⟩
       have bZ : Aside0 (Kd.N k83 83 ((AP.setCell ⟨al, 0, none⟩ (.string ((rd_T52 ak (ax)).f0))).setCell ⟨al, 1, none⟩ (.slice b9 bO.length ca)) w.heap.size (fun k_ => some k_ ≠ (.slice (some aX) ak.length bv : Value).ownBlock ∧ some k_ ≠ (.slice b9 bO.length ca : Value).ownBlock ∧ k_ ≠ aq ∧ k_ ≠ al) (.slice aU aC.length aT) aC) := ⟨by (with_reducible repeat (first | apply Kd.N_alloc | apply Kd.N_drewN | apply Kd.N_drew)); exact Kd.N_mono (Kd.N_far (p := ⟨al, 1, none⟩) (Kd.N_far (p := ⟨al, 0, none⟩) (Kd.N_mono aE.out (fun k_ hk => (⟨hk, hk.2⟩ : _ ∧ k_ ≠ al))) (fun _ hk => hk.2) (.string ((rd_T52 ak (ax)).f0))) (fun _ hk => hk.2) (.slice b9 bO.length ca)) (fun _ hk => ⟨hk.1.1.1.1.1, ⟨hk.1.1.2, ⟨hk.1.1.1.1.2, hk.1.2⟩⟩⟩)⟩
       have n2_ : Aside0 (Kd.V k55 55 ((AP.setCell ⟨al, 0, none⟩ (.string ((rd_T52 ak (ax)).f0))).setCell ⟨al, 1, none⟩ (.slice b9 bO.length ca)) w.heap.size (fun k_ => some k_ ≠ (.slice (some aX) ak.length bv : Value).ownBlock ∧ some k_ ≠ (.slice aU aC.length aT : Value).ownBlock ∧ some k_ ≠ (.slice b9 bO.length ca : Value).ownBlock ∧ k_ ≠ aq ∧ k_ ≠ al) (.slice (some Fi) ((rd_T52 ak ax).f1).length wt) ((rd_T52 ak ax).f1)) := ⟨by (with_reducible repeat (first | apply Kd.V_alloc | apply Kd.V_drewN | apply Kd.V_drew)); exact Kd.V_mono (Kd.V_far (p := ⟨al, 1, none⟩) (Kd.V_far (p := ⟨al, 0, none⟩) (Kd.V_mono bM.out (fun k_ hk => (⟨hk, hk.2⟩ : _ ∧ k_ ≠ al))) (fun _ hk => hk.2) (.string ((rd_T52 ak (ax)).f0))) (fun _ hk => hk.2) (.slice b9 bO.length ca)) (fun _ hk => ⟨hk.1.1.1.2, ⟨hk.1.1.1.1.1.1, ⟨hk.1.1.2, ⟨hk.1.1.1.1.1.2, hk.1.2⟩⟩⟩⟩)⟩
       have cD : Aside0 (Kd.V Kd.string 9 ((AP.setCell ⟨al, 0, none⟩ (.string ((rd_T52 ak (ax)).f0))).setCell ⟨al, 1, none⟩ (.slice b9 bO.length ca)) w.heap.size (fun k_ => some k_ ≠ (.slice (some aX) ak.length bv : Value).ownBlock ∧ some k_ ≠ (.slice aU aC.length aT : Value).ownBlock ∧ some k_ ≠ (.slice b9 bO.length ca : Value).ownBlock ∧ k_ ≠ aq ∧ k_ ≠ al) (.slice qq ((rd_T55 ((rd_T52 ak ax).f1) 1).f0).length qr) ((rd_T55 ((rd_T52 ak ax).f1) 1).f0)) := ⟨by (with_reducible repeat (first | apply Kd.V_alloc | apply Kd.V_drewN | apply Kd.V_drew)); exact Kd.V_mono (Kd.V_far (p := ⟨al, 1, none⟩) (Kd.V_far (p := ⟨al, 0, none⟩) (Kd.V_mono bN.out (fun k_ hk => (⟨hk, hk.2⟩ : _ ∧ k_ ≠ al))) (fun _ hk => hk.2) (.string ((rd_T52 ak (ax)).f0))) (fun _ hk => hk.2) (.slice b9 bO.length ca)) (fun _ hk => ⟨hk.1.1.1.2, ⟨hk.1.1.1.1.1.1, ⟨hk.1.1.2, ⟨hk.1.1.1.1.1.2, hk.1.2⟩⟩⟩⟩)⟩
       have ji : Aside0 (Kd.N k55 55 ((AP.setCell ⟨al, 0, none⟩ (.string ((rd_T52 ak (ax)).f0))).setCell ⟨al, 1, none⟩ (.slice b9 bO.length ca)) w.heap.size (fun k_ => some k_ ≠ (.slice (some aX) ak.length bv : Value).ownBlock ∧ some k_ ≠ (.slice aU aC.length aT : Value).ownBlock ∧ k_ ≠ aq ∧ k_ ≠ al) (.slice b9 bO.length ca) bO) := ⟨by (with_reducible repeat (first | apply Kd.N_alloc | apply Kd.N_drewN | apply Kd.N_drew)); exact Kd.N_mono (Kd.N_far (p := ⟨al, 1, none⟩) (Kd.N_far (p := ⟨al, 0, none⟩) (Kd.N_mono eO.out (fun k_ hk => (⟨hk, hk.2⟩ : _ ∧ k_ ≠ al))) (fun _ hk => hk.2) (.string ((rd_T52 ak (ax)).f0))) (fun _ hk => hk.2) (.slice b9 bO.length ca)) (fun _ hk => ⟨hk.1.1.1, ⟨hk.1.1.2.1, ⟨hk.1.1.2.2, hk.1.2⟩⟩⟩)⟩
       have jj : Aside0 (((AP.setCell ⟨al, 0, none⟩ (.string ((rd_T52 ak (ax)).f0))).setCell ⟨al, 1, none⟩ (.slice b9 bO.length ca)).heap[aq]? = some (.cells #[.string cr, .string cK, .int .i64 cL, .slice aU aC.length aT] 29 (0, 0))) := ⟨bf_ az⟩
       have nv : Aside0 (((AP.setCell ⟨al, 0, none⟩ (.string ((rd_T52 ak (ax)).f0))).setCell ⟨al, 1, none⟩ (.slice b9 bO.length ca)).heap[al]? = some (.cells #[.string ((rd_T52 ak (ax)).f0), .slice b9 bO.length ca] 52 (0, 0))) := ⟨bq_ aG⟩
       have qw : Aside0 (Below w.heap.size w ((AP.setCell ⟨al, 0, none⟩ (.string ((rd_T52 ak (ax)).f0))).setCell ⟨al, 1, none⟩ (.slice b9 bO.length ca))) := ⟨bl_⟩
       (try clear dv)
       (try clear aE)
       (try clear bM)
       (try clear bN)
       (try clear eO)
       (try clear az)
       (try clear aG)
       (try clear HB)
       generalize ((AP.setCell ⟨al, 0, none⟩ (.string ((rd_T52 ak (ax)).f0))).setCell ⟨al, 1, none⟩ (.slice b9 bO.length ca)) = Y6 at bI bZ n2_ cD ji jj nv qw ⊢
       have dv := bI
       have aE := bZ
       have bM := n2_
       have bN := cD
       have eO := ji
       have az := jj
       have aG := nv
       have HB := qw
       clear bI bZ n2_ cD ji jj nv qw
       replace dv := am_ (Kd.N_drew dv.out)
       replace aE := am_ (Kd.N_drew aE.out)
       replace bM := am_ (Kd.V_drew bM.out)
       replace bN := am_ (Kd.V_drew bN.out)
       replace eO := am_ (Kd.N_drew eO.out)
       replace az := bd_ az
       replace aG := bd_ aG
       replace HB := am_ (below_drew1 HB.out)
       have XY : (ax : Int) ≤ ((ak.length : Int) : Int) := od_
       obtain ⟨b6C, KN, _, XZ, _⟩ := info_parts info52
       have zM : ak.length ≤ bv := (Kd.N_reads' dv.out).2.1
       have X0 : Kd.F k52 _ _ (some aX) ak.length ak := (Kd.V_at (base := w.heap.size) (Kd.N_V dv.out)).2.2
       have Oo := cut_to (P := Tryd.prog) 38 52 .i64 Tryd.underlying38 KN (some aX) ak.length bv ax (of_decide_eq_true as_) XY zM
       have Oq := Kd.F_take (m := (ax : Int).toNat) X0 (by omega)
       have Ot : gn.length = (ax : Int).toNat := (by rw [KM.out, List.length_take]; omega)
       rw [← KM.out] at Oq
       rw [← Ot] at Oo
       have eN := am_ (show Kd.V k52 52 _ w.heap.size _ (.slice (some aX) gn.length bv) gn from Kd.V_mk (by omega) Oq)
       have b1U := am_ (show gn.length ≤ bv from by omega)
       clear Oq X0 zM KN XZ
       have b6D := am_ Ot
       clear Ot
       replace XY := eq_true XY
       refine start_ (n := 9) (S := fun w' => w'.cell? ⟨al, 0, none⟩ = some (.string ((rd_T52 ak (ax)).f0)) ∧ w'.cell? ⟨al, 1, none⟩ = some (.slice b9 bO.length ca)) (ds := []) (bs 9 0) (by kernel_rfl) rfl rfl ⟨(blk_cell aG.out 0).trans rfl, (blk_cell aG.out 1).trans rfl⟩ (fun hHeld => ?_); refine with_tabW F5.tab15 F5.bits15 (fun HT_ HW_ => ?_)
       generalize Y6.drew = w46 at dv aE bM bN eO az aG HB eN hHeld ⊢
       refine pu_ 1 71 (bs 9 2) HT_ ?_ rfl rfl
       refine pu_ 2 72 (bs 9 6) HT_ ?_ rfl rfl
       refine pu_ 3 73 (bs 9 14) HT_ ?_ rfl rfl
       refine tk_ 5 75 (bs 9 46) HT_ HW_ hHeld (by rintro w' ⟨s0, s1⟩; go_simp; with_reducible rfl) ?_ rfl rfl
       refine join_ (σ := Value × Value × Value) 2 (bs 9 127) (fun s_ => [(70, s_.1), (74, s_.2.1), (76, s_.2.2)]) (fun s_ w' => (w'.cell? ⟨al, 0, none⟩ = some (.string ((rd_T52 ak (ax)).f0)) ∧ w'.cell? ⟨al, 1, none⟩ = some (.slice b9 bO.length ca)) ∧ (Kd.V k55 55 w' w.heap.size (fun k_ => some k_ ≠ (s_.2.1 : Value).ownBlock ∧ some k_ ≠ (s_.2.2 : Value).ownBlock ∧ some k_ ≠ (.slice aU aC.length aT : Value).ownBlock ∧ some k_ ≠ (.slice (some aX) ak.length bv : Value).ownBlock ∧ k_ ≠ aq ∧ k_ ≠ al) (.slice (some Fi) ((rd_T52 ak ax).f1).length wt) ((rd_T52 ak ax).f1)) ∧ (Kd.V Kd.string 9 w' w.heap.size (fun k_ => some k_ ≠ (s_.2.1 : Value).ownBlock ∧ some k_ ≠ (s_.2.2 : Value).ownBlock ∧ some k_ ≠ (.slice aU aC.length aT : Value).ownBlock ∧ some k_ ≠ (.slice (some aX) ak.length bv : Value).ownBlock ∧ k_ ≠ aq ∧ k_ ≠ al) (.slice qq ((rd_T55 ((rd_T52 ak ax).f1) 1).f0).length qr) ((rd_T55 ((rd_T52 ak ax).f1) 1).f0)) ∧ (Kd.V k52 52 w' w.heap.size (fun k_ => some k_ ≠ (s_.2.1 : Value).ownBlock ∧ some k_ ≠ (s_.2.2 : Value).ownBlock ∧ some k_ ≠ (.slice aU aC.length aT : Value).ownBlock ∧ k_ ≠ aq ∧ k_ ≠ al) (.slice (some aX) gn.length bv) gn) ∧ (Kd.N k52 52 w' w.heap.size (fun k_ => some k_ ≠ (s_.2.2 : Value).ownBlock ∧ some k_ ≠ (.slice aU aC.length aT : Value).ownBlock ∧ k_ ≠ aq ∧ k_ ≠ al) s_.2.1 iy) ∧ (Kd.N k52 52 w' w.heap.size (fun k_ => some k_ ≠ (s_.2.1 : Value).ownBlock ∧ some k_ ≠ (.slice aU aC.length aT : Value).ownBlock ∧ some k_ ≠ (.slice (some aX) ak.length bv : Value).ownBlock ∧ k_ ≠ aq ∧ k_ ≠ al) s_.2.2 eh) ∧ (Kd.N k83 83 w' w.heap.size (fun k_ => some k_ ≠ (s_.2.1 : Value).ownBlock ∧ some k_ ≠ (s_.2.2 : Value).ownBlock ∧ some k_ ≠ (.slice (some aX) ak.length bv : Value).ownBlock ∧ k_ ≠ aq ∧ k_ ≠ al) (.slice aU aC.length aT) aC) ∧ (Kd.N k52 52 w' w.heap.size (fun k_ => some k_ ≠ (s_.2.1 : Value).ownBlock ∧ some k_ ≠ (s_.2.2 : Value).ownBlock ∧ some k_ ≠ (.slice aU aC.length aT : Value).ownBlock ∧ k_ ≠ aq ∧ k_ ≠ al) (.slice (some aX) ak.length bv) ak) ∧ (w'.heap[aq]? = some (.cells #[.string cr, .string cK, .int .i64 cL, .slice aU aC.length aT] 29 (0, 0))) ∧ (w'.heap[al]? = some (.cells #[.string ((rd_T52 ak (ax)).f0), .slice b9 bO.length ca] 52 (0, 0))) ∧ (Below w.heap.size w w')) ?_ ?_
       rotate_left
       ·intro hCont
        refine two_ (i := 0) (j := 6) (Ni := some 70) (Nj := some 76) (bs 9 47) (bs 9 110) rfl rfl rfl rfl (two_of HT_.out (by kernel_rfl)) (by decide) (by decide) (fun K hK => ?_) (fun K hK => ?_)
        rotate_left
        ·skip
         refine Kd.N_lit_step k52 _ 52 ?hg (N' := 76) ?hd (xs := ([(⟨((rd_T52 ak (ax)).f0), bO⟩ : S52)] : List (S52))) (inner := [.string ((rd_T52 ak (ax)).f0), .slice b9 bO.length ca]) (ok := (fun k_ => some k_ ≠ (.slice (some aX) ak.length bv : Value).ownBlock ∧ some k_ ≠ (.slice aU aC.length aT : Value).ownBlock ∧ k_ ≠ aq ∧ k_ ≠ al)) (okp := (fun k_ => some k_ ≠ (.slice (some aX) ak.length bv : Value).ownBlock ∧ some k_ ≠ (.slice aU aC.length aT : Value).ownBlock ∧ k_ ≠ aq ∧ k_ ≠ al)) ?hr ?hp (fun _ hk => hk) ((show ∀ k_, w46.heap.size ≤ k_ → (fun k_ => some k_ ≠ (.slice (some aX) ak.length bv : Value).ownBlock ∧ some k_ ≠ (.slice aU aC.length aT : Value).ownBlock ∧ k_ ≠ aq ∧ k_ ≠ al) k_ from fun k_ hk => ⟨Kd.fresh' (Kd.N_lt au7_1) k_ hk, Kd.fresh' (Kd.N_lt au7_0) k_ hk, Kd.freshB (g := aq) (o := .cells #[.string cr, .string cK, .int .i64 cL, .slice aU aC.length aT] 29 (0, 0)) (bk_ az) k_ hk, Kd.freshB (g := al) (o := .cells #[.string ((rd_T52 ak (ax)).f0), .slice b9 bO.length ca] 52 (0, 0)) (bk_ aG) k_ hk⟩) _ (Nat.le_refl _)) (Below.refl _ _) (Nat.le_refl _) (by simp) ?_; (case hd => rfl); (case hg => rfl); (case hr => exact hr_); (case hp => exact (Reps.c2 (show Kd.FK k52 _ _ (⟨((rd_T52 ak (ax)).f0), bO⟩ : S52) [.string ((rd_T52 ak (ax)).f0), .slice b9 bO.length ca] from (k52_mkF _ _ (⟨((rd_T52 ak (ax)).f0), bO⟩ : S52) (Kd.N_reads' (Kd.N_mono (ok' := (fun k_ => some k_ ≠ (.slice (some aX) ak.length bv : Value).ownBlock ∧ some k_ ≠ (.slice aU aC.length aT : Value).ownBlock ∧ k_ ≠ aq ∧ k_ ≠ al)) (eO.out) (fun k_ hk => ⟨hk.1, ⟨hk.2.1, ⟨hk.2.2.1, hk.2.2.2⟩⟩⟩))).2.1 (Kd.N_F (Kd.N_mono (ok' := (fun k_ => some k_ ≠ (.slice (some aX) ak.length bv : Value).ownBlock ∧ some k_ ≠ (.slice aU aC.length aT : Value).ownBlock ∧ k_ ≠ aq ∧ k_ ≠ al)) (eO.out) (fun k_ hk => ⟨hk.1, ⟨hk.2.1, ⟨hk.2.2.1, hk.2.2.2⟩⟩⟩))))) (Reps.none _ _)))
         intro eP Zp iE hb hg_ hnew_
         clear hg_ hnew_
         (first | rw [← rm.out] at iE | (simp only [Int.reduceToNat] at iE; rw [← rm.out] at iE))
         replace dv := am_ (Kd.N_elder' au7_1 (Kd.N_base iE) hb)
         replace aE := am_ (Kd.N_elder' au7_0 (Kd.N_base iE) hb)
         replace bM := am_ (Kd.V_elder' au7_3 (Kd.N_base iE) hb)
         replace bN := am_ (Kd.V_elder' au7_4 (Kd.N_base iE) hb)
         replace eN := am_ (Kd.V_elder' au7_7 (Kd.N_base iE) hb)
         have iw := am_ (Kd.N_lower iE (below_size bl_))
         replace az := bb_ az hb
         replace aG := bb_ aG hb
         replace HB := am_ (below_step bl_ hb)
         clear eO
         clear hb iE
         refine hK.out _ _ ⟨(blk_cell aG.out 0).trans rfl, (blk_cell aG.out 1).trans rfl⟩ (fun hHeld => ?_)
         clear hK K
         refine no_ 76 ?_
         refine one_ (i := 0) (N := some 70) (bs 9 111) rfl rfl (one_of HT_.out (by kernel_rfl)) (by decide) (fun K hK => ?_)
         refine Kd.N_lit_step k52 _ 52 ?hg (N' := 70) ?hd (xs := ([] : List (S52))) (inner := []) (ok := (fun k_ => some k_ ≠ (.slice (some aX) ak.length bv : Value).ownBlock ∧ some k_ ≠ (.slice aU aC.length aT : Value).ownBlock ∧ some k_ ≠ (eP : Value).ownBlock ∧ k_ ≠ aq ∧ k_ ≠ al)) (okp := (fun k_ => some k_ ≠ (.slice (some aX) ak.length bv : Value).ownBlock ∧ some k_ ≠ (.slice aU aC.length aT : Value).ownBlock ∧ some k_ ≠ (eP : Value).ownBlock ∧ k_ ≠ aq ∧ k_ ≠ al)) ?hr ?hp (fun _ hk => hk) ((show ∀ k_, Zp.heap.size ≤ k_ → (fun k_ => some k_ ≠ (.slice (some aX) ak.length bv : Value).ownBlock ∧ some k_ ≠ (.slice aU aC.length aT : Value).ownBlock ∧ some k_ ≠ (eP : Value).ownBlock ∧ k_ ≠ aq ∧ k_ ≠ al) k_ from fun k_ hk => ⟨Kd.fresh' (Kd.N_lt au7_1) k_ hk, Kd.fresh' (Kd.N_lt au7_0) k_ hk, Kd.fresh' (Kd.N_lt au7_8) k_ hk, Kd.freshB (g := aq) (o := .cells #[.string cr, .string cK, .int .i64 cL, .slice aU aC.length aT] 29 (0, 0)) (bk_ az) k_ hk, Kd.freshB (g := al) (o := .cells #[.string ((rd_T52 ak (ax)).f0), .slice b9 bO.length ca] 52 (0, 0)) (bk_ aG) k_ hk⟩) _ (Nat.le_refl _)) (Below.refl _ _) (Nat.le_refl _) (by simp) ?_; (case hd => rfl); (case hg => rfl); (case hr => exact hr_); (case hp => exact (Reps.none _ _))
         intro j8 w50 iz hb hg_ hnew_
         clear hg_ hnew_
         (first | rw [← zG.out] at iz | (simp only [Int.reduceToNat] at iz; rw [← zG.out] at iz))
         replace dv := am_ (Kd.N_elder' au7_1 (Kd.N_base iz) hb)
         replace aE := am_ (Kd.N_elder' au7_0 (Kd.N_base iz) hb)
         replace bM := am_ (Kd.V_elder' au7_3 (Kd.N_base iz) hb)
         replace bN := am_ (Kd.V_elder' au7_4 (Kd.N_base iz) hb)
         replace eN := am_ (Kd.V_elder' au7_7 (Kd.N_base iz) hb)
         replace iw := am_ (Kd.N_elder' au7_8 (Kd.N_base iz) hb)
         have jc := am_ (Kd.N_lower iz (below_size bl_))
         replace az := bb_ az hb
         replace aG := bb_ aG hb
         replace HB := hs_ w hb
         clear hb iz
         refine hK.out _ _ ⟨(blk_cell aG.out 0).trans rfl, (blk_cell aG.out 1).trans rfl⟩ (fun hHeld => ?_)
         clear hK K
         refine no_ 70 ?_
         refine one_ (i := 4) (N := some 74) (bs 9 127) rfl rfl (one_of HT_.out (by kernel_rfl)) (by decide) (fun K hK => ?_)
         refine Kd.N_append_rows_step k52 (w0 := w) w.heap.size (by rfl) (.tmp 70) (.tmp 73) 38 52 (.agg #[(.string ⟨#[]⟩), (.slice none 0 0)]) 40 rfl Tryd.underlying38 info52 rfl (by decide) (by omega) j8 kM gn _ _ _ (fun k_ => some k_ ≠ (.slice aU aC.length aT : Value).ownBlock ∧ some k_ ≠ (eP : Value).ownBlock ∧ k_ ≠ aq ∧ k_ ≠ al) (fun k_ => ((fun k_ => some k_ ≠ (.slice aU aC.length aT : Value).ownBlock ∧ some k_ ≠ (eP : Value).ownBlock ∧ k_ ≠ aq ∧ k_ ≠ al)) k_ ∧ some k_ ≠ (j8 : Value).ownBlock) rfl rfl ?aO ?aR (fun _ hk => hk) ?aF ?aB ?aS ?aL ?_
         (case aR => exact (by skip; exact Kd.V_F (Kd.V_mono (ok' := (fun k_ => ((fun k_ => some k_ ≠ (.slice aU aC.length aT : Value).ownBlock ∧ some k_ ≠ (eP : Value).ownBlock ∧ k_ ≠ aq ∧ k_ ≠ al)) k_ ∧ some k_ ≠ (j8 : Value).ownBlock)) (eN.out) (fun k_ hk => ⟨⟨hk.1.1.1, ⟨hk.1.2, ⟨hk.1.1.2.2.1, hk.1.1.2.2.2⟩⟩⟩, hk.2⟩))))
         (case aB => exact bl_)
         (case aF => exact au7_16)
         (case aO => exact au7_26)
         (case aS => exact (below_size bl_))
         (case aL => have := Fc.out; omega)
         intro gz w52 ho hb hg hat
         rw [← Fe.out] at ho
         replace dv := am_ (Kd.N_afterv (ok := (fun k_ => some k_ ≠ (.slice aU aC.length aT : Value).ownBlock ∧ some k_ ≠ (eP : Value).ownBlock ∧ k_ ≠ aq ∧ k_ ≠ al)) (by (with_reducible repeat (first | apply Kd.N_alloc | apply Kd.N_drewN | apply Kd.N_drew)); exact Kd.N_mono dv.out (fun _ hk => ⟨⟨hk.1.1.1, ⟨hk.1.2, ⟨hk.1.1.2.2.1, hk.1.1.2.2.2⟩⟩⟩, hk.2⟩)) hg hat)
         replace aE := am_ (Kd.N_afterv (ok := (fun k_ => some k_ ≠ (.slice (some aX) ak.length bv : Value).ownBlock ∧ some k_ ≠ (eP : Value).ownBlock ∧ k_ ≠ aq ∧ k_ ≠ al)) (by (with_reducible repeat (first | apply Kd.N_alloc | apply Kd.N_drewN | apply Kd.N_drew)); exact Kd.N_mono aE.out (fun _ hk => ⟨⟨hk.1.1.1, ⟨hk.1.2, ⟨hk.1.1.2.2.1, hk.1.1.2.2.2⟩⟩⟩, hk.2⟩)) hg hat)
         replace az := am_ (bg_ az hg (Kd.N_ne jc.out az.out (by decide)))
         replace bM := am_ (Kd.V_afterv (ok := (fun k_ => some k_ ≠ (.slice (some aX) ak.length bv : Value).ownBlock ∧ some k_ ≠ (.slice aU aC.length aT : Value).ownBlock ∧ some k_ ≠ (eP : Value).ownBlock ∧ k_ ≠ aq ∧ k_ ≠ al)) (by (with_reducible repeat (first | apply Kd.V_alloc | apply Kd.V_drewN | apply Kd.V_drew)); exact Kd.V_mono bM.out (fun _ hk => ⟨⟨hk.1.1.1, ⟨hk.1.1.2.1, ⟨hk.1.2, ⟨hk.1.1.2.2.2.1, hk.1.1.2.2.2.2⟩⟩⟩⟩, hk.2⟩)) hg hat)
         replace bN := am_ (Kd.V_afterv (ok := (fun k_ => some k_ ≠ (.slice (some aX) ak.length bv : Value).ownBlock ∧ some k_ ≠ (.slice aU aC.length aT : Value).ownBlock ∧ some k_ ≠ (eP : Value).ownBlock ∧ k_ ≠ aq ∧ k_ ≠ al)) (by (with_reducible repeat (first | apply Kd.V_alloc | apply Kd.V_drewN | apply Kd.V_drew)); exact Kd.V_mono bN.out (fun _ hk => ⟨⟨hk.1.1.1, ⟨hk.1.1.2.1, ⟨hk.1.2, ⟨hk.1.1.2.2.2.1, hk.1.1.2.2.2.2⟩⟩⟩⟩, hk.2⟩)) hg hat)
         replace aG := am_ (bg_ aG hg (Kd.N_away jc.out (fun _ hk => hk.2.2.2.2)))
         replace eN := am_ (Kd.V_afterv (ok := (fun k_ => some k_ ≠ (.slice aU aC.length aT : Value).ownBlock ∧ some k_ ≠ (eP : Value).ownBlock ∧ k_ ≠ aq ∧ k_ ≠ al)) (by (with_reducible repeat (first | apply Kd.V_alloc | apply Kd.V_drewN | apply Kd.V_drew)); exact Kd.V_mono eN.out (fun _ hk => ⟨⟨hk.1.1.1, ⟨hk.1.2, ⟨hk.1.1.2.2.1, hk.1.1.2.2.2⟩⟩⟩, hk.2⟩)) hg hat)
         replace iw := am_ (Kd.N_afterv (ok := (fun k_ => some k_ ≠ (.slice (some aX) ak.length bv : Value).ownBlock ∧ some k_ ≠ (.slice aU aC.length aT : Value).ownBlock ∧ k_ ≠ aq ∧ k_ ≠ al)) au7_8 hg hat)
         replace HB := am_ (hb)
         have bH := am_ (ho)
         clear jc
         clear ho hb hg hat
         refine hK.out _ _ ⟨(blk_cell aG.out 0).trans rfl, (blk_cell aG.out 1).trans rfl⟩ (fun hHeld => ?_)
         clear hK K
         refine no_ 74 ?_
         exact norm_ au7_27 (hCont (j8, gz, eP) _ ⟨hHeld, au7_22, au7_23, au7_28, au7_33, au7_29, au7_25, au7_30, (bk_ az), (bk_ aG), bl_⟩)
        skip
        refine Kd.N_lit_step k52 _ 52 ?hg (N' := 70) ?hd (xs := ([] : List (S52))) (inner := []) (ok := (fun k_ => some k_ ≠ (.slice (some aX) ak.length bv : Value).ownBlock ∧ some k_ ≠ (.slice aU aC.length aT : Value).ownBlock ∧ some k_ ≠ (.slice b9 bO.length ca : Value).ownBlock ∧ k_ ≠ aq ∧ k_ ≠ al)) (okp := (fun k_ => some k_ ≠ (.slice (some aX) ak.length bv : Value).ownBlock ∧ some k_ ≠ (.slice aU aC.length aT : Value).ownBlock ∧ some k_ ≠ (.slice b9 bO.length ca : Value).ownBlock ∧ k_ ≠ aq ∧ k_ ≠ al)) ?hr ?hp (fun _ hk => hk) ((show ∀ k_, w46.heap.size ≤ k_ → (fun k_ => some k_ ≠ (.slice (some aX) ak.length bv : Value).ownBlock ∧ some k_ ≠ (.slice aU aC.length aT : Value).ownBlock ∧ some k_ ≠ (.slice b9 bO.length ca : Value).ownBlock ∧ k_ ≠ aq ∧ k_ ≠ al) k_ from fun k_ hk => ⟨Kd.fresh' (Kd.N_lt au7_1) k_ hk, Kd.fresh' (Kd.N_lt au7_0) k_ hk, Kd.fresh' (Kd.N_lt au7_11) k_ hk, Kd.freshB (g := aq) (o := .cells #[.string cr, .string cK, .int .i64 cL, .slice aU aC.length aT] 29 (0, 0)) (bk_ az) k_ hk, Kd.freshB (g := al) (o := .cells #[.string ((rd_T52 ak (ax)).f0), .slice b9 bO.length ca] 52 (0, 0)) (bk_ aG) k_ hk⟩) _ (Nat.le_refl _)) (Below.refl _ _) (Nat.le_refl _) (by simp) ?_; (case hd => rfl); (case hg => rfl); (case hr => exact hr_); (case hp => exact (Reps.none _ _))
        intro j8 Zp iE hb hg_ hnew_
        clear hg_ hnew_
        (first | rw [← zG.out] at iE | (simp only [Int.reduceToNat] at iE; rw [← zG.out] at iE))
        replace dv := am_ (Kd.N_elder' au7_1 (Kd.N_base iE) hb)
        replace aE := am_ (Kd.N_elder' au7_0 (Kd.N_base iE) hb)
        replace bM := am_ (Kd.V_elder' au7_3 (Kd.N_base iE) hb)
        replace bN := am_ (Kd.V_elder' au7_4 (Kd.N_base iE) hb)
        replace eO := am_ (Kd.N_elder' au7_11 (Kd.N_base iE) hb)
        replace eN := am_ (Kd.V_elder' au7_7 (Kd.N_base iE) hb)
        have jc := am_ (Kd.N_lower iE (below_size bl_))
        replace az := bb_ az hb
        replace aG := bb_ aG hb
        replace HB := hs_ w hb
        clear hb iE
        refine hK.out _ _ ⟨(blk_cell aG.out 0).trans rfl, (blk_cell aG.out 1).trans rfl⟩ (fun hHeld => ?_)
        clear hK K
        refine no_ 70 ?_
        refine two_ (i := 4) (j := 6) (Ni := some 74) (Nj := some 76) (bs 9 63) (bs 9 111) rfl rfl rfl rfl (two_of HT_.out (by kernel_rfl)) (by decide) (by decide) (fun K hK => ?_) (fun K hK => ?_)
        rotate_left
        ·skip
         refine Kd.N_lit_step k52 _ 52 ?hg (N' := 76) ?hd (xs := ([(⟨((rd_T52 ak (ax)).f0), bO⟩ : S52)] : List (S52))) (inner := [.string ((rd_T52 ak (ax)).f0), .slice b9 bO.length ca]) (ok := (fun k_ => some k_ ≠ (.slice (some aX) ak.length bv : Value).ownBlock ∧ some k_ ≠ (.slice aU aC.length aT : Value).ownBlock ∧ some k_ ≠ (j8 : Value).ownBlock ∧ k_ ≠ aq ∧ k_ ≠ al)) (okp := (fun k_ => some k_ ≠ (.slice (some aX) ak.length bv : Value).ownBlock ∧ some k_ ≠ (.slice aU aC.length aT : Value).ownBlock ∧ some k_ ≠ (j8 : Value).ownBlock ∧ k_ ≠ aq ∧ k_ ≠ al)) ?hr ?hp (fun _ hk => hk) ((show ∀ k_, Zp.heap.size ≤ k_ → (fun k_ => some k_ ≠ (.slice (some aX) ak.length bv : Value).ownBlock ∧ some k_ ≠ (.slice aU aC.length aT : Value).ownBlock ∧ some k_ ≠ (j8 : Value).ownBlock ∧ k_ ≠ aq ∧ k_ ≠ al) k_ from fun k_ hk => ⟨Kd.fresh' (Kd.N_lt au7_1) k_ hk, Kd.fresh' (Kd.N_lt au7_0) k_ hk, Kd.fresh' (Kd.N_lt au7_36) k_ hk, Kd.freshB (g := aq) (o := .cells #[.string cr, .string cK, .int .i64 cL, .slice aU aC.length aT] 29 (0, 0)) (bk_ az) k_ hk, Kd.freshB (g := al) (o := .cells #[.string ((rd_T52 ak (ax)).f0), .slice b9 bO.length ca] 52 (0, 0)) (bk_ aG) k_ hk⟩) _ (Nat.le_refl _)) (Below.refl _ _) (Nat.le_refl _) (by simp) ?_; (case hd => rfl); (case hg => rfl); (case hr => exact hr_); (case hp => exact (Reps.c2 (show Kd.FK k52 _ _ (⟨((rd_T52 ak (ax)).f0), bO⟩ : S52) [.string ((rd_T52 ak (ax)).f0), .slice b9 bO.length ca] from (k52_mkF _ _ (⟨((rd_T52 ak (ax)).f0), bO⟩ : S52) (Kd.N_reads' (Kd.N_mono (ok' := (fun k_ => some k_ ≠ (.slice (some aX) ak.length bv : Value).ownBlock ∧ some k_ ≠ (.slice aU aC.length aT : Value).ownBlock ∧ some k_ ≠ (j8 : Value).ownBlock ∧ k_ ≠ aq ∧ k_ ≠ al)) (eO.out) (fun k_ hk => ⟨hk.1.1, ⟨hk.1.2.1, ⟨hk.2, ⟨hk.1.2.2.1, hk.1.2.2.2⟩⟩⟩⟩))).2.1 (Kd.N_F (Kd.N_mono (ok' := (fun k_ => some k_ ≠ (.slice (some aX) ak.length bv : Value).ownBlock ∧ some k_ ≠ (.slice aU aC.length aT : Value).ownBlock ∧ some k_ ≠ (j8 : Value).ownBlock ∧ k_ ≠ aq ∧ k_ ≠ al)) (eO.out) (fun k_ hk => ⟨hk.1.1, ⟨hk.1.2.1, ⟨hk.2, ⟨hk.1.2.2.1, hk.1.2.2.2⟩⟩⟩⟩))))) (Reps.none _ _)))
         intro eP w50 iz hb hg_ hnew_
         clear hg_ hnew_
         (first | rw [← rm.out] at iz | (simp only [Int.reduceToNat] at iz; rw [← rm.out] at iz))
         replace dv := am_ (Kd.N_elder' au7_1 (Kd.N_base iz) hb)
         replace aE := am_ (Kd.N_elder' au7_0 (Kd.N_base iz) hb)
         replace bM := am_ (Kd.V_elder' au7_3 (Kd.N_base iz) hb)
         replace bN := am_ (Kd.V_elder' au7_4 (Kd.N_base iz) hb)
         replace eN := am_ (Kd.V_elder' au7_7 (Kd.N_base iz) hb)
         replace jc := am_ (Kd.N_elder' au7_36 (Kd.N_base iz) hb)
         have iw := am_ (Kd.N_lower iz (below_size bl_))
         replace az := bb_ az hb
         replace aG := bb_ aG hb
         replace HB := am_ (below_step bl_ hb)
         clear eO
         clear hb iz
         refine hK.out _ _ ⟨(blk_cell aG.out 0).trans rfl, (blk_cell aG.out 1).trans rfl⟩ (fun hHeld => ?_)
         clear hK K
         refine no_ 76 ?_
         refine one_ (i := 4) (N := some 74) (bs 9 127) rfl rfl (one_of HT_.out (by kernel_rfl)) (by decide) (fun K hK => ?_)
         refine Kd.N_append_rows_step k52 (w0 := w) w.heap.size (by rfl) (.tmp 70) (.tmp 73) 38 52 (.agg #[(.string ⟨#[]⟩), (.slice none 0 0)]) 40 rfl Tryd.underlying38 info52 rfl (by decide) (by omega) j8 kM gn _ _ _ (fun k_ => some k_ ≠ (.slice aU aC.length aT : Value).ownBlock ∧ some k_ ≠ (eP : Value).ownBlock ∧ k_ ≠ aq ∧ k_ ≠ al) (fun k_ => ((fun k_ => some k_ ≠ (.slice aU aC.length aT : Value).ownBlock ∧ some k_ ≠ (eP : Value).ownBlock ∧ k_ ≠ aq ∧ k_ ≠ al)) k_ ∧ some k_ ≠ (j8 : Value).ownBlock) rfl rfl ?aO ?aR (fun _ hk => hk) ?aF ?aB ?aS ?aL ?_
         (case aR => exact (by skip; exact Kd.V_F (Kd.V_mono (ok' := (fun k_ => ((fun k_ => some k_ ≠ (.slice aU aC.length aT : Value).ownBlock ∧ some k_ ≠ (eP : Value).ownBlock ∧ k_ ≠ aq ∧ k_ ≠ al)) k_ ∧ some k_ ≠ (j8 : Value).ownBlock)) (eN.out) (fun k_ hk => ⟨⟨hk.1.1.1, ⟨hk.2, ⟨hk.1.1.2.2.1, hk.1.1.2.2.2⟩⟩⟩, hk.1.2⟩))))
         (case aB => exact bl_)
         (case aF => exact au7_16)
         (case aO => exact (by (with_reducible repeat (first | apply Kd.N_alloc | apply Kd.N_drewN | apply Kd.N_drew)); exact Kd.N_mono jc.out (fun _ hk => ⟨hk.1.2.1, ⟨hk.2, ⟨hk.1.2.2.2.1, hk.1.2.2.2.2⟩⟩⟩)))
         (case aS => exact (below_size bl_))
         (case aL => have := Fc.out; omega)
         intro gz w52 ho hb hg hat
         rw [← Fe.out] at ho
         replace dv := am_ (Kd.N_afterv (ok := (fun k_ => some k_ ≠ (.slice aU aC.length aT : Value).ownBlock ∧ some k_ ≠ (eP : Value).ownBlock ∧ k_ ≠ aq ∧ k_ ≠ al)) (by (with_reducible repeat (first | apply Kd.N_alloc | apply Kd.N_drewN | apply Kd.N_drew)); exact Kd.N_mono dv.out (fun _ hk => ⟨⟨hk.1.1.1, ⟨hk.2, ⟨hk.1.1.2.2.1, hk.1.1.2.2.2⟩⟩⟩, hk.1.2⟩)) hg hat)
         replace aE := am_ (Kd.N_afterv (ok := (fun k_ => some k_ ≠ (.slice (some aX) ak.length bv : Value).ownBlock ∧ some k_ ≠ (eP : Value).ownBlock ∧ k_ ≠ aq ∧ k_ ≠ al)) (by (with_reducible repeat (first | apply Kd.N_alloc | apply Kd.N_drewN | apply Kd.N_drew)); exact Kd.N_mono aE.out (fun _ hk => ⟨⟨hk.1.1.1, ⟨hk.2, ⟨hk.1.1.2.2.1, hk.1.1.2.2.2⟩⟩⟩, hk.1.2⟩)) hg hat)
         replace az := am_ (bg_ az hg (Kd.N_ne jc.out az.out (by decide)))
         replace bM := am_ (Kd.V_afterv (ok := (fun k_ => some k_ ≠ (.slice (some aX) ak.length bv : Value).ownBlock ∧ some k_ ≠ (.slice aU aC.length aT : Value).ownBlock ∧ some k_ ≠ (eP : Value).ownBlock ∧ k_ ≠ aq ∧ k_ ≠ al)) (by (with_reducible repeat (first | apply Kd.V_alloc | apply Kd.V_drewN | apply Kd.V_drew)); exact Kd.V_mono bM.out (fun _ hk => ⟨⟨hk.1.1.1, ⟨hk.1.1.2.1, ⟨hk.2, ⟨hk.1.1.2.2.2.1, hk.1.1.2.2.2.2⟩⟩⟩⟩, hk.1.2⟩)) hg hat)
         replace bN := am_ (Kd.V_afterv (ok := (fun k_ => some k_ ≠ (.slice (some aX) ak.length bv : Value).ownBlock ∧ some k_ ≠ (.slice aU aC.length aT : Value).ownBlock ∧ some k_ ≠ (eP : Value).ownBlock ∧ k_ ≠ aq ∧ k_ ≠ al)) (by (with_reducible repeat (first | apply Kd.V_alloc | apply Kd.V_drewN | apply Kd.V_drew)); exact Kd.V_mono bN.out (fun _ hk => ⟨⟨hk.1.1.1, ⟨hk.1.1.2.1, ⟨hk.2, ⟨hk.1.1.2.2.2.1, hk.1.1.2.2.2.2⟩⟩⟩⟩, hk.1.2⟩)) hg hat)
         replace aG := am_ (bg_ aG hg (Kd.N_away jc.out (fun _ hk => hk.1.2.2.2.2)))
         replace eN := am_ (Kd.V_afterv (ok := (fun k_ => some k_ ≠ (.slice aU aC.length aT : Value).ownBlock ∧ some k_ ≠ (eP : Value).ownBlock ∧ k_ ≠ aq ∧ k_ ≠ al)) (by (with_reducible repeat (first | apply Kd.V_alloc | apply Kd.V_drewN | apply Kd.V_drew)); exact Kd.V_mono eN.out (fun _ hk => ⟨⟨hk.1.1.1, ⟨hk.2, ⟨hk.1.1.2.2.1, hk.1.1.2.2.2⟩⟩⟩, hk.1.2⟩)) hg hat)
         replace iw := am_ (Kd.N_afterv (ok := (fun k_ => some k_ ≠ (.slice (some aX) ak.length bv : Value).ownBlock ∧ some k_ ≠ (.slice aU aC.length aT : Value).ownBlock ∧ k_ ≠ aq ∧ k_ ≠ al)) (by (with_reducible repeat (first | apply Kd.N_alloc | apply Kd.N_drewN | apply Kd.N_drew)); exact Kd.N_mono iw.out (fun _ hk => ⟨⟨hk.1, ⟨hk.2.1, ⟨hk.2.2.2.1, hk.2.2.2.2⟩⟩⟩, hk.2.2.1⟩)) hg hat)
         replace HB := am_ (hb)
         have bH := am_ (ho)
         clear jc
         clear ho hb hg hat
         refine hK.out _ _ ⟨(blk_cell aG.out 0).trans rfl, (blk_cell aG.out 1).trans rfl⟩ (fun hHeld => ?_)
         clear hK K
         refine no_ 74 ?_
         exact norm_ au7_27 (hCont (j8, gz, eP) _ ⟨hHeld, au7_22, au7_23, au7_28, au7_33, au7_29, au7_25, au7_30, (bk_ az), (bk_ aG), bl_⟩)
        skip
        refine Kd.N_append_rows_step k52 (w0 := w) w.heap.size (by rfl) (.tmp 70) (.tmp 73) 38 52 (.agg #[(.string ⟨#[]⟩), (.slice none 0 0)]) 40 rfl Tryd.underlying38 info52 rfl (by decide) (by omega) j8 kM gn _ _ _ (fun k_ => some k_ ≠ (.slice aU aC.length aT : Value).ownBlock ∧ some k_ ≠ (.slice b9 bO.length ca : Value).ownBlock ∧ k_ ≠ aq ∧ k_ ≠ al) (fun k_ => ((fun k_ => some k_ ≠ (.slice aU aC.length aT : Value).ownBlock ∧ some k_ ≠ (.slice b9 bO.length ca : Value).ownBlock ∧ k_ ≠ aq ∧ k_ ≠ al)) k_ ∧ some k_ ≠ (j8 : Value).ownBlock) rfl rfl ?aO ?aR (fun _ hk => hk) ?aF ?aB ?aS ?aL ?_
        (case aR => exact (by skip; exact Kd.V_F (Kd.V_mono (ok' := (fun k_ => ((fun k_ => some k_ ≠ (.slice aU aC.length aT : Value).ownBlock ∧ some k_ ≠ (.slice b9 bO.length ca : Value).ownBlock ∧ k_ ≠ aq ∧ k_ ≠ al)) k_ ∧ some k_ ≠ (j8 : Value).ownBlock)) (eN.out) (fun k_ hk => ⟨⟨hk.1.1, ⟨hk.1.2.1, ⟨hk.1.2.2.1, hk.1.2.2.2⟩⟩⟩, hk.2⟩))))
        (case aB => exact bl_)
        (case aF => exact (fun k_ hk => ⟨Kd.fresh' (Kd.N_lt au7_0) k_ hk, Kd.fresh' (Kd.N_lt au7_11) k_ hk, Kd.freshB (g := aq) (o := .cells #[.string cr, .string cK, .int .i64 cL, .slice aU aC.length aT] 29 (0, 0)) (bk_ az) k_ hk, Kd.freshB (g := al) (o := .cells #[.string ((rd_T52 ak (ax)).f0), .slice b9 bO.length ca] 52 (0, 0)) (bk_ aG) k_ hk⟩))
        (case aO => exact au7_26)
        (case aS => exact (below_size bl_))
        (case aL => have := Fc.out; omega)
        intro gz w50 ho hb hg hat
        rw [← Fe.out] at ho
        replace dv := am_ (Kd.N_afterv (ok := (fun k_ => some k_ ≠ (.slice aU aC.length aT : Value).ownBlock ∧ some k_ ≠ (.slice b9 bO.length ca : Value).ownBlock ∧ k_ ≠ aq ∧ k_ ≠ al)) au7_1 hg hat)
        replace aE := am_ (Kd.N_afterv (ok := (fun k_ => some k_ ≠ (.slice (some aX) ak.length bv : Value).ownBlock ∧ some k_ ≠ (.slice b9 bO.length ca : Value).ownBlock ∧ k_ ≠ aq ∧ k_ ≠ al)) au7_0 hg hat)
        replace az := am_ (bg_ az hg (Kd.N_ne jc.out az.out (by decide)))
        replace bM := am_ (Kd.V_afterv (ok := (fun k_ => some k_ ≠ (.slice (some aX) ak.length bv : Value).ownBlock ∧ some k_ ≠ (.slice aU aC.length aT : Value).ownBlock ∧ some k_ ≠ (.slice b9 bO.length ca : Value).ownBlock ∧ k_ ≠ aq ∧ k_ ≠ al)) au7_3 hg hat)
        replace bN := am_ (Kd.V_afterv (ok := (fun k_ => some k_ ≠ (.slice (some aX) ak.length bv : Value).ownBlock ∧ some k_ ≠ (.slice aU aC.length aT : Value).ownBlock ∧ some k_ ≠ (.slice b9 bO.length ca : Value).ownBlock ∧ k_ ≠ aq ∧ k_ ≠ al)) au7_4 hg hat)
        replace eO := am_ (Kd.N_afterv (ok := (fun k_ => some k_ ≠ (.slice (some aX) ak.length bv : Value).ownBlock ∧ some k_ ≠ (.slice aU aC.length aT : Value).ownBlock ∧ k_ ≠ aq ∧ k_ ≠ al)) au7_11 hg hat)
        replace aG := am_ (bg_ aG hg (Kd.N_away jc.out (fun _ hk => hk.2.2.2.2)))
        replace eN := am_ (Kd.V_afterv (ok := (fun k_ => some k_ ≠ (.slice aU aC.length aT : Value).ownBlock ∧ some k_ ≠ (.slice b9 bO.length ca : Value).ownBlock ∧ k_ ≠ aq ∧ k_ ≠ al)) au7_7 hg hat)
        replace HB := am_ (hb)
        have bH := am_ (ho)
        clear jc
        clear ho hb hg hat
        refine hK.out _ _ ⟨(blk_cell aG.out 0).trans rfl, (blk_cell aG.out 1).trans rfl⟩ (fun hHeld => ?_)
        clear hK K
        refine no_ 74 ?_
        refine one_ (i := 6) (N := some 76) (bs 9 127) rfl rfl (one_of HT_.out (by kernel_rfl)) (by decide) (fun K hK => ?_)
        refine Kd.N_lit_step k52 _ 52 ?hg (N' := 76) ?hd (xs := ([(⟨((rd_T52 ak (ax)).f0), bO⟩ : S52)] : List (S52))) (inner := [.string ((rd_T52 ak (ax)).f0), .slice b9 bO.length ca]) (ok := (fun k_ => some k_ ≠ (.slice (some aX) ak.length bv : Value).ownBlock ∧ some k_ ≠ (.slice aU aC.length aT : Value).ownBlock ∧ some k_ ≠ (gz : Value).ownBlock ∧ k_ ≠ aq ∧ k_ ≠ al)) (okp := (fun k_ => some k_ ≠ (.slice (some aX) ak.length bv : Value).ownBlock ∧ some k_ ≠ (.slice aU aC.length aT : Value).ownBlock ∧ some k_ ≠ (gz : Value).ownBlock ∧ k_ ≠ aq ∧ k_ ≠ al)) ?hr ?hp (fun _ hk => hk) ((show ∀ k_, w50.heap.size ≤ k_ → (fun k_ => some k_ ≠ (.slice (some aX) ak.length bv : Value).ownBlock ∧ some k_ ≠ (.slice aU aC.length aT : Value).ownBlock ∧ some k_ ≠ (gz : Value).ownBlock ∧ k_ ≠ aq ∧ k_ ≠ al) k_ from fun k_ hk => ⟨Kd.fresh' (Kd.N_lt au7_1) k_ hk, Kd.fresh' (Kd.N_lt au7_0) k_ hk, Kd.fresh' (Kd.N_lt au7_35) k_ hk, Kd.freshB (g := aq) (o := .cells #[.string cr, .string cK, .int .i64 cL, .slice aU aC.length aT] 29 (0, 0)) (bk_ az) k_ hk, Kd.freshB (g := al) (o := .cells #[.string ((rd_T52 ak (ax)).f0), .slice b9 bO.length ca] 52 (0, 0)) (bk_ aG) k_ hk⟩) _ (Nat.le_refl _)) (Below.refl _ _) (Nat.le_refl _) (by simp) ?_; (case hd => rfl); (case hg => rfl); (case hr => exact hr_); (case hp => exact (Reps.c2 (show Kd.FK k52 _ _ (⟨((rd_T52 ak (ax)).f0), bO⟩ : S52) [.string ((rd_T52 ak (ax)).f0), .slice b9 bO.length ca] from (k52_mkF _ _ (⟨((rd_T52 ak (ax)).f0), bO⟩ : S52) (Kd.N_reads' (Kd.N_mono (ok' := (fun k_ => some k_ ≠ (.slice (some aX) ak.length bv : Value).ownBlock ∧ some k_ ≠ (.slice aU aC.length aT : Value).ownBlock ∧ some k_ ≠ (gz : Value).ownBlock ∧ k_ ≠ aq ∧ k_ ≠ al)) (eO.out) (fun k_ hk => ⟨hk.1.1, ⟨hk.1.2.1, ⟨hk.2, ⟨hk.1.2.2.1, hk.1.2.2.2⟩⟩⟩⟩))).2.1 (Kd.N_F (Kd.N_mono (ok' := (fun k_ => some k_ ≠ (.slice (some aX) ak.length bv : Value).ownBlock ∧ some k_ ≠ (.slice aU aC.length aT : Value).ownBlock ∧ some k_ ≠ (gz : Value).ownBlock ∧ k_ ≠ aq ∧ k_ ≠ al)) (eO.out) (fun k_ hk => ⟨hk.1.1, ⟨hk.1.2.1, ⟨hk.2, ⟨hk.1.2.2.1, hk.1.2.2.2⟩⟩⟩⟩))))) (Reps.none _ _)))
        intro eP w51 qt hb hg_ hnew_
        clear hg_ hnew_
        (first | rw [← rm.out] at qt | (simp only [Int.reduceToNat] at qt; rw [← rm.out] at qt))
        replace dv := am_ (Kd.N_elder' au7_1 (Kd.N_base qt) hb)
        replace aE := am_ (Kd.N_elder' au7_0 (Kd.N_base qt) hb)
        replace bM := am_ (Kd.V_elder' au7_3 (Kd.N_base qt) hb)
        replace bN := am_ (Kd.V_elder' au7_4 (Kd.N_base qt) hb)
        replace eN := am_ (Kd.V_elder' au7_7 (Kd.N_base qt) hb)
        replace bH := am_ (Kd.N_elder' au7_35 (Kd.N_base qt) hb)
        have iw := am_ (Kd.N_lower qt (below_size bl_))
        replace az := bb_ az hb
        replace aG := bb_ aG hb
        replace HB := am_ (below_step bl_ hb)
        clear eO
        clear hb qt
        refine hK.out _ _ ⟨(blk_cell aG.out 0).trans rfl, (blk_cell aG.out 1).trans rfl⟩ (fun hHeld => ?_)
        clear hK K
        refine no_ 76 ?_
        exact norm_ au7_27 (hCont (j8, gz, eP) _ ⟨hHeld, (by (with_reducible repeat (first | apply Kd.V_alloc | apply Kd.V_drewN | apply Kd.V_drew)); exact Kd.V_mono bM.out (fun _ hk => ⟨hk.1.2, ⟨hk.2, ⟨hk.1.1.2.1, ⟨hk.1.1.1, ⟨hk.1.1.2.2.2.1, hk.1.1.2.2.2.2⟩⟩⟩⟩⟩)), (by (with_reducible repeat (first | apply Kd.V_alloc | apply Kd.V_drewN | apply Kd.V_drew)); exact Kd.V_mono bN.out (fun _ hk => ⟨hk.1.2, ⟨hk.2, ⟨hk.1.1.2.1, ⟨hk.1.1.1, ⟨hk.1.1.2.2.2.1, hk.1.1.2.2.2.2⟩⟩⟩⟩⟩)), (by (with_reducible repeat (first | apply Kd.V_alloc | apply Kd.V_drewN | apply Kd.V_drew)); exact Kd.V_mono eN.out (fun _ hk => ⟨hk.1.2, ⟨hk.2, ⟨hk.1.1.1, ⟨hk.1.1.2.2.1, hk.1.1.2.2.2⟩⟩⟩⟩)), (by (with_reducible repeat (first | apply Kd.N_alloc | apply Kd.N_drewN | apply Kd.N_drew)); exact Kd.N_mono bH.out (fun _ hk => ⟨hk.2, ⟨hk.1.1, ⟨hk.1.2.2.1, hk.1.2.2.2⟩⟩⟩)), (by (with_reducible repeat (first | apply Kd.N_alloc | apply Kd.N_drewN | apply Kd.N_drew)); exact Kd.N_mono iw.out (fun _ hk => ⟨hk.2.2.1, ⟨hk.2.1, ⟨hk.1, ⟨hk.2.2.2.1, hk.2.2.2.2⟩⟩⟩⟩)), (by (with_reducible repeat (first | apply Kd.N_alloc | apply Kd.N_drewN | apply Kd.N_drew)); exact Kd.N_mono aE.out (fun _ hk => ⟨hk.1.2, ⟨hk.2, ⟨hk.1.1.1, ⟨hk.1.1.2.2.1, hk.1.1.2.2.2⟩⟩⟩⟩)), (by (with_reducible repeat (first | apply Kd.N_alloc | apply Kd.N_drewN | apply Kd.N_drew)); exact Kd.N_mono dv.out (fun _ hk => ⟨hk.1.2, ⟨hk.2, ⟨hk.1.1.1, ⟨hk.1.1.2.2.1, hk.1.1.2.2.2⟩⟩⟩⟩)), (bk_ az), (bk_ aG), bl_⟩)
       rintro ⟨j8, gz, eP⟩ AR ⟨hS_, Q2, Q3, h2_, h3_, h4_, Q4, Q5, Q6, Q7, xV⟩
       have bI : Aside0 (Kd.V k55 55 AR w.heap.size (fun k_ => some k_ ≠ (gz : Value).ownBlock ∧ some k_ ≠ (eP : Value).ownBlock ∧ some k_ ≠ (.slice aU aC.length aT : Value).ownBlock ∧ some k_ ≠ (.slice (some aX) ak.length bv : Value).ownBlock ∧ k_ ≠ aq ∧ k_ ≠ al) (.slice (some Fi) ((rd_T52 ak ax).f1).length wt) ((rd_T52 ak ax).f1)) := ⟨Q2⟩
       have bZ : Aside0 (Kd.V Kd.string 9 AR w.heap.size (fun k_ => some k_ ≠ (gz : Value).ownBlock ∧ some k_ ≠ (eP : Value).ownBlock ∧ some k_ ≠ (.slice aU aC.length aT : Value).ownBlock ∧ some k_ ≠ (.slice (some aX) ak.length bv : Value).ownBlock ∧ k_ ≠ aq ∧ k_ ≠ al) (.slice qq ((rd_T55 ((rd_T52 ak ax).f1) 1).f0).length qr) ((rd_T55 ((rd_T52 ak ax).f1) 1).f0)) := ⟨Q3⟩
       have n2_ : Aside0 (Kd.V k52 52 AR w.heap.size (fun k_ => some k_ ≠ (gz : Value).ownBlock ∧ some k_ ≠ (eP : Value).ownBlock ∧ some k_ ≠ (.slice aU aC.length aT : Value).ownBlock ∧ k_ ≠ aq ∧ k_ ≠ al) (.slice (some aX) gn.length bv) gn) := ⟨h2_⟩
       have cD : Aside0 (Kd.N k52 52 AR w.heap.size (fun k_ => some k_ ≠ (eP : Value).ownBlock ∧ some k_ ≠ (.slice aU aC.length aT : Value).ownBlock ∧ k_ ≠ aq ∧ k_ ≠ al) gz iy) := ⟨h3_⟩
       have ji : Aside0 (Kd.N k52 52 AR w.heap.size (fun k_ => some k_ ≠ (gz : Value).ownBlock ∧ some k_ ≠ (.slice aU aC.length aT : Value).ownBlock ∧ some k_ ≠ (.slice (some aX) ak.length bv : Value).ownBlock ∧ k_ ≠ aq ∧ k_ ≠ al) eP eh) := ⟨h4_⟩
       have jj : Aside0 (Kd.N k83 83 AR w.heap.size (fun k_ => some k_ ≠ (gz : Value).ownBlock ∧ some k_ ≠ (eP : Value).ownBlock ∧ some k_ ≠ (.slice (some aX) ak.length bv : Value).ownBlock ∧ k_ ≠ aq ∧ k_ ≠ al) (.slice aU aC.length aT) aC) := ⟨Q4⟩
       have nv : Aside0 (Kd.N k52 52 AR w.heap.size (fun k_ => some k_ ≠ (gz : Value).ownBlock ∧ some k_ ≠ (eP : Value).ownBlock ∧ some k_ ≠ (.slice aU aC.length aT : Value).ownBlock ∧ k_ ≠ aq ∧ k_ ≠ al) (.slice (some aX) ak.length bv) ak) := ⟨Q5⟩
       have qw : Aside0 (AR.heap[aq]? = some (.cells #[.string cr, .string cK, .int .i64 cL, .slice aU aC.length aT] 29 (0, 0))) := ⟨Q6⟩
       have uB : Aside0 (AR.heap[al]? = some (.cells #[.string ((rd_T52 ak (ax)).f0), .slice b9 bO.length ca] 52 (0, 0))) := ⟨Q7⟩
       have Jx : Aside0 (Below w.heap.size w AR) := ⟨xV⟩
       clear dv
       clear aE
       clear bM
       clear bN
       clear eO
       clear az
       clear aG
       clear HB
       clear Q2 Q3 h2_ h3_ h4_ Q4 Q5 Q6 Q7 xV
       have bM := bI
       have bN := bZ
       have eN := n2_
       have bH := cD
       have iw := ji
       have aE := jj
       have dv := nv
       have az := qw
       have aG := uB
       have HB := Jx
       clear bI bZ n2_ cD ji jj nv qw uB Jx
       have hHeld : AR.cell? ⟨al, 0, none⟩ = some (.string ((rd_T52 ak (ax)).f0)) ∧ AR.cell? ⟨al, 1, none⟩ = some (.slice b9 bO.length ca) := hS_
       obtain ⟨qu, qv, X1⟩ := Kd.N_slice iw.out
       (first | subst X1 | (injection X1 with dY gS dZ; have gT := dY.symm; have gU := dZ.symm; clear dY gS dZ; subst gT; subst gU))
       refine norm_ (a' := ?_) ?_ ?_
       rotate_left
       ·simp only [putAll, Act.put, List.setIfInBounds_toArray, List.set_cons_zero, List.set_cons_succ]
        rfl
       refine one_ (i := 7) (N := some 77) (bs 9 255) rfl rfl (one_of HT_.out (by kernel_rfl)) (by decide) (fun K hK => ?_)
       refine Kd.N_append_rows_step k52 (w0 := w) w.heap.size (by rfl) (.tmp 74) (.tmp 76) 38 52 (.agg #[(.string ⟨#[]⟩), (.slice none 0 0)]) 40 rfl Tryd.underlying38 info52 rfl (by decide) (by omega) gz iy eh _ _ _ (fun k_ => some k_ ≠ (.slice aU aC.length aT : Value).ownBlock ∧ k_ ≠ aq ∧ k_ ≠ al) (fun k_ => ((fun k_ => some k_ ≠ (.slice aU aC.length aT : Value).ownBlock ∧ k_ ≠ aq ∧ k_ ≠ al)) k_ ∧ some k_ ≠ (gz : Value).ownBlock) rfl rfl ?aO ?aR (fun _ hk => hk) ?aF ?aB ?aS ?aL ?_
       (case aR => exact (by skip; exact Kd.N_F (Kd.N_mono (ok' := (fun k_ => ((fun k_ => some k_ ≠ (.slice aU aC.length aT : Value).ownBlock ∧ k_ ≠ aq ∧ k_ ≠ al)) k_ ∧ some k_ ≠ (gz : Value).ownBlock)) (iw.out) (fun k_ hk => ⟨⟨hk.2.1, ⟨hk.2.2.2.1, hk.2.2.2.2⟩⟩, hk.1⟩))))
       (case aB => exact bl_)
       (case aF => exact au7_17)
       (case aO => exact (by (with_reducible repeat (first | apply Kd.N_alloc | apply Kd.N_drewN | apply Kd.N_drew)); exact Kd.N_mono bH.out (fun _ hk => ⟨hk.2.1, ⟨hk.2.2.1, hk.2.2.2⟩⟩)))
       (case aS => exact (below_size bl_))
       (case aL => have := XS.out; omega)
       intro Ou w54 ho hb hg hat
       rw [← XT.out] at ho
       replace dv := am_ (Kd.N_afterv (ok := (fun k_ => some k_ ≠ (.slice aU aC.length aT : Value).ownBlock ∧ some k_ ≠ (.slice qu eh.length qv : Value).ownBlock ∧ k_ ≠ aq ∧ k_ ≠ al)) (by (with_reducible repeat (first | apply Kd.N_alloc | apply Kd.N_drewN | apply Kd.N_drew)); exact Kd.N_mono dv.out (fun _ hk => ⟨⟨hk.2.2.1, ⟨hk.2.1, ⟨hk.2.2.2.1, hk.2.2.2.2⟩⟩⟩, hk.1⟩)) hg hat)
       replace aE := am_ (Kd.N_afterv (ok := (fun k_ => some k_ ≠ (.slice (some aX) ak.length bv : Value).ownBlock ∧ some k_ ≠ (.slice qu eh.length qv : Value).ownBlock ∧ k_ ≠ aq ∧ k_ ≠ al)) (by (with_reducible repeat (first | apply Kd.N_alloc | apply Kd.N_drewN | apply Kd.N_drew)); exact Kd.N_mono aE.out (fun _ hk => ⟨⟨hk.2.2.1, ⟨hk.2.1, ⟨hk.2.2.2.1, hk.2.2.2.2⟩⟩⟩, hk.1⟩)) hg hat)
       replace az := am_ (bg_ az hg (Kd.N_ne bH.out az.out (by decide)))
       replace bM := am_ (Kd.V_afterv (ok := (fun k_ => some k_ ≠ (.slice (some aX) ak.length bv : Value).ownBlock ∧ some k_ ≠ (.slice aU aC.length aT : Value).ownBlock ∧ some k_ ≠ (.slice qu eh.length qv : Value).ownBlock ∧ k_ ≠ aq ∧ k_ ≠ al)) (by (with_reducible repeat (first | apply Kd.V_alloc | apply Kd.V_drewN | apply Kd.V_drew)); exact Kd.V_mono bM.out (fun _ hk => ⟨⟨hk.2.2.2.1, ⟨hk.2.2.1, ⟨hk.2.1, ⟨hk.2.2.2.2.1, hk.2.2.2.2.2⟩⟩⟩⟩, hk.1⟩)) hg hat)
       replace bN := am_ (Kd.V_afterv (ok := (fun k_ => some k_ ≠ (.slice (some aX) ak.length bv : Value).ownBlock ∧ some k_ ≠ (.slice aU aC.length aT : Value).ownBlock ∧ some k_ ≠ (.slice qu eh.length qv : Value).ownBlock ∧ k_ ≠ aq ∧ k_ ≠ al)) (by (with_reducible repeat (first | apply Kd.V_alloc | apply Kd.V_drewN | apply Kd.V_drew)); exact Kd.V_mono bN.out (fun _ hk => ⟨⟨hk.2.2.2.1, ⟨hk.2.2.1, ⟨hk.2.1, ⟨hk.2.2.2.2.1, hk.2.2.2.2.2⟩⟩⟩⟩, hk.1⟩)) hg hat)
       replace aG := am_ (bg_ aG hg (Kd.N_away bH.out (fun _ hk => hk.2.2.2)))
       replace eN := am_ (Kd.V_afterv (ok := (fun k_ => some k_ ≠ (.slice aU aC.length aT : Value).ownBlock ∧ some k_ ≠ (.slice qu eh.length qv : Value).ownBlock ∧ k_ ≠ aq ∧ k_ ≠ al)) (by (with_reducible repeat (first | apply Kd.V_alloc | apply Kd.V_drewN | apply Kd.V_drew)); exact Kd.V_mono eN.out (fun _ hk => ⟨⟨hk.2.2.1, ⟨hk.2.1, ⟨hk.2.2.2.1, hk.2.2.2.2⟩⟩⟩, hk.1⟩)) hg hat)
       replace iw := am_ (Kd.N_afterv (ok := (fun k_ => some k_ ≠ (.slice (some aX) ak.length bv : Value).ownBlock ∧ some k_ ≠ (.slice aU aC.length aT : Value).ownBlock ∧ k_ ≠ aq ∧ k_ ≠ al)) (by (with_reducible repeat (first | apply Kd.N_alloc | apply Kd.N_drewN | apply Kd.N_drew)); exact Kd.N_mono iw.out (fun _ hk => ⟨⟨hk.2.2.1, ⟨hk.2.1, ⟨hk.2.2.2.1, hk.2.2.2.2⟩⟩⟩, hk.1⟩)) hg hat)
       replace HB := am_ (hb)
       have zN := am_ (ho)
       clear bH
       clear ho hb hg hat
       refine hK.out _ _ ⟨(blk_cell aG.out 0).trans rfl, (blk_cell aG.out 1).trans rfl⟩ (fun hHeld => ?_)
       clear hK K
       refine no_ 77 ?_
       refine pu_ 8 12 (bs 9 511) HT_ ?_ rfl rfl
       refine done_ (done_of HT_.out (by kernel_rfl)) ?_
       go_upto_region 16 with (fail)
       go_cut [12] (fun OL wc => ∃ (kq : Nat) (fP : List (S52)), Aside0 (F5.j3 kq ax fP cr cK cL aC = some r) ∧ Aside0 (kq ≤ oD) ∧ Aside0 (Kd.N k52 52 wc w.heap.size (fun k_ => some k_ ≠ ((.slice aU aC.length aT) : Value).ownBlock ∧ k_ ≠ aq ∧ k_ ≠ al) OL fP) ∧ Aside0 (Kd.N k83 83 wc w.heap.size (fun k_ => some k_ ≠ (OL : Value).ownBlock ∧ k_ ≠ aq ∧ k_ ≠ al) (.slice aU aC.length aT) aC) ∧ Aside0 (wc.heap[aq]? = some (.cells #[.string cr, .string cK, .int .i64 cL, (.slice aU aC.length aT)] 29 (0, 0))) ∧ Aside0 (wc.heap[al]? = some (.cells #[.string ((rd_T52 ak (ax)).f0), (.slice b9 bO.length ca)] 52 (0, 0))) ∧ Aside0 (Below w.heap.size w wc))
       case first =>
        have H := Oj.out
        clear Oj
        obtain ⟨kn, Fk⟩ : ∃ j_ : Int, (wrap64 (ax + 1)) = j_ := ⟨_, rfl⟩
        replace H : (if 0 ≤ (kn) then (if (kn) ≤ (ak.length : Int) then ((some (ak.drop ((kn) : Int).toNat : List (S52))).bind fun dM => (if fA.length + dM.length < 3518437208883 then (F5.j3 oD ax (fA ++ dM) cr cK cL aC) else (none))) else (none)) else (none)) = some r := by first | (rw [Fk] at H; exact H) | (simp only [Fk] at H ⊢; exact H)
        have hji56w : (IntKind.i64.wrap (ax + 1)) = kn := (i64_w _).trans Fk
        by_cases OQ : 0 ≤ (kn)
        rotate_left
        ·rw [if_neg OQ] at H
         exact absurd H (by simp)
        rw [if_pos OQ] at H
        have c57b0 := eq_true OQ
        have c57b1 : decide (0 ≤ (kn)) = true := decide_eq_true OQ
        clear OQ
        by_cases OR : (kn) ≤ (ak.length : Int)
        rotate_left
        ·rw [if_neg OR] at H
         exact absurd H (by simp)
        rw [if_pos OR] at H
        have c58b0 := eq_true OR
        have c58b1 : decide ((kn) ≤ (ak.length : Int)) = true := decide_eq_true OR
        clear OR
        obtain ⟨dM, Fl⟩ : ∃ y_ : List (S52), y_ = (ak.drop ((kn) : Int).toNat) := ⟨_, rfl⟩
        replace H : (if fA.length + dM.length < 3518437208883 then (F5.j3 oD ax (fA ++ dM) cr cK cL aC) else (none)) = some r := by first | (rw [Fl]; exact H) | exact H
        have KO := am_ Fl
        clear Fl
        replace H := iln_ H; rcases H with ⟨X2, H⟩
        obtain ⟨X3, Fm⟩ : ∃ y_ : List (S52), y_ = (fA ++ dM) := ⟨_, rfl⟩
        replace H : (F5.j3 oD ax X3 cr cK cL aC) = some r := by first | (rw [Fm]; exact H) | exact H
        have X4 := am_ Fm
        clear Fm
        have H' := am_ H
        clear H
        have X5 : ((kn) : Int) ≤ ((ak.length : Int) : Int) := od_
        obtain ⟨b6E, KP, _, KQ, _⟩ := info_parts info52
        have pw : ak.length ≤ bv := (Kd.N_reads' dv.out).2.1
        have X6 : Kd.F k52 _ _ (some aX) ak.length ak := (Kd.V_at (base := w.heap.size) (Kd.N_V dv.out)).2.2
        have X7 : (0 : Int) ≤ ((kn) : Int) := od_
        have Ov := cut_from (P := Tryd.prog) 38 52 .i64 Tryd.underlying38 KP 2 KQ (some aX) ak.length bv (kn) X7 X5
        have Fn := Kd.F_cut (m := ((kn) : Int).toNat) (c := bv) X6 (by omega) pw
        obtain ⟨Hn, IC⟩ : ∃ A1, A1 = (if bv = ((kn) : Int).toNat then (some aX) else ((some aX) : Option Addr).map (·.add (((kn) : Int).toNat * 2))) := ⟨_, rfl⟩
        obtain ⟨c60, ID⟩ : ∃ c1, c1 = bv - ((kn) : Int).toNat := ⟨_, rfl⟩
        have Fo : dM.length = ak.length - ((kn) : Int).toNat := (by rw [KO.out, List.length_drop] <;> omega)
        rw [show (ak).drop ((kn) : Int).toNat = dM from KO.out.symm] at Fn
        replace Fn : Kd.F k52 _ _ Hn dM.length dM := (by rw [IC]; exact Fn)
        rw [← Fo, ← IC, ← ID] at Ov
        have Fp := am_ (show Kd.V k52 52 _ w.heap.size _ (.slice Hn dM.length c60) dM from Kd.V_mk (by rw [Fo, ID]; exact Nat.sub_le_sub_right pw _) Fn)
        have b1W := am_ (show dM.length ≤ c60 from by rw [Fo, ID]; exact Nat.sub_le_sub_right pw _)
        clear Fn X6 pw KP KQ ID
        have b6F := am_ Fo
        have b6G := am_ IC
        clear Fo IC
        replace X5 := eq_true X5
        go_wp2_with (first | ((with_reducible refine gate_builtin (b := .append) (xs := #[.tmp 78, .tmp 82]) rfl ?_); (try (refine gate_guard (by rfl) ?_; dsimp only)); at_builtin; refine Kd.N_append_rows k52 (w0 := w) w.heap.size rfl (.tmp 78) (.tmp 82) 38 52 (.agg #[(.string ⟨#[]⟩), (.slice none 0 0)]) 40 rfl Tryd.underlying38 info52 rfl (by decide) (by omega) Ou fA dM _ _ _ (fun k_ => some k_ ≠ (.slice aU aC.length aT : Value).ownBlock ∧ k_ ≠ aq ∧ k_ ≠ al) (fun k_ => ((fun k_ => some k_ ≠ (.slice aU aC.length aT : Value).ownBlock ∧ k_ ≠ aq ∧ k_ ≠ al)) k_ ∧ some k_ ≠ (Ou : Value).ownBlock) rfl rfl ?aO ?aR (fun _ hk => hk) ?aF ?aB ?aS ?aL ?_; (case aR => exact (by skip; exact Kd.V_F (Kd.V_mono (ok' := (fun k_ => ((fun k_ => some k_ ≠ (.slice aU aC.length aT : Value).ownBlock ∧ k_ ≠ aq ∧ k_ ≠ al)) k_ ∧ some k_ ≠ (Ou : Value).ownBlock)) (Fp.out) (fun k_ hk => ⟨⟨hk.1.1, ⟨hk.1.2.2.1, hk.1.2.2.2⟩⟩, hk.2⟩)))); (case aB => exact bl_); (case aF => exact au7_17); (case aO => exact (by (with_reducible repeat (first | apply Kd.N_alloc | apply Kd.N_drewN | apply Kd.N_drew)); exact zN.out)); (case aS => exact (below_size bl_)); (case aL => have := X2.out; omega); intro b6H w61 ho hb hg hat; rw [← X4.out] at ho; replace dv := am_ (Kd.N_afterv (ok := (fun k_ => some k_ ≠ (.slice aU aC.length aT : Value).ownBlock ∧ some k_ ≠ (.slice qu eh.length qv : Value).ownBlock ∧ k_ ≠ aq ∧ k_ ≠ al)) au7_1 hg hat); replace aE := am_ (Kd.N_afterv (ok := (fun k_ => some k_ ≠ (.slice (some aX) ak.length bv : Value).ownBlock ∧ some k_ ≠ (.slice qu eh.length qv : Value).ownBlock ∧ k_ ≠ aq ∧ k_ ≠ al)) au7_0 hg hat); replace az := am_ (bg_ az hg (Kd.N_ne zN.out az.out (by decide))); replace bM := am_ (Kd.V_afterv (ok := (fun k_ => some k_ ≠ (.slice (some aX) ak.length bv : Value).ownBlock ∧ some k_ ≠ (.slice aU aC.length aT : Value).ownBlock ∧ some k_ ≠ (.slice qu eh.length qv : Value).ownBlock ∧ k_ ≠ aq ∧ k_ ≠ al)) au7_3 hg hat); replace bN := am_ (Kd.V_afterv (ok := (fun k_ => some k_ ≠ (.slice (some aX) ak.length bv : Value).ownBlock ∧ some k_ ≠ (.slice aU aC.length aT : Value).ownBlock ∧ some k_ ≠ (.slice qu eh.length qv : Value).ownBlock ∧ k_ ≠ aq ∧ k_ ≠ al)) au7_4 hg hat); replace aG := am_ (bg_ aG hg (Kd.N_away zN.out (fun _ hk => hk.2.2))); replace eN := am_ (Kd.V_afterv (ok := (fun k_ => some k_ ≠ (.slice aU aC.length aT : Value).ownBlock ∧ some k_ ≠ (.slice qu eh.length qv : Value).ownBlock ∧ k_ ≠ aq ∧ k_ ≠ al)) au7_7 hg hat); replace iw := am_ (Kd.N_afterv (ok := (fun k_ => some k_ ≠ (.slice (some aX) ak.length bv : Value).ownBlock ∧ some k_ ≠ (.slice aU aC.length aT : Value).ownBlock ∧ k_ ≠ aq ∧ k_ ≠ al)) au7_8 hg hat); replace Fp := am_ (Kd.V_afterv (ok := (fun k_ => some k_ ≠ (.slice aU aC.length aT : Value).ownBlock ∧ some k_ ≠ (.slice qu eh.length qv : Value).ownBlock ∧ k_ ≠ aq ∧ k_ ≠ al)) (by (with_reducible repeat (first | apply Kd.V_alloc | apply Kd.V_drewN | apply Kd.V_drew)); exact Fp.out) hg hat); replace HB := am_ (hb); have X8 := am_ (ho); clear zN; clear ho hb hg hat))
        go_meet
        case rel => exact ⟨_, (X3), H', ⟨by have := HJ2.out; have := HK2.out; have := Oi.out; first | omega | exact Nat.le_refl _⟩, ⟨by (with_reducible repeat (first | apply Kd.N_alloc | apply Kd.N_drewN | apply Kd.N_drew)); exact X8.out⟩, ⟨by (with_reducible repeat (first | apply Kd.N_alloc | apply Kd.N_drewN | apply Kd.N_drew)); exact Kd.N_mono aE.out (fun _ hk => ⟨hk.2, ⟨hk.1.2.2.1, hk.1.2.2.2⟩⟩)⟩, ⟨bk_ az⟩, ⟨bk_ aG⟩, ⟨bl_⟩⟩
       case rest =>
        clear Oj
        try clear c1
        try clear c2
        try clear XY
        try clear OQ
        try clear c57b0
        try clear c57b1
        try clear OR
        try clear c58b0
        try clear c58b1
        try clear c60
        try clear X5
        try clear X7
        try clear XY
        try clear X5
        obtain ⟨kq, fP, HA, b6I, fI, aE, az, aG, HB⟩ := hcut
        cases kq with
        | zero => exact absurd HA.out (by simp [F5.j3])
        | succ Fq =>
         have H := HA.out
         clear HA
         simp only [F5.j3] at H
         replace H := bi_ H; rcases H with ⟨⟨m8, sK, qp, Fr, X9, qJ, qK⟩, sX, H⟩
         by_cases Ow : qK = 5
         rotate_left
         ·rw [if_neg Ow] at H
          have c63b0 : (qK == 5) = false := beq_eq_false_iff_ne.mpr Ow
          have c63b1 : (qK != 5) = true := bne_iff_ne.mpr Ow
          obtain rfl := Option.some.inj H
          obtain ⟨Ah, Ai, Ma⟩ := Kd.N_slice fI.out
          subst Ma
          go_wp2_with (first | (go_at_call 24; (with_reducible refine (F24.calls Fq _ _ fP m8 sK qp Fr X9 qJ qK _ ?s1 ?s2 ?s3 sX.out).mono ?_); (case s1 => exact au7_5); (case s2 => exact au7_37); (case s3 => exact au7_21); rintro e b6J ⟨IE, rfl, bm, hb⟩; (try clear sX); have ix := am_ (Kd.N_lower (Kd.N_mono (ok' := fun k_ => some k_ ≠ (.slice Ah fP.length Ai : Value).ownBlock ∧ some k_ ≠ (.slice aU aC.length aT : Value).ownBlock ∧ k_ ≠ aq ∧ k_ ≠ al) (Kd.S_N (Kd.S_bound bm)) (fun k_ hk_ => ⟨(Kd.fresh' (Kd.N_lt au7_2) k_ hk_.2.1), (Kd.fresh' (Kd.N_lt au7_0) k_ hk_.2.1), (Kd.freshB (g := aq) (o := .cells #[.string cr, .string cK, .int .i64 cL, .slice aU aC.length aT] 29 (0, 0)) (bk_ az) k_ hk_.2.1), (Kd.freshB (g := al) (o := .cells #[.string ((rd_T52 ak (ax)).f0), .slice b9 bO.length ca] 52 (0, 0)) (bk_ aG) k_ hk_.2.1)⟩)) (below_size bl_)); replace fI := am_ (Kd.N_elder' au7_2 (Kd.S_base bm) hb); replace aE := am_ (Kd.N_elder' au7_0 (Kd.S_base bm) hb); replace az := bb_ az hb; replace aG := bb_ aG hb; replace HB := hs_ w hb; clear hb bm) | ((with_reducible refine gate_dst (N := 13) rfl ?_); (try (refine gate_guard (by rfl) ?_; dsimp only)); refine be_ 13 #[.string (⟨#[]⟩ : ByteArray), .string (⟨#[]⟩ : ByteArray), .int .i64 0, .slice none 0 0, .bool false, .int .i64 0, .int .i64 0] 36 ?_; intro fB hg b6K hbox hb; replace fI := am_ (Kd.N_below (Kd.N_elderB au7_2 fB (Nat.le_of_eq hg.symm)) hb); replace aE := am_ (Kd.N_below (Kd.N_elderB au7_0 fB (Nat.le_of_eq hg.symm)) hb); replace ix := am_ (Kd.N_below (Kd.N_elderB au7_12 fB (Nat.le_of_eq hg.symm)) hb); have nc := am_ (hbox); have nf := am_ (gw_ hg bl_); have zO := nf; replace HB := hs_ w hb; have eG := am_ (gn_ hg (blkl_ az)); have eH := am_ (gm_ hg (blkl_ az)); replace az := bb_ az hb; have eI := am_ (gn_ hg (blkl_ aG)); have eJ := am_ (gm_ hg (blkl_ aG)); replace aG := bb_ aG hb; clear hb hbox hg; have a8D := eH.out; have a8E := eG.out; have a8F := eJ.out; have a8G := eI.out; obtain ⟨Ya, Yb, Yc, Yd, Ye, Yf, Yg, Yh, Yi, Yj, Yk, Yl, Ym, Yn⟩ := cellsF7 nc.out; obtain ⟨b1X, b1Y, Yo⟩ := Kd.N_slice ix.out; subst Yo))
          go_ret
          exact ⟨au7_6, bl_⟩
         rw [if_pos Ow] at H
         have c63b0 : (qK == 5) = true := beq_iff_eq.mpr Ow
         have c63b1 : (qK != 5) = false := bne_eq_false_iff_eq.mpr Ow
         clear Ow
         by_cases Ox : qJ = ax
         rotate_left
         ·rw [if_neg Ox] at H
          have c64b0 : (qJ == ax) = false := beq_eq_false_iff_ne.mpr Ox
          have c64b1 : (qJ != ax) = true := bne_iff_ne.mpr Ox
          obtain rfl := Option.some.inj H
          obtain ⟨a8H, a8I, a8J⟩ := Kd.N_slice fI.out
          subst a8J
          go_wp2_with (first | (go_at_call 24; (with_reducible refine (F24.calls Fq _ _ fP m8 sK qp Fr X9 qJ qK _ ?s1 ?s2 ?s3 sX.out).mono ?_); (case s1 => exact au7_5); (case s2 => exact au7_37); (case s3 => exact au7_21); rintro e w93 ⟨IE, rfl, bm, hb⟩; (try clear sX); have ix := am_ (Kd.N_lower (Kd.N_mono (ok' := fun k_ => some k_ ≠ (.slice a8H fP.length a8I : Value).ownBlock ∧ some k_ ≠ (.slice aU aC.length aT : Value).ownBlock ∧ k_ ≠ aq ∧ k_ ≠ al) (Kd.S_N (Kd.S_bound bm)) (fun k_ hk_ => ⟨(Kd.fresh' (Kd.N_lt au7_2) k_ hk_.2.1), (Kd.fresh' (Kd.N_lt au7_0) k_ hk_.2.1), (Kd.freshB (g := aq) (o := .cells #[.string cr, .string cK, .int .i64 cL, .slice aU aC.length aT] 29 (0, 0)) (bk_ az) k_ hk_.2.1), (Kd.freshB (g := al) (o := .cells #[.string ((rd_T52 ak (ax)).f0), .slice b9 bO.length ca] 52 (0, 0)) (bk_ aG) k_ hk_.2.1)⟩)) (below_size bl_)); replace fI := am_ (Kd.N_elder' au7_2 (Kd.S_base bm) hb); replace aE := am_ (Kd.N_elder' au7_0 (Kd.S_base bm) hb); replace az := bb_ az hb; replace aG := bb_ aG hb; replace HB := hs_ w hb; clear hb bm) | ((with_reducible refine gate_dst (N := 13) rfl ?_); (try (refine gate_guard (by rfl) ?_; dsimp only)); refine be_ 13 #[.string (⟨#[]⟩ : ByteArray), .string (⟨#[]⟩ : ByteArray), .int .i64 0, .slice none 0 0, .bool false, .int .i64 0, .int .i64 0] 36 ?_; intro fB hg w94 hbox hb; replace fI := am_ (Kd.N_below (Kd.N_elderB au7_2 fB (Nat.le_of_eq hg.symm)) hb); replace aE := am_ (Kd.N_below (Kd.N_elderB au7_0 fB (Nat.le_of_eq hg.symm)) hb); replace ix := am_ (Kd.N_below (Kd.N_elderB au7_12 fB (Nat.le_of_eq hg.symm)) hb); have nc := am_ (hbox); have nf := am_ (gw_ hg bl_); have zO := nf; replace HB := hs_ w hb; have eG := am_ (gn_ hg (blkl_ az)); have eH := am_ (gm_ hg (blkl_ az)); replace az := bb_ az hb; have eI := am_ (gn_ hg (blkl_ aG)); have eJ := am_ (gm_ hg (blkl_ aG)); replace aG := bb_ aG hb; clear hb hbox hg; have SE := eH.out; have SF := eG.out; have SG := eJ.out; have SH := eI.out; obtain ⟨GW, GX, a1W, a1X, a1Y, a1Z, a10, GY, GZ, a11, a12, a13, a14, a15⟩ := cellsF7 nc.out; obtain ⟨b6L, b6M, a8K⟩ := Kd.N_slice ix.out; subst a8K))
          go_ret
          exact ⟨au7_6, bl_⟩
         rw [if_pos Ox] at H
         have c64b0 : (qJ == ax) = true := beq_iff_eq.mpr Ox
         have c64b1 : (qJ != ax) = false := bne_eq_false_iff_eq.mpr Ox
         clear Ox
         replace H := ib_ H; rcases H with ⟨rfl, H⟩ | ⟨rfl, H⟩
         rotate_left
         ·obtain rfl := Option.some.inj H
          obtain ⟨BW, BX, Lo⟩ := Kd.N_slice fI.out
          subst Lo
          go_wp2_with (first | (go_at_call 24; (with_reducible refine (F24.calls Fq _ _ fP m8 sK qp Fr false qJ qK _ ?s1 ?s2 ?s3 sX.out).mono ?_); (case s1 => exact au7_5); (case s2 => exact au7_37); (case s3 => exact au7_21); rintro e w86 ⟨IE, rfl, bm, hb⟩; (try clear sX); have ix := am_ (Kd.N_lower (Kd.N_mono (ok' := fun k_ => some k_ ≠ (.slice BW fP.length BX : Value).ownBlock ∧ some k_ ≠ (.slice aU aC.length aT : Value).ownBlock ∧ k_ ≠ aq ∧ k_ ≠ al) (Kd.S_N (Kd.S_bound bm)) (fun k_ hk_ => ⟨(Kd.fresh' (Kd.N_lt au7_2) k_ hk_.2.1), (Kd.fresh' (Kd.N_lt au7_0) k_ hk_.2.1), (Kd.freshB (g := aq) (o := .cells #[.string cr, .string cK, .int .i64 cL, .slice aU aC.length aT] 29 (0, 0)) (bk_ az) k_ hk_.2.1), (Kd.freshB (g := al) (o := .cells #[.string ((rd_T52 ak (ax)).f0), .slice b9 bO.length ca] 52 (0, 0)) (bk_ aG) k_ hk_.2.1)⟩)) (below_size bl_)); replace fI := am_ (Kd.N_elder' au7_2 (Kd.S_base bm) hb); replace aE := am_ (Kd.N_elder' au7_0 (Kd.S_base bm) hb); replace az := bb_ az hb; replace aG := bb_ aG hb; replace HB := hs_ w hb; clear hb bm) | ((with_reducible refine gate_dst (N := 13) rfl ?_); (try (refine gate_guard (by rfl) ?_; dsimp only)); refine be_ 13 #[.string (⟨#[]⟩ : ByteArray), .string (⟨#[]⟩ : ByteArray), .int .i64 0, .slice none 0 0, .bool false, .int .i64 0, .int .i64 0] 36 ?_; intro fB hg w87 hbox hb; replace fI := am_ (Kd.N_below (Kd.N_elderB au7_2 fB (Nat.le_of_eq hg.symm)) hb); replace aE := am_ (Kd.N_below (Kd.N_elderB au7_0 fB (Nat.le_of_eq hg.symm)) hb); replace ix := am_ (Kd.N_below (Kd.N_elderB au7_12 fB (Nat.le_of_eq hg.symm)) hb); have nc := am_ (hbox); have nf := am_ (gw_ hg bl_); have zO := nf; replace HB := hs_ w hb; have eG := am_ (gn_ hg (blkl_ az)); have eH := am_ (gm_ hg (blkl_ az)); replace az := bb_ az hb; have eI := am_ (gn_ hg (blkl_ aG)); have eJ := am_ (gm_ hg (blkl_ aG)); replace aG := bb_ aG hb; clear hb hbox hg; have SC := eH.out; have SD := eG.out; have b1Z := eJ.out; have b10 := eI.out; obtain ⟨a16, a17, a18, a19, a2a, a2b, a2c, a2d, a2e, a2f, a2g, a2h, a2i, a2j⟩ := cellsF7 nc.out; obtain ⟨b6N, b6O, a8L⟩ := Kd.N_slice ix.out; subst a8L))
          go_ret
          exact ⟨au7_6, bl_⟩
         by_cases Oy : m8.toList = cr.toList
         rotate_left
         ·rw [if_neg Oy] at H
          have c66b0 : (m8.toList == cr.toList) = false := beq_eq_false_iff_ne.mpr Oy
          have c66b1 : (m8.toList != cr.toList) = true := bne_iff_ne.mpr Oy
          obtain rfl := Option.some.inj H
          obtain ⟨a8M, a8N, a8O⟩ := Kd.N_slice fI.out
          subst a8O
          go_wp2_with (first | (go_at_call 24; (with_reducible refine (F24.calls Fq _ _ fP m8 sK qp Fr true qJ qK _ ?s1 ?s2 ?s3 sX.out).mono ?_); (case s1 => exact au7_5); (case s2 => exact au7_37); (case s3 => exact au7_21); rintro e w77 ⟨IE, rfl, bm, hb⟩; (try clear sX); have ix := am_ (Kd.N_lower (Kd.N_mono (ok' := fun k_ => some k_ ≠ (.slice a8M fP.length a8N : Value).ownBlock ∧ some k_ ≠ (.slice aU aC.length aT : Value).ownBlock ∧ k_ ≠ aq ∧ k_ ≠ al) (Kd.S_N (Kd.S_bound bm)) (fun k_ hk_ => ⟨(Kd.fresh' (Kd.N_lt au7_2) k_ hk_.2.1), (Kd.fresh' (Kd.N_lt au7_0) k_ hk_.2.1), (Kd.freshB (g := aq) (o := .cells #[.string cr, .string cK, .int .i64 cL, .slice aU aC.length aT] 29 (0, 0)) (bk_ az) k_ hk_.2.1), (Kd.freshB (g := al) (o := .cells #[.string ((rd_T52 ak (ax)).f0), .slice b9 bO.length ca] 52 (0, 0)) (bk_ aG) k_ hk_.2.1)⟩)) (below_size bl_)); replace fI := am_ (Kd.N_elder' au7_2 (Kd.S_base bm) hb); replace aE := am_ (Kd.N_elder' au7_0 (Kd.S_base bm) hb); replace az := bb_ az hb; replace aG := bb_ aG hb; replace HB := hs_ w hb; clear hb bm) | ((with_reducible refine gate_dst (N := 13) rfl ?_); (try (refine gate_guard (by rfl) ?_; dsimp only)); refine be_ 13 #[.string (⟨#[]⟩ : ByteArray), .string (⟨#[]⟩ : ByteArray), .int .i64 0, .slice none 0 0, .bool false, .int .i64 0, .int .i64 0] 36 ?_; intro fB hg w78 hbox hb; replace fI := am_ (Kd.N_below (Kd.N_elderB au7_2 fB (Nat.le_of_eq hg.symm)) hb); replace aE := am_ (Kd.N_below (Kd.N_elderB au7_0 fB (Nat.le_of_eq hg.symm)) hb); replace ix := am_ (Kd.N_below (Kd.N_elderB au7_12 fB (Nat.le_of_eq hg.symm)) hb); have nc := am_ (hbox); have nf := am_ (gw_ hg bl_); have zO := nf; replace HB := hs_ w hb; have eG := am_ (gn_ hg (blkl_ az)); have eH := am_ (gm_ hg (blkl_ az)); replace az := bb_ az hb; have eI := am_ (gn_ hg (blkl_ aG)); have eJ := am_ (gm_ hg (blkl_ aG)); replace aG := bb_ aG hb; clear hb hbox hg; have Vt := eH.out; have Vu := eG.out; have PX := eJ.out; have PY := eI.out; obtain ⟨a2k, a2l, a2m, a2n, a2o, a2p, a2q, a2r, a2s, a2t, a2u, a2v, a2w, a2x⟩ := cellsF7 nc.out; obtain ⟨b6P, b6Q, a8P⟩ := Kd.N_slice ix.out; subst a8P; have b11 := n1.out; have b12 := n2.out; obtain ⟨a2y, a2z, a2A, a2B, a2C, a2D, a2E, a2F⟩ := cellsF4 az.out))
          go_ret
          exact ⟨au7_6, bl_⟩
         rw [if_pos Oy] at H
         have c66b0 : (m8.toList == cr.toList) = true := beq_iff_eq.mpr Oy
         have c66b1 : (m8.toList != cr.toList) = false := bne_eq_false_iff_eq.mpr Oy
         clear Oy
         obtain rfl := Option.some.inj H
         obtain ⟨Ak, Al, Mb⟩ := Kd.N_slice fI.out
         subst Mb
         go_wp2_with (first | (go_at_call 24; (with_reducible refine (F24.calls Fq _ _ fP m8 sK qp Fr true qJ qK _ ?s1 ?s2 ?s3 sX.out).mono ?_); (case s1 => exact au7_5); (case s2 => exact au7_37); (case s3 => exact au7_21); rintro e w68 ⟨IE, rfl, bm, hb⟩; (try clear sX); have ix := am_ (Kd.N_lower (Kd.N_mono (ok' := fun k_ => some k_ ≠ (.slice Ak fP.length Al : Value).ownBlock ∧ some k_ ≠ (.slice aU aC.length aT : Value).ownBlock ∧ k_ ≠ aq ∧ k_ ≠ al) (Kd.S_N (Kd.S_bound bm)) (fun k_ hk_ => ⟨(Kd.fresh' (Kd.N_lt au7_2) k_ hk_.2.1), (Kd.fresh' (Kd.N_lt au7_0) k_ hk_.2.1), (Kd.freshB (g := aq) (o := .cells #[.string cr, .string cK, .int .i64 cL, .slice aU aC.length aT] 29 (0, 0)) (bk_ az) k_ hk_.2.1), (Kd.freshB (g := al) (o := .cells #[.string ((rd_T52 ak (ax)).f0), .slice b9 bO.length ca] 52 (0, 0)) (bk_ aG) k_ hk_.2.1)⟩)) (below_size bl_)); replace fI := am_ (Kd.N_elder' au7_2 (Kd.S_base bm) hb); replace aE := am_ (Kd.N_elder' au7_0 (Kd.S_base bm) hb); replace az := bb_ az hb; replace aG := bb_ aG hb; replace HB := hs_ w hb; clear hb bm) | ((with_reducible refine gate_dst (N := 13) rfl ?_); (try (refine gate_guard (by rfl) ?_; dsimp only)); refine be_ 13 #[.string (⟨#[]⟩ : ByteArray), .string (⟨#[]⟩ : ByteArray), .int .i64 0, .slice none 0 0, .bool false, .int .i64 0, .int .i64 0] 36 ?_; intro fB hg w69 hbox hb; replace fI := am_ (Kd.N_below (Kd.N_elderB au7_2 fB (Nat.le_of_eq hg.symm)) hb); replace aE := am_ (Kd.N_below (Kd.N_elderB au7_0 fB (Nat.le_of_eq hg.symm)) hb); replace ix := am_ (Kd.N_below (Kd.N_elderB au7_12 fB (Nat.le_of_eq hg.symm)) hb); have nc := am_ (hbox); have nf := am_ (gw_ hg bl_); have zO := nf; replace HB := hs_ w hb; have eG := am_ (gn_ hg (blkl_ az)); have eH := am_ (gm_ hg (blkl_ az)); replace az := bb_ az hb; have eI := am_ (gn_ hg (blkl_ aG)); have eJ := am_ (gm_ hg (blkl_ aG)); replace aG := bb_ aG hb; clear hb hbox hg; have Vv := eH.out; have Vw := eG.out; have SI := eJ.out; have SJ := eI.out; obtain ⟨rQ, rR, a2G, a2H, a2I, a2J, a2K, rS, rT, a2L, a2M, a2N, a2O, a2P⟩ := cellsF7 nc.out; obtain ⟨b6R, b6S, a8Q⟩ := Kd.N_slice ix.out; subst a8Q; have Jz := n1.out; have JA := n2.out; obtain ⟨a2Q, a2R, a2S, a2T, a2U, a2V, a2W, a2X⟩ := cellsF4 az.out))
         go_ret
         exact ⟨au7_6, bl_⟩
/-- THE ONE PURE STATEMENT of F5: yours. -/
def F5.Pure : Prop := ∀ (l0 : List Int) (l1 : List Int), l0.length ≤ maxLen → l0.length * 1 ≤ 140737488351232 → (∀ x ∈ l0, (Lit.int .u8 x).wf = true) → l1.length ≤ maxLen → l1.length * 1 ≤ 140737488351232 → (∀ x ∈ l1, (Lit.int .u8 x).wf = true) → ∃ k, F5.f k l0 l1 = some true
theorem F5.walk (P : F5.Pure) (a0 : Option Addr) (len0 cap0 : Nat) (z0 : List Int) (a1 : Option Addr) (len1 cap1 : Nat) (z1 : List Int) (w : World) (w0 : (a0 = none ∧ len0 = 0 ∧ cap0 = 0 ∧ z0 = []) ∨ ∃ x, a0 = some x ∧ len0 ≤ cap0 ∧ cap0 ≤ maxLen ∧ z0.length = cap0 ∧ (∀ i, i < z0.length → w.cell? (x.add i) = some (.int .u8 (z0.getD i 0))) ∧ ∀ n ∈ z0, (Lit.int .u8 n).wf = true) (y0 : len0 * 1 ≤ 140737488351232) (w1 : (a1 = none ∧ len1 = 0 ∧ cap1 = 0 ∧ z1 = []) ∨ ∃ x, a1 = some x ∧ len1 ≤ cap1 ∧ cap1 ≤ maxLen ∧ z1.length = cap1 ∧ (∀ i, i < z1.length → w.cell? (x.add i) = some (.int .u8 (z1.getD i 0))) ∧ ∀ n ∈ z1, (Lit.int .u8 n).wf = true) (y1 : len1 * 1 ≤ 140737488351232) (hT : LaidT true Tryd.prog w) :
  Calls Tryd.prog 5 #[.slice a0 len0 cap0, .slice a1 len1 cap1] w fun e w' => e = .returned (.bool true) ∧ Below w.heap.size w w' := by
 obtain ⟨l0, rfl, eQ, hm0, hw0, f9⟩ := ReadsInt.ofRowC w0
 obtain ⟨l1, rfl, hr1, hm1, hw1, hc1⟩ := ReadsInt.ofRowC w1
 obtain ⟨k, h⟩ := P l0 l1 hm0 y0 hw0 hm1 y1 hw1
 refine (F5.calls k _ _ l0 _ _ l1 true w (Kd.C_of_reads (d := (0 : Int)) (h1 := fun _ => rfl) eQ) f9 (Kd.C_of_reads (d := (0 : Int)) (h1 := fun _ => rfl) hr1) hc1 hT h).mono ?_
 rintro e w' ⟨rfl, hd⟩
 exact ⟨rfl, hd⟩
end Go.Proofs.YtlghcbmkhdibdaaDoor.PFnTrailers
