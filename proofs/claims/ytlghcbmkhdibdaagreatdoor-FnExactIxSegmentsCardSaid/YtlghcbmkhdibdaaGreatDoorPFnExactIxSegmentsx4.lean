-- printed by a program of this session (wip/xp/xprint.py) out of the translation; Lean checks it
import Derived.Test.YtlghcbmkhdibdaaGreatDoorPFnExactIxSegmentsx0
import Derived.Test.YtlghcbmkhdibdaaGreatDoorPFnExactIxSegmentsx1
import Derived.Test.YtlghcbmkhdibdaaGreatDoorPFnExactIxSegmentsx2
import Derived.Test.YtlghcbmkhdibdaaGreatDoorPFnExactIxSegmentsx3
namespace Go.Proofs.YtlghcbmkhdibdaaGreatDoor.PFnExactIxSegments
open Go.RowKit Go.Proofs.YtlghcbmkhdibdaaGreatDoorW.PrintWords Go.Proofs.YtlghcbmkhdibdaaGreatDoorW.PrintLast Go.Proofs.YtlghcbmkhdibdaaGreatDoorW.PrintMore
attribute [local go_sem] max2_int min2_int max_two min_two max_three min_three max_four min_four   -- for this text's walks alone
set_option linter.unusedVariables false
set_option linter.unusedSimpArgs false
set_option maxHeartbeats 8000000
set_option maxRecDepth 100000

theorem au4_0 {p : Prop} (h : p := by (with_reducible repeat (first | apply Kd.S_alloc | apply Kd.S_drewN | apply Kd.S_drew)); exact HO_4.out) : p := h
theorem au4_1 {p : Prop} (h : p := by first | rfl | (simp [errW_none, errW_some] <;> rfl) | (simp [*, errW_none, errW_some] <;> rfl)) : p := h
theorem au4_2 {p : Prop} (h : p := by repeat (first | exact (Kd.C_below HR0_3.out HB.out) | (with_reducible refine Kd.C_alloc ?_ _) | (with_reducible refine Kd.C_drewN ?_ _) | (with_reducible refine Kd.C_drew ?_))) : p := h
theorem au4_3 {p : Prop} (h : p := by (with_reducible repeat (first | apply Kd.S_alloc | apply Kd.S_drewN | apply Kd.S_drew)); exact HO_6.out) : p := h
theorem au4_4 {p : Prop} (h : p := by (with_reducible repeat (first | apply Kd.S_alloc | apply Kd.S_drewN | apply Kd.S_drew)); exact HO553.out) : p := h
theorem au4_5 {p : Prop} (h : p := by (with_reducible repeat (first | apply Kd.S_alloc | apply Kd.S_drewN | apply Kd.S_drew)); exact HO556.out) : p := h
theorem au4_6 {p : Prop} (h : p := by repeat (first | (with_reducible first | exact HK.out | apply Kept.alloc | apply Kept.drewN | apply Kept.drew) | exact HK.out)) : p := h
theorem au4_7 {p : Prop} (h : p := by repeat (first | exact (Kd.S_reads' HO_6.out).2.2 | (with_reducible refine Kd.C_alloc ?_ _) | (with_reducible refine Kd.C_drewN ?_ _) | (with_reducible refine Kd.C_drew ?_))) : p := h
theorem au4_8 {p : Prop} (h : p := by (with_reducible repeat (first | apply Kd.S_alloc | apply Kd.S_drewN | apply Kd.S_drew)); exact HO562.out) : p := h
theorem au4_9 {p : Prop} (h : p := by repeat (first | (with_reducible first | exact HB.out | apply below_alloc | apply pw_below_drewN | apply below_drew1 | refine below_set ?_ GE546.out | refine below_set ?_ GE563.out) | exact HB.out)) : p := h
theorem au4_10 {p : Prop} (h : p := by (with_reducible repeat (first | apply Kd.S_alloc | apply Kd.S_drewN | apply Kd.S_drew)); exact HO566.out) : p := h
theorem au4_11 {p : Prop} (h : p := by (with_reducible repeat (first | apply Kd.S_alloc | apply Kd.S_drewN | apply Kd.S_drew)); exact HO586.out) : p := h
theorem au4_12 {p : Prop} (h : p := by rw [show t579.length = t564.length from (Kd.S_reads' HO_6.out).1.symm]; exact (Kd.S_reads' HO_6.out).2.1) : p := h
theorem au4_13 {p : Prop} (h : p := by repeat (first | (with_reducible first | exact HK.out | apply Kept.alloc | apply Kept.drewN | apply Kept.drew) | exact HK.out)) : p := h
theorem au4_14 {p : Prop} (h : p := by first | (rw [show t579.length = t564.length from (Kd.S_reads' HO_6.out).1.symm] <;> rfl) | rfl) : p := h
theorem au4_15 {p : Prop} (h : p := by (with_reducible repeat (first | apply Kd.S_alloc | apply Kd.S_drewN | apply Kd.S_drew)); exact HO_0.out) : p := h
theorem au4_16 {p : Prop} (h : p := by (with_reducible repeat (first | apply Kd.S_alloc | apply Kd.S_drewN | apply Kd.S_drew)); exact HO589.out) : p := h
theorem au4_17 {p : Prop} (h : p := by (with_reducible repeat (first | apply Kd.S_alloc | apply Kd.S_drewN | apply Kd.S_drew)); exact HP9_.out) : p := h
theorem au4_18 {p : Prop} (h : p := by repeat (first | exact (Kd.S_reads' HO566.out).2.2 | (with_reducible refine Kd.C_alloc ?_ _) | (with_reducible refine Kd.C_drewN ?_ _) | (with_reducible refine Kd.C_drew ?_))) : p := h
theorem au4_19 {p : Prop} (h : p := by repeat (first | exact (Kd.S_reads' HO556.out).2.2 | (with_reducible refine Kd.C_alloc ?_ _) | (with_reducible refine Kd.C_drewN ?_ _) | (with_reducible refine Kd.C_drew ?_))) : p := h
theorem au4_20 {p : Prop} (h : p := by repeat (first | exact (Kd.S_reads' HO586.out).2.2 | (with_reducible refine Kd.C_alloc ?_ _) | (with_reducible refine Kd.C_drewN ?_ _) | (with_reducible refine Kd.C_drew ?_))) : p := h
theorem au4_21 {p : Prop} (h : p := by repeat (first | exact (Kd.S_reads' HO589.out).2.2 | (with_reducible refine Kd.C_alloc ?_ _) | (with_reducible refine Kd.C_drewN ?_ _) | (with_reducible refine Kd.C_drew ?_))) : p := h
theorem au4_22 {p : Prop} (h : p := by repeat (first | exact (Kd.S_reads' HO_4.out).2.2 | (with_reducible refine Kd.C_alloc ?_ _) | (with_reducible refine Kd.C_drewN ?_ _) | (with_reducible refine Kd.C_drew ?_))) : p := h
theorem au4_23 {p : Prop} (h : p := by (with_reducible repeat (first | apply Kd.S_alloc | apply Kd.S_drewN | apply Kd.S_drew)); exact (Kd.S_mono (Kd.S_far (p := ⟨gb563, 3, none⟩) (Kd.S_far (p := ⟨gb563, 2, none⟩) (Kd.S_far (p := ⟨gb563, 1, none⟩) (Kd.S_far (p := ⟨gb563, 0, none⟩) (Kd.S_types HO562.out BK563.out (by decide)) (fun _ hk => hk.2) (.string t557)) (fun _ hk => hk.2) (.string t558)) (fun _ hk => hk.2) (.int .i64 t559)) (fun _ hk => hk.2) (.slice Ao111 t560.length co111)) (fun _ h_ => h_.1))) : p := h
theorem au4_24 {p : Prop} (h : p := by (with_reducible repeat (first | apply Kd.S_alloc | apply Kd.S_drewN | apply Kd.S_drew)); exact (Kd.S_mono (Kd.S_far (p := ⟨gb563, 3, none⟩) (Kd.S_far (p := ⟨gb563, 2, none⟩) (Kd.S_far (p := ⟨gb563, 1, none⟩) (Kd.S_far (p := ⟨gb563, 0, none⟩) (Kd.S_types HO556.out BK563.out (by decide)) (fun _ hk => hk.2) (.string t557)) (fun _ hk => hk.2) (.string t558)) (fun _ hk => hk.2) (.int .i64 t559)) (fun _ hk => hk.2) (.slice Ao111 t560.length co111)) (fun _ h_ => h_.1))) : p := h
theorem au4_25 {p : Prop} (h : p := by (with_reducible repeat (first | apply Kd.S_alloc | apply Kd.S_drewN | apply Kd.S_drew)); exact (Kd.S_mono (Kd.S_far (p := ⟨gb563, 3, none⟩) (Kd.S_far (p := ⟨gb563, 2, none⟩) (Kd.S_far (p := ⟨gb563, 1, none⟩) (Kd.S_far (p := ⟨gb563, 0, none⟩) (Kd.S_types HO562.out BK563.out (by decide)) (fun _ hk => hk.2) (.string t557)) (fun _ hk => hk.2) (.string t558)) (fun _ hk => hk.2) (.int .i64 t559)) (fun _ hk => hk.2) (.slice Ao132 t560.length co132)) (fun _ h_ => h_.1))) : p := h
theorem au4_26 {p : Prop} (h : p := by (with_reducible repeat (first | apply Kd.S_alloc | apply Kd.S_drewN | apply Kd.S_drew)); exact (Kd.S_mono (Kd.S_far (p := ⟨gb563, 3, none⟩) (Kd.S_far (p := ⟨gb563, 2, none⟩) (Kd.S_far (p := ⟨gb563, 1, none⟩) (Kd.S_far (p := ⟨gb563, 0, none⟩) (Kd.S_types HO556.out BK563.out (by decide)) (fun _ hk => hk.2) (.string t557)) (fun _ hk => hk.2) (.string t558)) (fun _ hk => hk.2) (.int .i64 t559)) (fun _ hk => hk.2) (.slice Ao132 t560.length co132)) (fun _ h_ => h_.1))) : p := h
theorem au4_27 {p : Prop} (h : p := by (with_reducible repeat (first | apply Kd.S_alloc | apply Kd.S_drewN | apply Kd.S_drew)); exact (Kd.S_mono (Kd.S_far (p := ⟨gb563, 3, none⟩) (Kd.S_far (p := ⟨gb563, 2, none⟩) (Kd.S_far (p := ⟨gb563, 1, none⟩) (Kd.S_far (p := ⟨gb563, 0, none⟩) (Kd.S_types HO562.out BK563.out (by decide)) (fun _ hk => hk.2) (.string t557)) (fun _ hk => hk.2) (.string t558)) (fun _ hk => hk.2) (.int .i64 t559)) (fun _ hk => hk.2) (.slice Ao30 t560.length co30)) (fun _ h_ => h_.1))) : p := h
theorem au4_28 {p : Prop} (h : p := by (with_reducible repeat (first | apply Kd.S_alloc | apply Kd.S_drewN | apply Kd.S_drew)); exact (Kd.S_mono (Kd.S_far (p := ⟨gb563, 3, none⟩) (Kd.S_far (p := ⟨gb563, 2, none⟩) (Kd.S_far (p := ⟨gb563, 1, none⟩) (Kd.S_far (p := ⟨gb563, 0, none⟩) (Kd.S_types HO556.out BK563.out (by decide)) (fun _ hk => hk.2) (.string t557)) (fun _ hk => hk.2) (.string t558)) (fun _ hk => hk.2) (.int .i64 t559)) (fun _ hk => hk.2) (.slice Ao30 t560.length co30)) (fun _ h_ => h_.1))) : p := h
theorem au4_29 {p : Prop} (h : p := by (with_reducible repeat (first | apply Kd.S_alloc | apply Kd.S_drewN | apply Kd.S_drew)); exact HO573.out) : p := h
theorem au4_30 {p : Prop} (h : p := by repeat (first | (with_reducible first | exact HB.out | apply below_alloc | apply pw_below_drewN | apply below_drew1) | exact HB.out)) : p := h
theorem au4_31 {p : Prop} (h : p := by first | (with_reducible exact HZT.out) | exact HZT.out.below bl_) : p := h
theorem au4_32 {p : Prop} (h : p := by repeat (first | exact (Kd.S_reads' HO553.out).2.2 | (with_reducible refine Kd.C_alloc ?_ _) | (with_reducible refine Kd.C_drewN ?_ _) | (with_reducible refine Kd.C_drew ?_))) : p := h
theorem au4_33 {p : Prop} (h : p := by (with_reducible repeat (first | apply Kd.S_alloc | apply Kd.S_drewN | apply Kd.S_drew)); exact HO0.out) : p := h
theorem au4_34 {p : Prop} (h : p := by (with_reducible repeat (first | apply Kd.S_alloc | apply Kd.S_drewN | apply Kd.S_drew)); exact HR.out) : p := h
theorem au4_35 {p : Prop} (h : p := by (with_reducible repeat (first | apply Kd.S_alloc | apply Kd.S_drewN | apply Kd.S_drew)); exact Kd.S_mono HO556.out (fun _ hk => ⟨hk.2.2, ⟨hk.1, ⟨hk.2.1.1, ⟨hk.2.1.2.1, hk.2.1.2.2⟩⟩⟩⟩)) : p := h
theorem au4_36 {p : Prop} (h : p := by rintro w' ⟨s0, s1, s2, s3, s4, s5⟩; go_simp; with_reducible rfl) : p := h
theorem au4_37 {p : Prop} (h : p := by repeat (first | exact (Kd.C_below HR527_2.out HB.out) | (with_reducible refine Kd.C_alloc ?_ _) | (with_reducible refine Kd.C_drewN ?_ _) | (with_reducible refine Kd.C_drew ?_))) : p := h
theorem au4_38 {p : Prop} (h : p := by repeat (first | exact (Kd.C_below HR528_2.out HB.out) | (with_reducible refine Kd.C_alloc ?_ _) | (with_reducible refine Kd.C_drewN ?_ _) | (with_reducible refine Kd.C_drew ?_))) : p := h
theorem au4_39 {p : Prop} (h : p := by repeat (first | exact (Kd.C_below HR540_0.out HB.out) | (with_reducible refine Kd.C_alloc ?_ _) | (with_reducible refine Kd.C_drewN ?_ _) | (with_reducible refine Kd.C_drew ?_))) : p := h
theorem au4_40 {p : Prop} (h : p := by repeat (first | exact (Kd.C_below HR544_1.out HB.out) | (with_reducible refine Kd.C_alloc ?_ _) | (with_reducible refine Kd.C_drewN ?_ _) | (with_reducible refine Kd.C_drew ?_))) : p := h
theorem au4_41 {p : Prop} (h : p := by repeat (first | exact (Kd.C_below HR0_2.out HB.out) | (with_reducible refine Kd.C_alloc ?_ _) | (with_reducible refine Kd.C_drewN ?_ _) | (with_reducible refine Kd.C_drew ?_))) : p := h
theorem au4_42 {p : Prop} (h : p := by repeat (first | exact (Kd.C_below HR1_2.out HB.out) | (with_reducible refine Kd.C_alloc ?_ _) | (with_reducible refine Kd.C_drewN ?_ _) | (with_reducible refine Kd.C_drew ?_))) : p := h
theorem au4_43 {p : Prop} (h : p := by repeat (first | exact (Kd.C_below HR1_3.out HB.out) | (with_reducible refine Kd.C_alloc ?_ _) | (with_reducible refine Kd.C_drewN ?_ _) | (with_reducible refine Kd.C_drew ?_))) : p := h
theorem au4_44 {p : Prop} (h : p := by repeat (first | exact (Kd.S_reads' HO562.out).2.2 | (with_reducible refine Kd.C_alloc ?_ _) | (with_reducible refine Kd.C_drewN ?_ _) | (with_reducible refine Kd.C_drew ?_))) : p := h
theorem au4_45 {p : Prop} (h : p := by repeat (first | exact (Kd.S_reads' HO573.out).2.2 | (with_reducible refine Kd.C_alloc ?_ _) | (with_reducible refine Kd.C_drewN ?_ _) | (with_reducible refine Kd.C_drew ?_))) : p := h
theorem au4_46 {p : Prop} (h : p := by (with_reducible repeat (first | apply Kd.S_alloc | apply Kd.S_drewN | apply Kd.S_drew)); exact Kd.S_mono HO566.out (fun _ hk => ⟨hk.2.2, ⟨hk.1, hk.2.1⟩⟩)) : p := h
theorem au4_47 {p : Prop} (h : p := by (with_reducible repeat (first | apply Kd.S_alloc | apply Kd.S_drewN | apply Kd.S_drew)); exact Kd.S_mono HO562.out (fun _ hk => ⟨hk.2.1, hk.2.2.1⟩)) : p := h
theorem au4_48 {p : Prop} (h : p := by exact (Kd.S_reads' HO562.out).2.1) : p := h
theorem au4_49 {p : Prop} (h : p := by rintro w' ⟨s0, s1⟩; go_simp; with_reducible rfl) : p := h
theorem au4_50 {p : Prop} (h : p := by simpa [Value.ownBlock] using e_) : p := h
theorem au4_51 {p : Prop} (h : p := by exact (Kd.S_reads' HO566.out).2.1) : p := h
theorem au4_52 {p : Prop} (h : p := by exact (Kd.S_reads' HO556.out).2.1) : p := h
theorem au4_53 {p : Prop} (h : p := by exact (Kd.S_reads' HO586.out).2.1) : p := h
theorem au4_54 {p : Prop} (h : p := by exact (Kd.S_reads' HO589.out).2.1) : p := h
theorem au4_55 {p : Prop} (h : p := by exact (Kd.S_reads' HO_4.out).2.1) : p := h

/-! ### F64: function 64 -/
def F64.f (k : Nat) (a0_0 : Int) (a0_1 : Int) (l0_2 : List (S56)) (a1_0 : Int) (a1_1 : Int) (l1_2 : List (S56)) : Option (Bool) := if a0_0 = a1_0 then (if a0_1 = a1_1 then ((F98.f k l0_2 l1_2).bind fun t526 => (if t526 = true then (some true) else (some false))) else (some false)) else (some false)
theorem F64.mono : ∀ a0 a1 a2 a3 a4 a5 k, LeO (F64.f k a0 a1 a2 a3 a4 a5) (F64.f (k + 1) a0 a1 a2 a3 a4 a5) := by
 intro a0 a1 a2 a3 a4 a5 k
 unfold F64.f
 repeat' with_reducible first | exact F98.mono _ _ _ | exact LeO.refl _ | exact LeO.none _ | refine LeO.ite ?_ ?_ | refine LeO.bind ?_ (fun _ => ?_)
theorem F64.calls (k : Nat) (a0_0 : Int) (a0_1 : Int) (A0_2 : Option Addr) (c0_2 : Nat) (l0_2 : List (S56)) (a1_0 : Int) (a1_1 : Int) (A1_2 : Option Addr) (c1_2 : Nat) (l1_2 : List (S56)) (r : Bool) (w : World) (hr0_2 : Kd.C k56 w A0_2 l0_2.length l0_2) (hc0_2 : l0_2.length ≤ c0_2) (hr1_2 : Kd.C k56 w A1_2 l1_2.length l1_2) (hc1_2 : l1_2.length ≤ c1_2) (h : F64.f k a0_0 a0_1 l0_2 a1_0 a1_1 l1_2 = some r) :
  Calls Tryz.prog 64 #[.agg #[.int .i64 a0_0, .int .i64 a0_1, .slice A0_2 l0_2.length c0_2], .agg #[.int .i64 a1_0, .int .i64 a1_1, .slice A1_2 l1_2.length c1_2]] w fun e w' => e = .returned (.bool r) ∧ Below w.heap.size w w' := by
 have hu53 := Tryz.underlying53
 have HR0_2 := am_ hr0_2
 have HC0_2 := am_ hc0_2
 clear hr0_2 hc0_2
 have HR1_2 := am_ hr1_2
 have HC1_2 := am_ hc1_2
 clear hr1_2 hc1_2
 have HB := am_ (Below.refl w.heap.size w)
 have H : (if a0_0 = a1_0 then (if a0_1 = a1_1 then ((F98.f k l0_2 l1_2).bind fun t526 => (if t526 = true then (some true) else (some false))) else (some false)) else (some false)) = some r := h
 clear h
 by_cases c3 : a0_0 = a1_0
 rotate_left
 ·rw [if_neg c3] at H
  have c3b0 : (a0_0 == a1_0) = false := beq_eq_false_iff_ne.mpr c3
  have c3b1 : (a0_0 != a1_0) = true := bne_iff_ne.mpr c3
  obtain rfl := Option.some.inj H
  go_enter Tryz.func64, Tryz.ntmps64
  go_wp2_with (first | ((with_reducible refine gate_dst (N := 2) rfl ?_); refine be_ 2 #[.int .i64 a0_0, .int .i64 a0_1, .slice A0_2 l0_2.length c0_2] 53 ?_; intro gb524 hg w24 hbox hb; have BK524 := am_ (hbox); have GW524 := am_ (gw_ hg bl_); have GE524 := GW524; replace HB := hs_ w hb; clear hb hbox hg) | ((with_reducible refine gate_dst (N := 3) rfl ?_); refine be_ 3 #[.int .i64 a1_0, .int .i64 a1_1, .slice A1_2 l1_2.length c1_2] 53 ?_; intro gb525 hg w25 hbox hb; have BK525 := am_ (hbox); have GW525 := am_ (gw_ hg bl_); have GE525 := GW525; replace HB := hs_ w hb; have NB524_525 := am_ (gn_ hg (blkl_ BK524)); have NB525_524 := am_ (gm_ hg (blkl_ BK524)); replace BK524 := bb_ BK524 hb; clear hb hbox hg; have hnb26 := NB524_525.out; have hnc26 := NB525_524.out; obtain ⟨hcz27_0, hcz27_1, hcz27_2, hfz27_0, hfz27_1, hfz27_2⟩ := cellsF3 BK524.out; obtain ⟨hcz28_0, hcz28_1, hcz28_2, hfz28_0, hfz28_1, hfz28_2⟩ := cellsF3 BK525.out))
  go_ret
  exact ⟨au4_1, bl_⟩

 rw [if_pos c3] at H
 have c3b0 : (a0_0 == a1_0) = true := beq_iff_eq.mpr c3
 have c3b1 : (a0_0 != a1_0) = false := bne_eq_false_iff_eq.mpr c3
 clear c3
 by_cases c4 : a0_1 = a1_1
 rotate_left
 ·rw [if_neg c4] at H
  have c4b0 : (a0_1 == a1_1) = false := beq_eq_false_iff_ne.mpr c4
  have c4b1 : (a0_1 != a1_1) = true := bne_iff_ne.mpr c4
  obtain rfl := Option.some.inj H
  go_enter Tryz.func64, Tryz.ntmps64
  go_wp2_with (first | ((with_reducible refine gate_dst (N := 2) rfl ?_); refine be_ 2 #[.int .i64 a0_0, .int .i64 a0_1, .slice A0_2 l0_2.length c0_2] 53 ?_; intro gb524 hg w19 hbox hb; have BK524 := am_ (hbox); have GW524 := am_ (gw_ hg bl_); have GE524 := GW524; replace HB := hs_ w hb; clear hb hbox hg) | ((with_reducible refine gate_dst (N := 3) rfl ?_); refine be_ 3 #[.int .i64 a1_0, .int .i64 a1_1, .slice A1_2 l1_2.length c1_2] 53 ?_; intro gb525 hg w20 hbox hb; have BK525 := am_ (hbox); have GW525 := am_ (gw_ hg bl_); have GE525 := GW525; replace HB := hs_ w hb; have NB524_525 := am_ (gn_ hg (blkl_ BK524)); have NB525_524 := am_ (gm_ hg (blkl_ BK524)); replace BK524 := bb_ BK524 hb; clear hb hbox hg; have hnb21 := NB524_525.out; have hnc21 := NB525_524.out; obtain ⟨hcz22_0, hcz22_1, hcz22_2, hfz22_0, hfz22_1, hfz22_2⟩ := cellsF3 BK524.out; obtain ⟨hcz23_0, hcz23_1, hcz23_2, hfz23_0, hfz23_1, hfz23_2⟩ := cellsF3 BK525.out))
  go_ret
  exact ⟨au4_1, bl_⟩
 rw [if_pos c4] at H
 have c4b0 : (a0_1 == a1_1) = true := beq_iff_eq.mpr c4
 have c4b1 : (a0_1 != a1_1) = false := bne_eq_false_iff_eq.mpr c4
 clear c4
 replace H := bi_ H; rcases H with ⟨t526, A5, H⟩
 replace H := ib_ H; rcases H with ⟨rfl, H⟩ | ⟨rfl, H⟩
 rotate_left
 ·obtain rfl := Option.some.inj H
  go_enter Tryz.func64, Tryz.ntmps64
  go_wp2_with (first | ((with_reducible refine gate_dst (N := 2) rfl ?_); refine be_ 2 #[.int .i64 a0_0, .int .i64 a0_1, .slice A0_2 l0_2.length c0_2] 53 ?_; intro gb524 hg w13 hbox hb; have BK524 := am_ (hbox); have GW524 := am_ (gw_ hg bl_); have GE524 := GW524; replace HB := hs_ w hb; clear hb hbox hg) | ((with_reducible refine gate_dst (N := 3) rfl ?_); refine be_ 3 #[.int .i64 a1_0, .int .i64 a1_1, .slice A1_2 l1_2.length c1_2] 53 ?_; intro gb525 hg w14 hbox hb; have BK525 := am_ (hbox); have GW525 := am_ (gw_ hg bl_); have GE525 := GW525; replace HB := hs_ w hb; have NB524_525 := am_ (gn_ hg (blkl_ BK524)); have NB525_524 := am_ (gm_ hg (blkl_ BK524)); replace BK524 := bb_ BK524 hb; clear hb hbox hg; have hnb15 := NB524_525.out; have hnc15 := NB525_524.out; obtain ⟨hcz16_0, hcz16_1, hcz16_2, hfz16_0, hfz16_1, hfz16_2⟩ := cellsF3 BK524.out; obtain ⟨hcz17_0, hcz17_1, hcz17_2, hfz17_0, hfz17_1, hfz17_2⟩ := cellsF3 BK525.out) | ((with_reducible refine gate_callee (f := 98) rfl ?_); refine gl_ 19 Tryz.func98 #[.slice A0_2 l0_2.length c0_2, .slice A1_2 l1_2.length c1_2] ?_ rfl rfl rfl rfl; (with_reducible refine (F98.calls k _ _ l0_2 _ _ l1_2 false _ ?s1 ?s2 ?s3 ?s4 A5.out).mono ?_); (case s1 => exact au4_41); (case s2 => exact HC0_2.out); (case s3 => exact au4_42); (case s4 => exact HC1_2.out); rintro e w18 ⟨rfl, hb⟩; refine ⟨_, rfl, ?_⟩; replace BK524 := bb_ BK524 hb; replace BK525 := bb_ BK525 hb; replace HB := hs_ w hb; (try clear hb)))
  go_ret
  exact ⟨au4_1, bl_⟩
 obtain rfl := Option.some.inj H
 go_enter Tryz.func64, Tryz.ntmps64
 go_wp2_with (first | ((with_reducible refine gate_dst (N := 2) rfl ?_); refine be_ 2 #[.int .i64 a0_0, .int .i64 a0_1, .slice A0_2 l0_2.length c0_2] 53 ?_; intro gb524 hg w7 hbox hb; have BK524 := am_ (hbox); have GW524 := am_ (gw_ hg bl_); have GE524 := GW524; replace HB := hs_ w hb; clear hb hbox hg) | ((with_reducible refine gate_dst (N := 3) rfl ?_); refine be_ 3 #[.int .i64 a1_0, .int .i64 a1_1, .slice A1_2 l1_2.length c1_2] 53 ?_; intro gb525 hg w8 hbox hb; have BK525 := am_ (hbox); have GW525 := am_ (gw_ hg bl_); have GE525 := GW525; replace HB := hs_ w hb; have NB524_525 := am_ (gn_ hg (blkl_ BK524)); have NB525_524 := am_ (gm_ hg (blkl_ BK524)); replace BK524 := bb_ BK524 hb; clear hb hbox hg; have hnb9 := NB524_525.out; have hnc9 := NB525_524.out; obtain ⟨hcz10_0, hcz10_1, hcz10_2, hfz10_0, hfz10_1, hfz10_2⟩ := cellsF3 BK524.out; obtain ⟨hcz11_0, hcz11_1, hcz11_2, hfz11_0, hfz11_1, hfz11_2⟩ := cellsF3 BK525.out) | ((with_reducible refine gate_callee (f := 98) rfl ?_); refine gl_ 19 Tryz.func98 #[.slice A0_2 l0_2.length c0_2, .slice A1_2 l1_2.length c1_2] ?_ rfl rfl rfl rfl; (with_reducible refine (F98.calls k _ _ l0_2 _ _ l1_2 true _ ?s1 ?s2 ?s3 ?s4 A5.out).mono ?_); (case s1 => exact au4_41); (case s2 => exact HC0_2.out); (case s3 => exact au4_42); (case s4 => exact HC1_2.out); rintro e w12 ⟨rfl, hb⟩; refine ⟨_, rfl, ?_⟩; replace BK524 := bb_ BK524 hb; replace BK525 := bb_ BK525 hb; replace HB := hs_ w hb; (try clear hb)))
 go_ret
 exact ⟨au4_1, bl_⟩
/-! ### F32: function 32 -/
def F32.l0 : Nat → List (S53) → List (S53) → Int → Option (Bool)
  | 0, _, _, _ => none
  | k + 1, x0, x1, x5 => if x5 < (x0.length : Int) then (if 0 ≤ x5 then (if x5 < (x1.length : Int) then ((F64.f k ((rd_T53 x0 x5).f0) ((rd_T53 x0 x5).f1) ((rd_T53 x0 x5).f2) ((rd_T53 x1 x5).f0) ((rd_T53 x1 x5).f1) ((rd_T53 x1 x5).f2)).bind fun t529 => (if t529 = true then (F32.l0 k x0 x1 (wrap64 (x5 + 1))) else (some false))) else (none)) else (none)) else (some true)
def F32.f (k : Nat) (l0 : List (S53)) (l1 : List (S53)) : Option (Bool) := if (l0.length : Int) = (l1.length : Int) then (F32.l0 k l0 l1 0) else (some false)
theorem F32.mono_l : ∀ k, (∀ y0 y1 y2, LeO (F32.l0 k y0 y1 y2) (F32.l0 (k + 1) y0 y1 y2))
 | 0 => fun _ _ _ r h => by simp [F32.l0] at h
 | k + 1 => by
  have ih0 := F32.mono_l k
  intro y0 y1 y2
  unfold F32.l0
  repeat' with_reducible first | exact ih0 _ _ _ | exact F64.mono _ _ _ _ _ _ _ | exact LeO.refl _ | exact LeO.none _ | refine LeO.ite ?_ ?_ | refine LeO.bind ?_ (fun _ => ?_)
theorem F32.mono : ∀ a0 a1 k, LeO (F32.f k a0 a1) (F32.f (k + 1) a0 a1) := by
 intro a0 a1 k
 have ih0 := F32.mono_l k
 unfold F32.f
 repeat' with_reducible first | exact ih0 _ _ _ | exact F64.mono _ _ _ _ _ _ _ | exact LeO.refl _ | exact LeO.none _ | refine LeO.ite ?_ ?_ | refine LeO.bind ?_ (fun _ => ?_)
def F32.T6 : Bool × List (List Nat × List Nat) := (true, [([], []), ([], []), ([0, 1], [0, 1]), ([2], [2]), ([], []), ([], []), ([4, 5], [4, 5]), ([6], [6]), ([3, 7], [3, 7]), ([8], [8])])
def F32.B6 : List Nat := [0, 0, 3, 7, 0, 0, 48, 112, 255, 511]
theorem F32.tab6 : rtab .any (opsOf Tryz.f32 6) = F32.T6 := by kernel_rfl
theorem F32.bits6 : waitsOk F32.T6.2 F32.B6 = true := by kernel_rfl
theorem F32.calls (k : Nat) (A0 : Option Addr) (c0 : Nat) (l0 : List (S53)) (A1 : Option Addr) (c1 : Nat) (l1 : List (S53)) (r : Bool) (w : World) (hr0 : Kd.C k53 w A0 l0.length l0) (hc0 : l0.length ≤ c0) (hr1 : Kd.C k53 w A1 l1.length l1) (hc1 : l1.length ≤ c1) (h : F32.f k l0 l1 = some r) :
  Calls Tryz.prog 32 #[.slice A0 l0.length c0, .slice A1 l1.length c1] w fun e w' => e = .returned (.bool r) ∧ Below w.heap.size w w' := by
 have hu53 := Tryz.underlying53
 have HR0 := am_ hr0
 have HC0 := am_ hc0
 clear hr0 hc0
 have HR1 := am_ hr1
 have HC1 := am_ hc1
 clear hr1 hc1
 have HB := am_ (Below.refl w.heap.size w)
 have H : (if (l0.length : Int) = (l1.length : Int) then (F32.l0 k l0 l1 0) else (some false)) = some r := h
 clear h
 by_cases c3 : (l0.length : Int) = (l1.length : Int)
 rotate_left
 ·rw [if_neg c3] at H
  have c3b0 : ((l0.length : Int) == (l1.length : Int)) = false := beq_eq_false_iff_ne.mpr c3
  have c3b1 : ((l0.length : Int) != (l1.length : Int)) = true := bne_iff_ne.mpr c3
  have c3b2 : (l0.length == l1.length) = false := by first | simpa using c3 | (simp at c3 ⊢; omega)
  obtain rfl := Option.some.inj H
  go_enter Tryz.func32, Tryz.ntmps32
  go_wp2
  go_ret
  exact ⟨au4_1, bl_⟩

 rw [if_pos c3] at H
 have c3b0 : ((l0.length : Int) == (l1.length : Int)) = true := beq_iff_eq.mpr c3
 have c3b1 : ((l0.length : Int) != (l1.length : Int)) = false := bne_eq_false_iff_eq.mpr c3
 have c3b2 : (l0.length == l1.length) = true := by first | simpa using c3 | (simp at c3 ⊢; omega)
 clear c3
 have H' := am_ H
 clear H
 go_enter Tryz.func32, Tryz.ntmps32
 go_wp2
 go_loopg [5] k (fun kq v5 w' => ∃ (x5_1 : Int), v5 = .int .i64 x5_1 ∧ Aside0 (F32.l0 kq l0 l1 x5_1 = some r) ∧ Aside0 (kq ≤ k) ∧ Aside0 (Below w.heap.size w w'))
 case atStart => exact ⟨(0), er_, H', ⟨Nat.le_refl _⟩, ⟨bl_⟩⟩
 case round =>
  clear H'
  try clear c1
  try clear c3
  try clear c3b0
  try clear c3b1
  try clear c3b2
  obtain ⟨x5_1, rfl, HA, HK1, HB⟩ := hrel
  cases gk with
  | zero => exact absurd HA.out (by simp [F32.l0])
  | succ k1 =>
   have H := HA.out
   clear HA
   simp only [F32.l0] at H
   replace H := it_ H; rcases H with ⟨c4b0, H⟩ | ⟨c4b0, H⟩
   rotate_left
   ·obtain rfl := Option.some.inj H
    go_wp2
    go_ret
    exact ⟨au4_1, bl_⟩
   replace H := itn_ H; rcases H with ⟨c5b0, H⟩
   replace H := itn_ H; rcases H with ⟨c6b0, H⟩
   replace H := bi_ H; rcases H with ⟨t529, A7, H⟩
   replace H := ib_ H; rcases H with ⟨rfl, H⟩ | ⟨rfl, H⟩
   rotate_left
   ·obtain rfl := Option.some.inj H
    try go_wp2
    replace HB := am_ (below_drew1 HB.out)
    have p527 : 0 ≤ (x5_1 : Int) := od_
    have q527 : x5_1 < (l0.length : Int) := od_
    obtain ⟨ad527, A527_2, c527_2, e527, hx527_0, hx527_1, hx527_2, hl527_2, hi527_2⟩ := at_T53 HR0.out x5_1 p527 q527
    have hw527_2 := hx527_2
    have hw527_1 := hx527_1
    have hw527_0 := hx527_0
    cases e527
    replace hx527_0 := (HB.out.cell (World.block_lt_of_cell? _ _ hx527_0)).trans hx527_0
    replace hx527_1 := (HB.out.cell (World.block_lt_of_cell? _ _ hx527_1)).trans hx527_1
    replace hx527_2 := (HB.out.cell (World.block_lt_of_cell? _ _ hx527_2)).trans hx527_2
    have HR527_2 := am_ hi527_2
    have HC527_2 := am_ hl527_2
    clear hi527_2 hl527_2
    replace p527 := eq_true p527
    replace q527 := eq_true q527
    have p528 : 0 ≤ (x5_1 : Int) := od_
    have q528 : x5_1 < (l1.length : Int) := od_
    obtain ⟨ad528, A528_2, c528_2, e528, hx528_0, hx528_1, hx528_2, hl528_2, hi528_2⟩ := at_T53 HR1.out x5_1 p528 q528
    have hw528_2 := hx528_2
    have hw528_1 := hx528_1
    have hw528_0 := hx528_0
    cases e528
    replace hx528_0 := (HB.out.cell (World.block_lt_of_cell? _ _ hx528_0)).trans hx528_0
    replace hx528_1 := (HB.out.cell (World.block_lt_of_cell? _ _ hx528_1)).trans hx528_1
    replace hx528_2 := (HB.out.cell (World.block_lt_of_cell? _ _ hx528_2)).trans hx528_2
    have HR528_2 := am_ hi528_2
    have HC528_2 := am_ hl528_2
    clear hi528_2 hl528_2
    replace p528 := eq_true p528
    replace q528 := eq_true q528
    refine start_ (n := 10) (S := fun w' => w'.cell? (ad527.add ((x5_1).toNat * 3)) = some (.int .i64 ((rd_T53 l0 x5_1).f0)) ∧ w'.cell? ⟨(ad527.add ((x5_1).toNat * 3)).block, (ad527.add ((x5_1).toNat * 3)).off + 1, none⟩ = some (.int .i64 ((rd_T53 l0 x5_1).f1)) ∧ w'.cell? ⟨(ad527.add ((x5_1).toNat * 3)).block, (ad527.add ((x5_1).toNat * 3)).off + 2, none⟩ = some (.slice A527_2 ((rd_T53 l0 x5_1).f2).length c527_2) ∧ w'.cell? (ad528.add ((x5_1).toNat * 3)) = some (.int .i64 ((rd_T53 l1 x5_1).f0)) ∧ w'.cell? ⟨(ad528.add ((x5_1).toNat * 3)).block, (ad528.add ((x5_1).toNat * 3)).off + 1, none⟩ = some (.int .i64 ((rd_T53 l1 x5_1).f1)) ∧ w'.cell? ⟨(ad528.add ((x5_1).toNat * 3)).block, (ad528.add ((x5_1).toNat * 3)).off + 2, none⟩ = some (.slice A528_2 ((rd_T53 l1 x5_1).f2).length c528_2)) (ds := []) (bs 10 0) (by kernel_rfl) rfl rfl ⟨((HB.out.cell (World.block_lt_of_cell? _ _ hw527_0)).trans hw527_0), ((HB.out.cell (World.block_lt_of_cell? _ _ hw527_1)).trans hw527_1), ((HB.out.cell (World.block_lt_of_cell? _ _ hw527_2)).trans hw527_2), ((HB.out.cell (World.block_lt_of_cell? _ _ hw528_0)).trans hw528_0), ((HB.out.cell (World.block_lt_of_cell? _ _ hw528_1)).trans hw528_1), ((HB.out.cell (World.block_lt_of_cell? _ _ hw528_2)).trans hw528_2)⟩ (fun hHeld => ?_); refine with_tabW F32.tab6 F32.bits6 (fun HT_ HW_ => ?_)
    generalize wr.drew = w11 at HB HR527_2 HR528_2 hx527_0 hx527_1 hx527_2 hx528_0 hx528_1 hx528_2 hHeld ⊢
    refine pu_ 0 17 (bs 10 1) HT_ ?_ rfl rfl
    refine pu_ 1 18 (bs 10 3) HT_ ?_ rfl rfl
    refine pu_ 2 19 (bs 10 7) HT_ ?_ rfl rfl
    refine pu_ 4 21 (bs 10 23) HT_ ?_ rfl rfl
    refine pu_ 5 22 (bs 10 55) HT_ ?_ rfl rfl
    refine pu_ 6 23 (bs 10 119) HT_ ?_ rfl rfl
    refine tk_ 3 20 (bs 10 127) HT_ HW_ hHeld au4_36 ?_ rfl rfl
    refine tk_ 7 24 (bs 10 255) HT_ HW_ hHeld au4_36 ?_ rfl rfl
    refine one_ (i := 8) (N := some 25) (bs 10 511) rfl rfl (one_of HT_.out (by kernel_rfl)) (by decide) (fun K hK => ?_)
    refine gr_ Tryz.func64 #[.agg #[.int .i64 ((rd_T53 l0 x5_1).f0), .int .i64 ((rd_T53 l0 x5_1).f1), .slice A527_2 ((rd_T53 l0 x5_1).f2).length c527_2], .agg #[.int .i64 ((rd_T53 l1 x5_1).f0), .int .i64 ((rd_T53 l1 x5_1).f1), .slice A528_2 ((rd_T53 l1 x5_1).f2).length c528_2]] (by rfl) ?_ rfl rfl rfl
    with_reducible refine (F64.calls k1 ((rd_T53 l0 x5_1).f0) ((rd_T53 l0 x5_1).f1) _ _ ((rd_T53 l0 x5_1).f2) ((rd_T53 l1 x5_1).f0) ((rd_T53 l1 x5_1).f1) _ _ ((rd_T53 l1 x5_1).f2) false _ ?s1 ?s2 ?s3 ?s4 A7.out).mono ?_
    (case s1 => exact au4_37)
    (case s2 => exact HC527_2.out)
    (case s3 => exact au4_38)
    (case s4 => exact HC528_2.out)
    rintro e w12 ⟨rfl, hb⟩
    refine ⟨_, rfl, ?_⟩
    replace HB := hs_ w hb
    (try clear hb)
    (try clear hb2)
    (try clear hk)
    (try clear hi)
    refine hK.out _ _ ⟨((HB.out.cell (World.block_lt_of_cell? _ _ hw527_0)).trans hw527_0), ((HB.out.cell (World.block_lt_of_cell? _ _ hw527_1)).trans hw527_1), ((HB.out.cell (World.block_lt_of_cell? _ _ hw527_2)).trans hw527_2), ((HB.out.cell (World.block_lt_of_cell? _ _ hw528_0)).trans hw528_0), ((HB.out.cell (World.block_lt_of_cell? _ _ hw528_1)).trans hw528_1), ((HB.out.cell (World.block_lt_of_cell? _ _ hw528_2)).trans hw528_2)⟩ (fun hHeld => ?_)
    clear hK K
    refine no_ 25 ?_
    refine pu_ 9 26 (bs 10 1023) HT_ ?_ rfl rfl
    refine done_ (done_of HT_.out (by kernel_rfl)) ?_
    try go_wp2
    go_ret
    exact ⟨au4_1, bl_⟩
   have H' := am_ H
   clear H
   try go_wp2
   replace HB := am_ (below_drew1 HB.out)
   have p527 : 0 ≤ (x5_1 : Int) := od_
   have q527 : x5_1 < (l0.length : Int) := od_
   obtain ⟨ad527, A527_2, c527_2, e527, hx527_0, hx527_1, hx527_2, hl527_2, hi527_2⟩ := at_T53 HR0.out x5_1 p527 q527
   have hw527_2 := hx527_2
   have hw527_1 := hx527_1
   have hw527_0 := hx527_0
   cases e527
   replace hx527_0 := (HB.out.cell (World.block_lt_of_cell? _ _ hx527_0)).trans hx527_0
   replace hx527_1 := (HB.out.cell (World.block_lt_of_cell? _ _ hx527_1)).trans hx527_1
   replace hx527_2 := (HB.out.cell (World.block_lt_of_cell? _ _ hx527_2)).trans hx527_2
   have HR527_2 := am_ hi527_2
   have HC527_2 := am_ hl527_2
   clear hi527_2 hl527_2
   replace p527 := eq_true p527
   replace q527 := eq_true q527
   have p528 : 0 ≤ (x5_1 : Int) := od_
   have q528 : x5_1 < (l1.length : Int) := od_
   obtain ⟨ad528, A528_2, c528_2, e528, hx528_0, hx528_1, hx528_2, hl528_2, hi528_2⟩ := at_T53 HR1.out x5_1 p528 q528
   have hw528_2 := hx528_2
   have hw528_1 := hx528_1
   have hw528_0 := hx528_0
   cases e528
   replace hx528_0 := (HB.out.cell (World.block_lt_of_cell? _ _ hx528_0)).trans hx528_0
   replace hx528_1 := (HB.out.cell (World.block_lt_of_cell? _ _ hx528_1)).trans hx528_1
   replace hx528_2 := (HB.out.cell (World.block_lt_of_cell? _ _ hx528_2)).trans hx528_2
   have HR528_2 := am_ hi528_2
   have HC528_2 := am_ hl528_2
   clear hi528_2 hl528_2
   replace p528 := eq_true p528
   replace q528 := eq_true q528
   refine start_ (n := 10) (S := fun w' => w'.cell? (ad527.add ((x5_1).toNat * 3)) = some (.int .i64 ((rd_T53 l0 x5_1).f0)) ∧ w'.cell? ⟨(ad527.add ((x5_1).toNat * 3)).block, (ad527.add ((x5_1).toNat * 3)).off + 1, none⟩ = some (.int .i64 ((rd_T53 l0 x5_1).f1)) ∧ w'.cell? ⟨(ad527.add ((x5_1).toNat * 3)).block, (ad527.add ((x5_1).toNat * 3)).off + 2, none⟩ = some (.slice A527_2 ((rd_T53 l0 x5_1).f2).length c527_2) ∧ w'.cell? (ad528.add ((x5_1).toNat * 3)) = some (.int .i64 ((rd_T53 l1 x5_1).f0)) ∧ w'.cell? ⟨(ad528.add ((x5_1).toNat * 3)).block, (ad528.add ((x5_1).toNat * 3)).off + 1, none⟩ = some (.int .i64 ((rd_T53 l1 x5_1).f1)) ∧ w'.cell? ⟨(ad528.add ((x5_1).toNat * 3)).block, (ad528.add ((x5_1).toNat * 3)).off + 2, none⟩ = some (.slice A528_2 ((rd_T53 l1 x5_1).f2).length c528_2)) (ds := []) (bs 10 0) (by kernel_rfl) rfl rfl ⟨((HB.out.cell (World.block_lt_of_cell? _ _ hw527_0)).trans hw527_0), ((HB.out.cell (World.block_lt_of_cell? _ _ hw527_1)).trans hw527_1), ((HB.out.cell (World.block_lt_of_cell? _ _ hw527_2)).trans hw527_2), ((HB.out.cell (World.block_lt_of_cell? _ _ hw528_0)).trans hw528_0), ((HB.out.cell (World.block_lt_of_cell? _ _ hw528_1)).trans hw528_1), ((HB.out.cell (World.block_lt_of_cell? _ _ hw528_2)).trans hw528_2)⟩ (fun hHeld => ?_); refine with_tabW F32.tab6 F32.bits6 (fun HT_ HW_ => ?_)
   generalize wr.drew = w9 at HB HR527_2 HR528_2 hx527_0 hx527_1 hx527_2 hx528_0 hx528_1 hx528_2 hHeld ⊢
   refine pu_ 0 17 (bs 10 1) HT_ ?_ rfl rfl
   refine pu_ 1 18 (bs 10 3) HT_ ?_ rfl rfl
   refine pu_ 2 19 (bs 10 7) HT_ ?_ rfl rfl
   refine pu_ 4 21 (bs 10 23) HT_ ?_ rfl rfl
   refine pu_ 5 22 (bs 10 55) HT_ ?_ rfl rfl
   refine pu_ 6 23 (bs 10 119) HT_ ?_ rfl rfl
   refine tk_ 3 20 (bs 10 127) HT_ HW_ hHeld au4_36 ?_ rfl rfl
   refine tk_ 7 24 (bs 10 255) HT_ HW_ hHeld au4_36 ?_ rfl rfl
   refine one_ (i := 8) (N := some 25) (bs 10 511) rfl rfl (one_of HT_.out (by kernel_rfl)) (by decide) (fun K hK => ?_)
   refine gr_ Tryz.func64 #[.agg #[.int .i64 ((rd_T53 l0 x5_1).f0), .int .i64 ((rd_T53 l0 x5_1).f1), .slice A527_2 ((rd_T53 l0 x5_1).f2).length c527_2], .agg #[.int .i64 ((rd_T53 l1 x5_1).f0), .int .i64 ((rd_T53 l1 x5_1).f1), .slice A528_2 ((rd_T53 l1 x5_1).f2).length c528_2]] (by rfl) ?_ rfl rfl rfl
   with_reducible refine (F64.calls k1 ((rd_T53 l0 x5_1).f0) ((rd_T53 l0 x5_1).f1) _ _ ((rd_T53 l0 x5_1).f2) ((rd_T53 l1 x5_1).f0) ((rd_T53 l1 x5_1).f1) _ _ ((rd_T53 l1 x5_1).f2) true _ ?s1 ?s2 ?s3 ?s4 A7.out).mono ?_
   (case s1 => exact au4_37)
   (case s2 => exact HC527_2.out)
   (case s3 => exact au4_38)
   (case s4 => exact HC528_2.out)
   rintro e w10 ⟨rfl, hb⟩
   refine ⟨_, rfl, ?_⟩
   replace HB := hs_ w hb
   (try clear hb)
   (try clear hb2)
   (try clear hk)
   (try clear hi)
   refine hK.out _ _ ⟨((HB.out.cell (World.block_lt_of_cell? _ _ hw527_0)).trans hw527_0), ((HB.out.cell (World.block_lt_of_cell? _ _ hw527_1)).trans hw527_1), ((HB.out.cell (World.block_lt_of_cell? _ _ hw527_2)).trans hw527_2), ((HB.out.cell (World.block_lt_of_cell? _ _ hw528_0)).trans hw528_0), ((HB.out.cell (World.block_lt_of_cell? _ _ hw528_1)).trans hw528_1), ((HB.out.cell (World.block_lt_of_cell? _ _ hw528_2)).trans hw528_2)⟩ (fun hHeld => ?_)
   clear hK K
   refine no_ 25 ?_
   refine pu_ 9 26 (bs 10 1023) HT_ ?_ rfl rfl
   refine done_ (done_of HT_.out (by kernel_rfl)) ?_
   try go_wp2
   go_roundg k1
   case measure => have := HK1.out; omega
   case rel => exact ⟨(wrap64 (x5_1 + 1)), er_, H', ⟨by have := HK1.out; omega⟩, ⟨bl_⟩⟩
/-! ### F10: function 10 -/
def F10.f (k : Nat) (a0_0 : ByteArray) (a0_1 : ByteArray) (a0_2 : Int) (l0_3 : List (S53)) (a1_0 : ByteArray) (a1_1 : ByteArray) (a1_2 : Int) (l1_3 : List (S53)) : Option (Bool) := if a0_0.toList = a1_0.toList then (if a0_1.toList = a1_1.toList then (if a0_2 = a1_2 then ((F32.f k l0_3 l1_3).bind fun t532 => (if t532 = true then (some true) else (some false))) else (some false)) else (some false)) else (some false)
theorem F10.mono : ∀ a0 a1 a2 a3 a4 a5 a6 a7 k, LeO (F10.f k a0 a1 a2 a3 a4 a5 a6 a7) (F10.f (k + 1) a0 a1 a2 a3 a4 a5 a6 a7) := by
 intro a0 a1 a2 a3 a4 a5 a6 a7 k
 unfold F10.f
 repeat' with_reducible first | exact F32.mono _ _ _ | exact LeO.refl _ | exact LeO.none _ | refine LeO.ite ?_ ?_ | refine LeO.bind ?_ (fun _ => ?_)
theorem F10.calls (k : Nat) (a0_0 : ByteArray) (a0_1 : ByteArray) (a0_2 : Int) (A0_3 : Option Addr) (c0_3 : Nat) (l0_3 : List (S53)) (a1_0 : ByteArray) (a1_1 : ByteArray) (a1_2 : Int) (A1_3 : Option Addr) (c1_3 : Nat) (l1_3 : List (S53)) (r : Bool) (w : World) (hr0_3 : Kd.C k53 w A0_3 l0_3.length l0_3) (hc0_3 : l0_3.length ≤ c0_3) (hr1_3 : Kd.C k53 w A1_3 l1_3.length l1_3) (hc1_3 : l1_3.length ≤ c1_3) (h : F10.f k a0_0 a0_1 a0_2 l0_3 a1_0 a1_1 a1_2 l1_3 = some r) :
  Calls Tryz.prog 10 #[.agg #[.string a0_0, .string a0_1, .int .i64 a0_2, .slice A0_3 l0_3.length c0_3], .agg #[.string a1_0, .string a1_1, .int .i64 a1_2, .slice A1_3 l1_3.length c1_3]] w fun e w' => e = .returned (.bool r) ∧ Below w.heap.size w w' := by
 have hu30 := Tryz.underlying30
 have HR0_3 := am_ hr0_3
 have HC0_3 := am_ hc0_3
 clear hr0_3 hc0_3
 have HR1_3 := am_ hr1_3
 have HC1_3 := am_ hc1_3
 clear hr1_3 hc1_3
 have HB := am_ (Below.refl w.heap.size w)
 have H : (if a0_0.toList = a1_0.toList then (if a0_1.toList = a1_1.toList then (if a0_2 = a1_2 then ((F32.f k l0_3 l1_3).bind fun t532 => (if t532 = true then (some true) else (some false))) else (some false)) else (some false)) else (some false)) = some r := h
 clear h
 by_cases c3 : a0_0.toList = a1_0.toList
 rotate_left
 ·rw [if_neg c3] at H
  have c3b0 : (a0_0.toList == a1_0.toList) = false := beq_eq_false_iff_ne.mpr c3
  have c3b1 : (a0_0.toList != a1_0.toList) = true := bne_iff_ne.mpr c3
  obtain rfl := Option.some.inj H
  go_enter Tryz.func10, Tryz.ntmps10
  go_wp2_with (first | ((with_reducible refine gate_dst (N := 2) rfl ?_); refine be_ 2 #[.string a0_0, .string a0_1, .int .i64 a0_2, .slice A0_3 l0_3.length c0_3] 30 ?_; intro gb530 hg w30 hbox hb; have BK530 := am_ (hbox); have GW530 := am_ (gw_ hg bl_); have GE530 := GW530; replace HB := hs_ w hb; clear hb hbox hg) | ((with_reducible refine gate_dst (N := 3) rfl ?_); refine be_ 3 #[.string a1_0, .string a1_1, .int .i64 a1_2, .slice A1_3 l1_3.length c1_3] 30 ?_; intro gb531 hg w31 hbox hb; have BK531 := am_ (hbox); have GW531 := am_ (gw_ hg bl_); have GE531 := GW531; replace HB := hs_ w hb; have NB530_531 := am_ (gn_ hg (blkl_ BK530)); have NB531_530 := am_ (gm_ hg (blkl_ BK530)); replace BK530 := bb_ BK530 hb; clear hb hbox hg; have hnb32 := NB530_531.out; have hnc32 := NB531_530.out; obtain ⟨hcz33_0, hcz33_1, hcz33_2, hcz33_3, hfz33_0, hfz33_1, hfz33_2, hfz33_3⟩ := cellsF4 BK530.out; obtain ⟨hcz34_0, hcz34_1, hcz34_2, hcz34_3, hfz34_0, hfz34_1, hfz34_2, hfz34_3⟩ := cellsF4 BK531.out))
  go_ret
  exact ⟨au4_1, bl_⟩

 rw [if_pos c3] at H
 have c3b0 : (a0_0.toList == a1_0.toList) = true := beq_iff_eq.mpr c3
 have c3b1 : (a0_0.toList != a1_0.toList) = false := bne_eq_false_iff_eq.mpr c3
 clear c3
 by_cases c4 : a0_1.toList = a1_1.toList
 rotate_left
 ·rw [if_neg c4] at H
  have c4b0 : (a0_1.toList == a1_1.toList) = false := beq_eq_false_iff_ne.mpr c4
  have c4b1 : (a0_1.toList != a1_1.toList) = true := bne_iff_ne.mpr c4
  obtain rfl := Option.some.inj H
  go_enter Tryz.func10, Tryz.ntmps10
  go_wp2_with (first | ((with_reducible refine gate_dst (N := 2) rfl ?_); refine be_ 2 #[.string a0_0, .string a0_1, .int .i64 a0_2, .slice A0_3 l0_3.length c0_3] 30 ?_; intro gb530 hg w25 hbox hb; have BK530 := am_ (hbox); have GW530 := am_ (gw_ hg bl_); have GE530 := GW530; replace HB := hs_ w hb; clear hb hbox hg) | ((with_reducible refine gate_dst (N := 3) rfl ?_); refine be_ 3 #[.string a1_0, .string a1_1, .int .i64 a1_2, .slice A1_3 l1_3.length c1_3] 30 ?_; intro gb531 hg w26 hbox hb; have BK531 := am_ (hbox); have GW531 := am_ (gw_ hg bl_); have GE531 := GW531; replace HB := hs_ w hb; have NB530_531 := am_ (gn_ hg (blkl_ BK530)); have NB531_530 := am_ (gm_ hg (blkl_ BK530)); replace BK530 := bb_ BK530 hb; clear hb hbox hg; have hnb27 := NB530_531.out; have hnc27 := NB531_530.out; obtain ⟨hcz28_0, hcz28_1, hcz28_2, hcz28_3, hfz28_0, hfz28_1, hfz28_2, hfz28_3⟩ := cellsF4 BK530.out; obtain ⟨hcz29_0, hcz29_1, hcz29_2, hcz29_3, hfz29_0, hfz29_1, hfz29_2, hfz29_3⟩ := cellsF4 BK531.out))
  go_ret
  exact ⟨au4_1, bl_⟩
 rw [if_pos c4] at H
 have c4b0 : (a0_1.toList == a1_1.toList) = true := beq_iff_eq.mpr c4
 have c4b1 : (a0_1.toList != a1_1.toList) = false := bne_eq_false_iff_eq.mpr c4
 clear c4
 by_cases c5 : a0_2 = a1_2
 rotate_left
 ·rw [if_neg c5] at H
  have c5b0 : (a0_2 == a1_2) = false := beq_eq_false_iff_ne.mpr c5
  have c5b1 : (a0_2 != a1_2) = true := bne_iff_ne.mpr c5
  obtain rfl := Option.some.inj H
  go_enter Tryz.func10, Tryz.ntmps10
  go_wp2_with (first | ((with_reducible refine gate_dst (N := 2) rfl ?_); refine be_ 2 #[.string a0_0, .string a0_1, .int .i64 a0_2, .slice A0_3 l0_3.length c0_3] 30 ?_; intro gb530 hg w20 hbox hb; have BK530 := am_ (hbox); have GW530 := am_ (gw_ hg bl_); have GE530 := GW530; replace HB := hs_ w hb; clear hb hbox hg) | ((with_reducible refine gate_dst (N := 3) rfl ?_); refine be_ 3 #[.string a1_0, .string a1_1, .int .i64 a1_2, .slice A1_3 l1_3.length c1_3] 30 ?_; intro gb531 hg w21 hbox hb; have BK531 := am_ (hbox); have GW531 := am_ (gw_ hg bl_); have GE531 := GW531; replace HB := hs_ w hb; have NB530_531 := am_ (gn_ hg (blkl_ BK530)); have NB531_530 := am_ (gm_ hg (blkl_ BK530)); replace BK530 := bb_ BK530 hb; clear hb hbox hg; have hnb22 := NB530_531.out; have hnc22 := NB531_530.out; obtain ⟨hcz23_0, hcz23_1, hcz23_2, hcz23_3, hfz23_0, hfz23_1, hfz23_2, hfz23_3⟩ := cellsF4 BK530.out; obtain ⟨hcz24_0, hcz24_1, hcz24_2, hcz24_3, hfz24_0, hfz24_1, hfz24_2, hfz24_3⟩ := cellsF4 BK531.out))
  go_ret
  exact ⟨au4_1, bl_⟩
 rw [if_pos c5] at H
 have c5b0 : (a0_2 == a1_2) = true := beq_iff_eq.mpr c5
 have c5b1 : (a0_2 != a1_2) = false := bne_eq_false_iff_eq.mpr c5
 clear c5
 replace H := bi_ H; rcases H with ⟨t532, A6, H⟩
 replace H := ib_ H; rcases H with ⟨rfl, H⟩ | ⟨rfl, H⟩
 rotate_left
 ·obtain rfl := Option.some.inj H
  go_enter Tryz.func10, Tryz.ntmps10
  go_wp2_with (first | ((with_reducible refine gate_dst (N := 2) rfl ?_); refine be_ 2 #[.string a0_0, .string a0_1, .int .i64 a0_2, .slice A0_3 l0_3.length c0_3] 30 ?_; intro gb530 hg w14 hbox hb; have BK530 := am_ (hbox); have GW530 := am_ (gw_ hg bl_); have GE530 := GW530; replace HB := hs_ w hb; clear hb hbox hg) | ((with_reducible refine gate_dst (N := 3) rfl ?_); refine be_ 3 #[.string a1_0, .string a1_1, .int .i64 a1_2, .slice A1_3 l1_3.length c1_3] 30 ?_; intro gb531 hg w15 hbox hb; have BK531 := am_ (hbox); have GW531 := am_ (gw_ hg bl_); have GE531 := GW531; replace HB := hs_ w hb; have NB530_531 := am_ (gn_ hg (blkl_ BK530)); have NB531_530 := am_ (gm_ hg (blkl_ BK530)); replace BK530 := bb_ BK530 hb; clear hb hbox hg; have hnb16 := NB530_531.out; have hnc16 := NB531_530.out; obtain ⟨hcz17_0, hcz17_1, hcz17_2, hcz17_3, hfz17_0, hfz17_1, hfz17_2, hfz17_3⟩ := cellsF4 BK530.out; obtain ⟨hcz18_0, hcz18_1, hcz18_2, hcz18_3, hfz18_0, hfz18_1, hfz18_2, hfz18_3⟩ := cellsF4 BK531.out) | ((with_reducible refine gate_callee (f := 32) rfl ?_); refine gl_ 24 Tryz.func32 #[.slice A0_3 l0_3.length c0_3, .slice A1_3 l1_3.length c1_3] ?_ rfl rfl rfl rfl; (with_reducible refine (F32.calls k _ _ l0_3 _ _ l1_3 false _ ?s1 ?s2 ?s3 ?s4 A6.out).mono ?_); (case s1 => exact au4_2); (case s2 => exact HC0_3.out); (case s3 => exact au4_43); (case s4 => exact HC1_3.out); rintro e w19 ⟨rfl, hb⟩; refine ⟨_, rfl, ?_⟩; replace BK530 := bb_ BK530 hb; replace BK531 := bb_ BK531 hb; replace HB := hs_ w hb; (try clear hb)))
  go_ret
  exact ⟨au4_1, bl_⟩
 obtain rfl := Option.some.inj H
 go_enter Tryz.func10, Tryz.ntmps10
 go_wp2_with (first | ((with_reducible refine gate_dst (N := 2) rfl ?_); refine be_ 2 #[.string a0_0, .string a0_1, .int .i64 a0_2, .slice A0_3 l0_3.length c0_3] 30 ?_; intro gb530 hg w8 hbox hb; have BK530 := am_ (hbox); have GW530 := am_ (gw_ hg bl_); have GE530 := GW530; replace HB := hs_ w hb; clear hb hbox hg) | ((with_reducible refine gate_dst (N := 3) rfl ?_); refine be_ 3 #[.string a1_0, .string a1_1, .int .i64 a1_2, .slice A1_3 l1_3.length c1_3] 30 ?_; intro gb531 hg w9 hbox hb; have BK531 := am_ (hbox); have GW531 := am_ (gw_ hg bl_); have GE531 := GW531; replace HB := hs_ w hb; have NB530_531 := am_ (gn_ hg (blkl_ BK530)); have NB531_530 := am_ (gm_ hg (blkl_ BK530)); replace BK530 := bb_ BK530 hb; clear hb hbox hg; have hnb10 := NB530_531.out; have hnc10 := NB531_530.out; obtain ⟨hcz11_0, hcz11_1, hcz11_2, hcz11_3, hfz11_0, hfz11_1, hfz11_2, hfz11_3⟩ := cellsF4 BK530.out; obtain ⟨hcz12_0, hcz12_1, hcz12_2, hcz12_3, hfz12_0, hfz12_1, hfz12_2, hfz12_3⟩ := cellsF4 BK531.out) | ((with_reducible refine gate_callee (f := 32) rfl ?_); refine gl_ 24 Tryz.func32 #[.slice A0_3 l0_3.length c0_3, .slice A1_3 l1_3.length c1_3] ?_ rfl rfl rfl rfl; (with_reducible refine (F32.calls k _ _ l0_3 _ _ l1_3 true _ ?s1 ?s2 ?s3 ?s4 A6.out).mono ?_); (case s1 => exact au4_2); (case s2 => exact HC0_3.out); (case s3 => exact au4_43); (case s4 => exact HC1_3.out); rintro e w13 ⟨rfl, hb⟩; refine ⟨_, rfl, ?_⟩; replace BK530 := bb_ BK530 hb; replace BK531 := bb_ BK531 hb; replace HB := hs_ w hb; (try clear hb)))
 go_ret
 exact ⟨au4_1, bl_⟩
/-! ### F34: function 34 -/
def F34.l0 : Nat → Int → ByteArray → Option (ByteArray)
  | 0, _, _ => none
  | k + 1, x0, x3 => if x0 > 0 then ((some (([(wrap64 (48 + (Int.tmod x0 10))) % 256] : List Int) : List Int)).bind fun y533 => (if (strOfNums y533).size + x3.size ≤ 9223372036854775807 then (F34.l0 k (wrap64 (Int.tdiv x0 10)) ((strOfNums y533) ++ x3)) else (none))) else (if 1 + x3.size ≤ 9223372036854775807 then (some ((⟨#[109]⟩ : ByteArray) ++ x3)) else (none))
def F34.f (k : Nat) (a0 : Int) : Option (ByteArray) := if a0 ≤ 0 then (some (⟨#[109, 48]⟩ : ByteArray)) else (F34.l0 k a0 (⟨#[]⟩ : ByteArray))
theorem F34.mono_l : ∀ k, (∀ y0 y1, LeO (F34.l0 k y0 y1) (F34.l0 (k + 1) y0 y1))
 | 0 => fun _ _ r h => by simp [F34.l0] at h
 | k + 1 => by
  have ih0 := F34.mono_l k
  intro y0 y1
  unfold F34.l0
  repeat' with_reducible first | exact ih0 _ _ | exact LeO.refl _ | exact LeO.none _ | refine LeO.ite ?_ ?_ | refine LeO.bind ?_ (fun _ => ?_)
theorem F34.mono : ∀ a0 k, LeO (F34.f k a0) (F34.f (k + 1) a0) := by
 intro a0 k
 have ih0 := F34.mono_l k
 unfold F34.f
 repeat' with_reducible first | exact ih0 _ _ | exact LeO.refl _ | exact LeO.none _ | refine LeO.ite ?_ ?_ | refine LeO.bind ?_ (fun _ => ?_)
theorem F34.calls (k : Nat) (a0 : Int) (r : ByteArray) (w : World) (h : F34.f k a0 = some r) :
  Calls Tryz.prog 34 #[.int .i64 a0] w fun e w' => e = .returned (.string r) ∧ Below w.heap.size w w' := by
 have HB := am_ (Below.refl w.heap.size w)
 have H : (if a0 ≤ 0 then (some (⟨#[109, 48]⟩ : ByteArray)) else (F34.l0 k a0 (⟨#[]⟩ : ByteArray))) = some r := h
 clear h
 replace H := it_ H; rcases H with ⟨c2b0, H⟩ | ⟨c2b0, H⟩
 ·obtain rfl := Option.some.inj H
  go_enter Tryz.func34, Tryz.ntmps34
  go_wp2
  go_ret
  exact ⟨au4_1, bl_⟩
 have H' := am_ H
 clear H
 go_enter Tryz.func34, Tryz.ntmps34
 go_wp2
 go_loopg [0, 3] k (fun kq v0 v3 w' => ∃ (x0_1 : Int) (x3_1 : ByteArray), v0 = .int .i64 x0_1 ∧ v3 = .string x3_1 ∧ Aside0 (F34.l0 kq x0_1 x3_1 = some r) ∧ Aside0 (kq ≤ k) ∧ Aside0 (Below w.heap.size w w'))
 case atStart => exact ⟨(a0), ((⟨#[]⟩ : ByteArray)), er_, er_, H', ⟨Nat.le_refl _⟩, ⟨bl_⟩⟩
 case round =>
  clear H'
  try clear c2b0
  obtain ⟨x0_1, x3_1, rfl, rfl, HA, HK1, HB⟩ := hrel
  cases gk with
  | zero => exact absurd HA.out (by simp [F34.l0])
  | succ k1 =>
   have H := HA.out
   clear HA
   simp only [F34.l0] at H
   replace H := it_ H; rcases H with ⟨(c3b0 : decide (0 < x0_1) = true), H⟩ | ⟨(c3b0 : decide (0 < x0_1) = false), H⟩
   rotate_left
   ·by_cases c8 : 1 + x3_1.size ≤ 9223372036854775807
    rotate_left
    ·rw [if_neg c8] at H
     exact absurd H (by simp)

    rw [if_pos c8] at H
    have c8b0 := eq_true c8
    have c8b1 : decide (1 + x3_1.size ≤ 9223372036854775807) = true := decide_eq_true c8
    try have c8b2 : (9223372036854775807 < 1 + x3_1.size) = False := eq_false (Nat.not_lt.2 c8)
    obtain rfl := Option.some.inj H
    go_wp2
    go_ret
    exact ⟨au4_1, bl_⟩
   obtain ⟨y533, hy533⟩ : ∃ y_ : List Int, y_ = (([(wrap64 (48 + (Int.tmod x0_1 10))) % 256] : List Int)) := ⟨_, rfl⟩
   replace H : (if (strOfNums y533).size + x3_1.size ≤ 9223372036854775807 then (F34.l0 k1 (wrap64 (Int.tdiv x0_1 10)) ((strOfNums y533) ++ x3_1)) else (none)) = some r := by first | (rw [hy533]; exact H) | exact H
   have Ny533 := am_ hy533
   clear hy533
   by_cases c4 : (strOfNums y533).size + x3_1.size ≤ 9223372036854775807
   rotate_left
   ·rw [if_neg c4] at H
    exact absurd H (by simp)
   rw [if_pos c4] at H
   have c4b0 := eq_true c4
   have c4b1 : decide ((strOfNums y533).size + x3_1.size ≤ 9223372036854775807) = true := decide_eq_true c4
   try have c4b2 : (9223372036854775807 < (strOfNums y533).size + x3_1.size) = False := eq_false (Nat.not_lt.2 c4)
   have H' := am_ H
   clear H
   go_wp2_with (first | ((with_reducible refine gate_dst (N := 12) rfl ?_); refine Kd.R_lit (Kd.int .u8) _ 5 ?hg (N := 12) ?hd (xs := ([(wrap64 (48 + (Int.tmod x0_1 10))) % 256] : List Int)) (inner := [.int .u8 ((wrap64 (48 + (Int.tmod x0_1 10))) % 256)]) (ok := fun _ => True) (okp := fun _ => True) ?hr ?hp (fun _ hk => hk) trivial (Below.refl _ _) (Nat.le_refl _) (by simp) ?_; (case hd => rfl); (case hg => rfl); (case hr => exact hr_); (case hp => exact (Reps.one (show Kd.M (Kd.int .u8) _ _ _ ((wrap64 (48 + (Int.tmod x0_1 10))) % 256) [.int .u8 ((wrap64 (48 + (Int.tmod x0_1 10))) % 256)] from rfl) (Reps.none _ _))); intro v534 w5 ho6 hb hg_ hnew_; clear hg_ hnew_; (first | rw [← Ny533.out] at ho6 | (simp only [Int.reduceToNat] at ho6; rw [← Ny533.out] at ho6)); have HO535 := am_ (Kd.R_lower ho6 (below_size bl_)); replace HB := hs_ w hb; clear hb ho6; have hcv7 := own_string (P := Tryz.prog) Tryz.underlying37 Tryz.underlying5 Tryz.underlying9 (Kd.own_of_R HO535.out)))
   go_roundg k1
   case measure => have := HK1.out; omega
   case rel => exact ⟨(wrap64 (Int.tdiv x0_1 10)), ((strOfNums y533) ++ x3_1), er_, er_, H', ⟨by have := HK1.out; omega⟩, ⟨bl_⟩⟩
/-! ### F66: function 66 -/
def F66.l0 : Nat → List ByteArray → Int → Int → Option (Int × List ByteArray)
  | 0, _, _, _ => none
  | k + 1, x0, x1, x5 => if x5 < (x0.length : Int) then ((F34.f k x1).bind fun t536 => (if 0 ≤ x5 then (F66.l0 k (x0.set (x5 : Int).toNat t536) (wrap64 (x1 + 1)) (wrap64 (x5 + 1))) else (none))) else (some (x1, x0))
def F66.f (k : Nat) (l0 : List ByteArray) (a1 : Int) : Option (Int × List ByteArray) := F66.l0 k l0 a1 0
theorem F66.mono_l : ∀ k, (∀ y0 y1 y2, LeO (F66.l0 k y0 y1 y2) (F66.l0 (k + 1) y0 y1 y2))
 | 0 => fun _ _ _ r h => by simp [F66.l0] at h
 | k + 1 => by
  have ih0 := F66.mono_l k
  intro y0 y1 y2
  unfold F66.l0
  repeat' with_reducible first | exact ih0 _ _ _ | exact F34.mono _ _ | exact LeO.refl _ | exact LeO.none _ | refine LeO.ite ?_ ?_ | refine LeO.bind ?_ (fun _ => ?_)
theorem F66.mono : ∀ a0 a1 k, LeO (F66.f k a0 a1) (F66.f (k + 1) a0 a1) := by
 intro a0 a1 k
 have ih0 := F66.mono_l k
 unfold F66.f
 repeat' with_reducible first | exact ih0 _ _ _ | exact F34.mono _ _ | exact LeO.refl _ | exact LeO.none _ | refine LeO.ite ?_ ?_ | refine LeO.bind ?_ (fun _ => ?_)
theorem F66.calls (k : Nat) (P0_ : Nat → Prop) (u9000_ : Value) (l0 : List ByteArray) (a1 : Int) (r1 : Int) (r2 : List ByteArray) (w0 w : World) (hB : Below w0.heap.size w0 w) (ho0 : Kd.R Kd.string 9 w w0.heap.size P0_ u9000_ l0) (h : F66.f k l0 a1 = some (r1, r2)) :
  Calls Tryz.prog 66 #[u9000_, .int .i64 a1] w fun e w' => e = .returned (.int .i64 r1) ∧ Kd.R Kd.string 9 w' w0.heap.size (fun k_ => (P0_ k_ ∨ w.heap.size ≤ k_)) u9000_ r2 ∧ Below w0.heap.size w0 w' ∧ Kept w w' (fun k_ => P0_ k_) := by
 have HO0 := am_ (show Kd.R Kd.string 9 w w0.heap.size (fun k_ => (P0_ k_ ∨ w.heap.size ≤ k_)) u9000_ l0 from Kd.R_mono ho0 (fun k_ hk => (.inl hk)))
 have HK := am_ (Kept.refl w (fun k_ => P0_ k_))
 have HW0 := am_ hB.size
 have HB := am_ hB
 clear hB
 have H : (F66.l0 k l0 a1 0) = some (r1, r2) := h
 clear h
 have H' := am_ H
 clear H
 go_enter Tryz.func66, Tryz.ntmps66
 go_wp2
 go_loopg [1, 5] k (fun kq v1 v5 w' => ∃ (x0_1 : List ByteArray) (x1_1 : Int) (x5_1 : Int), v1 = .int .i64 x1_1 ∧ v5 = .int .i64 x5_1 ∧ Aside0 (F66.l0 kq x0_1 x1_1 x5_1 = some (r1, r2)) ∧ Aside0 (kq ≤ k) ∧ Aside0 (Kd.R Kd.string 9 w' w0.heap.size (fun k_ => (P0_ k_ ∨ w.heap.size ≤ k_)) u9000_ x0_1) ∧ Aside0 (Kept w w' (fun k_ => P0_ k_)) ∧ Aside0 (Below w0.heap.size w0 w'))
 case atStart => exact ⟨(l0), (a1), (0), er_, er_, H', ⟨Nat.le_refl _⟩, ⟨rk_ HO0⟩, ⟨au4_6⟩, ⟨bl_⟩⟩
 case round =>
  clear H'
  obtain ⟨x0_1, x1_1, x5_1, rfl, rfl, HA, HK1, HO_0, HK, HB⟩ := hrel
  cases gk with
  | zero => exact absurd HA.out (by simp [F66.l0])
  | succ k1 =>
   have H := HA.out
   clear HA
   simp only [F66.l0] at H
   replace H := it_ H; rcases H with ⟨c3b0, H⟩ | ⟨c3b0, H⟩
   rotate_left
   ·simp only [Option.some.injEq, Prod.mk.injEq] at H
    obtain ⟨rfl, rfl⟩ := H
    obtain ⟨Ao11, co11, eo11⟩ := Kd.R_slice HO_0.out
    subst eo11
    go_wp2
    go_ret
    exact ⟨au4_1, rk_ HO_0, bl_, au4_6⟩

   replace H := bi_ H; rcases H with ⟨t536, A4, H⟩
   replace H := itn_ H; rcases H with ⟨c5b0, H⟩
   obtain ⟨y537, hy537⟩ : ∃ y_ : List ByteArray, y_ = (x0_1.set (x5_1 : Int).toNat t536) := ⟨_, rfl⟩
   replace H : (F66.l0 k1 y537 (wrap64 (x1_1 + 1)) (wrap64 (x5_1 + 1))) = some (r1, r2) := by first | (rw [hy537]; exact H) | exact H
   have Ny537 := am_ hy537
   clear hy537
   have H' := am_ H
   clear H
   obtain ⟨Ao7, co7, eo7⟩ := Kd.R_slice HO_0.out
   subst eo7
   go_wp2_with (first | ((with_reducible refine gate_callee (f := 34) rfl ?_); refine gl_ 15 Tryz.func34 #[.int .i64 x1_1] ?_ rfl rfl rfl rfl; (with_reducible refine (F34.calls k1 x1_1 t536 _ A4.out).mono ?_); rintro e w8 ⟨rfl, hb⟩; refine ⟨_, rfl, ?_⟩; replace HO_0 := am_ (Kd.R_below (rk_ HO_0) hb); replace HK := am_ (Kept.below (S := (fun k_ => P0_ k_)) au4_13 hb); replace HB := hs_ w0 hb; (try clear hb); (try clear hb2); (try clear hk); (try clear hi); have p6 : 0 ≤ (x5_1 : Int) := od_; have q6 : (x5_1 : Int) < ((x0_1.length : Int) : Int) := od_; obtain ⟨go6, co6, eo6, gb6, gl6, cl6, HG6⟩ := Kd.R_form HO_0.out (by omega); (first | cases eo6 | (injection eo6 with ea_ en_ ec_; (first | subst ea_ | (injection ea_ with ea_; subst ea_)); subst ec_; clear en_)); have GB6 := am_ gb6; have GG6 := am_ HG6; clear gb6 gl6 HG6; have HMgo6 := am_ (show (P0_ go6 ∨ w.heap.size ≤ go6) from (HO_0.out.1 _ rfl)); obtain ⟨hx6_0, hf6_0⟩ := Kd.R_celln (⟨#[]⟩ : ByteArray) HO_0.out (x5_1 : Int) p6 q6; replace p6 := eq_true p6; replace q6 := eq_true q6; obtain ⟨hy9_, hz9_⟩ := Kd.R_celln (⟨#[]⟩ : ByteArray) HO_0.out (x5_1 : Int) (of_decide_eq_true as_) (of_decide_eq_true as_); have HP9 := Kd.R_putg HO_0.out (x5_1 : Int) t536) | ((with_reducible refine gate_store (t := 9) (p := 16) rfl ?_); refine store_event (t := 9) (p := 16) (v := ?vo_w10) (w1 := (w8.setCell ⟨go6, (x5_1 : Int).toNat, none⟩ (.string t536))) ?hg ?ho ?hn ?hr ?_; (case ho => rfl); (case hg => rfl); (case hn => rfl); (case hr => exact hr_); intro w10 hw; have hg : w8.grownBy w10 (some go6) := (by rw [hw]; exact HP9.2); have hp_ : Kd.R Kd.string 9 w10 w0.heap.size (fun k_ => (P0_ k_ ∨ w.heap.size ≤ k_)) (.slice (some ⟨go6, 0, none⟩) x0_1.length co7) y537 := (by rw [hw, Ny537.out]; exact HP9.1); clear HP9; replace HB := am_ ((by rw [hw]; exact below_set (HB.out) GB6.out : Below w0.heap.size w0 w10)); replace HK := am_ (Kept.of_grown (S := (fun k_ => P0_ k_)) hg au4_13 (fun k_ e_ => (HO_0.out.1 k_ e_))); replace HO_0 := am_ (hp_); clear hg hw hp_))
   go_roundg k1
   case measure => have := HK1.out; omega
   case rel => exact ⟨(y537), (wrap64 (x1_1 + 1)), (wrap64 (x5_1 + 1)), er_, er_, H', ⟨by have := HK1.out; omega⟩, ⟨rk_ HO_0⟩, ⟨au4_6⟩, ⟨bl_⟩⟩
/-! ### F35: function 35 -/
def F35.l0 : Nat → List (S91) → Int → Int → Option (Int × List (S91))
  | 0, _, _, _ => none
  | k + 1, x0, x1, x5 => if x5 < (x0.length : Int) then (if 0 ≤ x5 then ((F66.f k (rd_T91 x0 x5).f0 x1).bind fun q => (F35.l0 k (x0.set (x5 : Int).toNat ⟨q.2⟩) q.1 (wrap64 (x5 + 1)))) else (none)) else (some (x1, x0))
def F35.f (k : Nat) (l0 : List (S91)) (a1 : Int) : Option (Int × List (S91)) := F35.l0 k l0 a1 0
theorem F35.mono_l : ∀ k, (∀ y0 y1 y2, LeO (F35.l0 k y0 y1 y2) (F35.l0 (k + 1) y0 y1 y2))
 | 0 => fun _ _ _ r h => by simp [F35.l0] at h
 | k + 1 => by
  have ih := F35.mono_l k
  intro y0 y1 y2
  unfold F35.l0
  exact LeO.ite (LeO.ite (LeO.bind (F66.mono _ _ _) (fun _ => ih _ _ _)) (LeO.none _)) (LeO.refl _)
theorem F35.mono : ∀ a0 a1 k, LeO (F35.f k a0 a1) (F35.f (k + 1) a0 a1) := fun a0 a1 k => F35.mono_l k a0 a1 0
theorem F35.calls (k : Nat) (P0_ : Nat → Prop) (u9000_ : Value) (l0 : List (S91)) (a1 : Int) (r1 : Int) (r2 : List (S91)) (w0 w : World) (hB : Below w0.heap.size w0 w) (ho0 : Kd.S k91 91 w w0.heap.size P0_ u9000_ l0) (h : F35.f k l0 a1 = some (r1, r2)) :
  Calls Tryz.prog 35 #[u9000_, .int .i64 a1] w fun e w' => e = .returned (.int .i64 r1) ∧ Kd.S k91 91 w' w0.heap.size (fun k_ => (P0_ k_ ∨ w.heap.size ≤ k_)) u9000_ r2 ∧ Below w0.heap.size w0 w' ∧ Kept w w' (fun k_ => P0_ k_) := by
 have hu47 := Tryz.underlying47
 have hu91 := Tryz.underlying91
 have HO0 := am_ (show Kd.S k91 91 w w0.heap.size (fun k_ => (P0_ k_ ∨ w.heap.size ≤ k_)) u9000_ l0 from Kd.S_mono ho0 (fun k_ hk => (.inl hk)))
 have HK := am_ (Kept.refl w (fun k_ => P0_ k_))
 have HB := am_ hB
 clear hB ho0
 have H' := am_ (show F35.l0 k l0 a1 0 = some (r1, r2) from h)
 clear h
 go_enter Tryz.func35, Tryz.ntmps35
 go_wp2
 go_loopg [1, 5] k (fun kq v1 v5 w' => ∃ (x0_1 : List (S91)) (x1_1 : Int) (x5_1 : Int), v1 = .int .i64 x1_1 ∧ v5 = .int .i64 x5_1 ∧ Aside0 (F35.l0 kq x0_1 x1_1 x5_1 = some (r1, r2)) ∧ Aside0 (kq ≤ k) ∧ Aside0 (Kd.S k91 91 w' w0.heap.size (fun k_ => (P0_ k_ ∨ w.heap.size ≤ k_)) u9000_ x0_1) ∧ Aside0 (Kept w w' (fun k_ => P0_ k_)) ∧ Aside0 (Below w0.heap.size w0 w'))
 case atStart => exact ⟨(l0), (a1), (0), er_, er_, H', ⟨Nat.le_refl _⟩, ⟨au4_33⟩, ⟨au4_6⟩, ⟨bl_⟩⟩
 case round =>
  clear H'
  obtain ⟨x0_1, x1_1, x5_1, rfl, rfl, HA, HK1, HO_0, HK, HB⟩ := hrel
  cases gk with
  | zero => exact absurd HA.out (by simp [F35.l0])
  | succ k1 =>
   have H := HA.out
   clear HA
   simp only [F35.l0] at H
   by_cases c3 : x5_1 < (x0_1.length : Int)
   rotate_left
   ·rw [if_neg c3] at H
    have c3b0 : decide (x5_1 < (x0_1.length : Int)) = false := decide_eq_false c3
    clear c3
    simp only [Option.some.injEq, Prod.mk.injEq] at H
    obtain ⟨rfl, rfl⟩ := H
    obtain ⟨Ao11, co11, eo11⟩ := Kd.S_slice HO_0.out
    subst eo11
    go_wp2
    go_ret
    exact ⟨au4_1, au4_15, bl_, au4_6⟩

   rw [if_pos c3] at H
   by_cases c4 : 0 ≤ x5_1
   rotate_left
   ·rw [if_neg c4] at H
    exact absurd H (by simp)
   rw [if_pos c4] at H
   replace H := bi_ H; rcases H with ⟨⟨t1, t2⟩, A5, H⟩
   have H' := am_ (show F35.l0 k1 (x0_1.set (x5_1 : Int).toNat ⟨t2⟩) t1 (wrap64 (x5_1 + 1)) = some (r1, r2) from H)
   clear H
   obtain ⟨Ao, co, eo⟩ := Kd.S_slice HO_0.out
   subst eo
   obtain ⟨ad, A7, c7, e7, hx7, hl7, hi7⟩ := at_T91 (Kd.S_reads' HO_0.out).2.2 x5_1 c4 c3
   cases e7
   obtain ⟨g7, hg7⟩ : ∃ g, ad = ⟨g, 0, none⟩ := Kd.R_head (Kd.S_R HO_0.out)
   have hS := HO_0.out
   rw [hg7] at hS
   obtain ⟨oki, ce, hcl, hM, hcc, hoki, hH⟩ := Kd.S_lend hS z91 x5_1 c4 c3
   obtain ⟨v0, rfl, hR⟩ := k91_openM hM
   have hv0 : v0 = .slice A7 ((rd_T91 x0_1 x5_1).f0).length c7 := by
    have h1 := hcc 0 v0 rfl
    rw [show (k91).sz = 1 from rfl, Nat.mul_one, Nat.add_zero] at h1
    have h2 := hx7
    rw [hg7, add_at, Nat.zero_add] at h2
    exact Option.some.inj (h1.symm.trans h2)
   subst hv0
   have HRi := am_ (show Kd.R Kd.string 9 wr w0.heap.size oki (.slice A7 ((rd_T91 x0_1 x5_1).f0).length c7) ((rd_T91 x0_1 x5_1).f0) from hR)
   have HH := am_ hH
   have HG := am_ hg7
   have HKI := am_ hoki
   clear hR hH hg7 hoki hM hcc hcl hS hi7 hl7
   have c3b0 : decide (x5_1 < (x0_1.length : Int)) = true := decide_eq_true c3
   have c4b0 : decide (0 ≤ x5_1) = true := decide_eq_true c4
   have p7 := eq_true c4
   have q7 := eq_true c3
   clear c3 c4
   go_wp2_with (first | ((with_reducible refine gate_callee (f := 66) rfl ?_); refine gl_ 18 Tryz.func66 #[.slice A7 ((rd_T91 x0_1 x5_1).f0).length c7, .int .i64 x1_1] ?_ rfl rfl rfl rfl; (with_reducible refine (F66.calls k1 oki _ ((rd_T91 x0_1 x5_1).f0) x1_1 t1 t2 w0 _ ?s1 ?s2 A5.out).mono ?_); (case s1 => exact au4_30); (case s2 => (with_reducible repeat (first | apply Kd.R_alloc | apply Kd.R_drewN | apply Kd.R_drew)); exact HRi.out); rintro e w8 ⟨rfl, ho, hb, hk⟩; refine ⟨_, rfl, ?_⟩; replace HO_0 : Aside0 (Kd.S k91 91 w8 w0.heap.size (fun k_ => (P0_ k_ ∨ w.heap.size ≤ k_)) (.slice (some ad) x0_1.length co) (x0_1.set (x5_1 : Int).toNat (⟨t2⟩ : S91))) := ⟨by rw [HG.out]; exact Kd.H_back (Kd.H_step (by (with_reducible repeat (first | apply Kd.H_alloc | apply Kd.H_drewN | apply Kd.H_drew)); exact HH.out) (fun k_ _ hn hlt => hk.2 k_ hlt hn)) (k91_mkM _ _ _ (⟨t2⟩ : S91) (Kd.R_tight rfl ho)) (fun k_ he => HRi.out.1 k_ he.symm)⟩; replace HK := am_ (Kept.then_ (S := (fun k_ => P0_ k_)) au4_13 hk (fun k_ h_ => (HKI.out k_ h_).1)); replace HB := am_ hb; clear hb hk ho HH HRi))
   go_roundg k1
   case measure => have := HK1.out; omega
   case rel => exact ⟨(x0_1.set (x5_1 : Int).toNat ⟨t2⟩), t1, (wrap64 (x5_1 + 1)), er_, er_, H', ⟨by have := HK1.out; omega⟩, ⟨au4_15⟩, ⟨au4_6⟩, ⟨bl_⟩⟩
/-! ### F12: function 12 -/
theorem F12.cellsS_ {w : World} {base g n cap : Nat} {ok : Nat → Prop} {xs : List S49} {i : Int} (h : Kd.S k49 49 w base ok (.slice (some ⟨g, 0, none⟩) n cap) xs) (h0 : 0 ≤ i) (h1 : i < (xs.length : Int)) :
  (w.cell? ⟨g, i.toNat * 2, none⟩ = some (.string (rd_T49 xs i).f0)) ∧ w.frozen? ⟨g, i.toNat * 2, none⟩ = false := by
 have hn : n = xs.length := (Kd.S_reads' h).1
 obtain ⟨oki, c, hcl, hM, hcc, hfr, hoki, hH⟩ := Kd.S_elem h z49 i h0 (by omega)
 obtain ⟨v1, rfl, hR⟩ := k49_openM hM
 exact ⟨hcc 0 _ rfl, hfr 0⟩
theorem F12.putS_ {w : World} {base g n cap : Nat} {ok : Nat → Prop} {xs : List S49} {i : Int} (h : Kd.S k49 49 w base ok (.slice (some ⟨g, 0, none⟩) n cap) xs) (h0 : 0 ≤ i) (h1 : i < (xs.length : Int)) (t : ByteArray) :
  Kd.S k49 49 (w.setCell ⟨g, i.toNat * 2, none⟩ (.string t)) base ok (.slice (some ⟨g, 0, none⟩) n cap) (xs.set i.toNat ⟨t, (rd_T49 xs i).f1⟩) ∧ w.grownBy (w.setCell ⟨g, i.toNat * 2, none⟩ (.string t)) (some g) := by
 have hn : n = xs.length := (Kd.S_reads' h).1
 obtain ⟨oki, c, hcl, hM, hcc, hoki, hH⟩ := Kd.S_lend h z49 i h0 (by omega)
 obtain ⟨v1, rfl, hR⟩ := k49_openM hM
 obtain ⟨h2, h3⟩ := Kd.H_seg hH h0 (by omega) (seg := [.string t]) (j := 0) (by show 0 + 1 ≤ 2; omega) (by simp [Value.oneCell'])
 have e : w.setCells g (i.toNat * k49.sz + 0) [.string t] = w.setCell ⟨g, i.toNat * 2, none⟩ (.string t) := rfl
 rw [e] at h2 h3
 refine ⟨Kd.H_back h2 (k49_mkM _ _ oki (⟨t, (rd_T49 xs i).f1⟩ : S49) (Kd.S_step hR (fun k hk hlt => ?_))) (fun _ hk => hk), h3⟩
 exact h3.block k hlt (fun he => (hoki k hk).2 (by injection he))
theorem F12.gets_ {xs : List S49} {i : Int} {x : S49} (h0 : 0 ≤ i) (h1 : i < (xs.length : Int)) : (xs.set i.toNat x).getD i.toNat z49 = x := by
 rw [List.getD_eq_getElem?_getD, List.getElem?_set_self (by omega)]
 rfl
theorem F12.backS_ {w w1 : World} {base b g n cap : Nat} {P0 oki : Nat → Prop} {xs : List S49} {i : Int} {t : ByteArray} {f1 t2 : List S91} {v1 : Value}
  (hH : Kd.H k49 49 w base (fun k_ => (P0 k_ ∨ b ≤ k_)) (.slice (some ⟨g, 0, none⟩) n cap) (xs.set i.toNat ⟨t, f1⟩) i oki [.string t, v1])
  (ho : Kd.S k91 91 w1 base (fun k_ => (oki k_ ∨ w.heap.size ≤ k_)) v1 t2) (hk : Kept w w1 oki) (hb : b ≤ w.heap.size) :
  Kd.S k49 49 w1 base (fun k_ => (P0 k_ ∨ b ≤ k_)) (.slice (some ⟨g, 0, none⟩) n cap) (xs.set i.toNat ⟨t, t2⟩) := by
 have h := Kd.H_back (Kd.H_step (Kd.H_widen hH) (fun k _ hn hlt => hk.2 k hlt (fun h => hn (.inl h)))) (k49_mkM _ _ _ (⟨t, t2⟩ : S49) ho) (fun k h_ => h_.elim (fun a => .inl a) (fun c => .inr ⟨.inr (Nat.le_trans hb c), c⟩))
 rwa [List.set_set] at h
def F12.l0 : Nat → List S49 → Int → Int → Option (Int × List S49)
  | 0, _, _, _ => none
  | k + 1, x0, x1, x5 => if x5 < (x0.length : Int) then (if 0 ≤ x5 then ((F34.f k x1).bind fun t => (F35.f k (rd_T49 x0 x5).f1 (wrap64 (x1 + 1))).bind fun q => (F12.l0 k (x0.set (x5 : Int).toNat ⟨t, q.2⟩) q.1 (wrap64 (x5 + 1)))) else (none)) else (some (x1, x0))
def F12.f (k : Nat) (l0 : List S49) (a1 : Int) : Option (Int × List S49) := F12.l0 k l0 a1 0
theorem F12.mono_l : ∀ k, (∀ y0 y1 y2, LeO (F12.l0 k y0 y1 y2) (F12.l0 (k + 1) y0 y1 y2))
 | 0 => fun _ _ _ r h => by simp [F12.l0] at h
 | k + 1 => by
  have ih := F12.mono_l k
  intro y0 y1 y2
  unfold F12.l0
  exact LeO.ite (LeO.ite (LeO.bind (F34.mono _ _) (fun _ => LeO.bind (F35.mono _ _ _) (fun _ => ih _ _ _))) (LeO.none _)) (LeO.refl _)
theorem F12.mono : ∀ a0 a1 k, LeO (F12.f k a0 a1) (F12.f (k + 1) a0 a1) := fun a0 a1 k => F12.mono_l k a0 a1 0
theorem F12.calls (k : Nat) (P0_ : Nat → Prop) (u9000_ : Value) (l0 : List S49) (a1 : Int) (r1 : Int) (r2 : List S49) (w0 w : World) (hB : Below w0.heap.size w0 w) (ho0 : Kd.S k49 49 w w0.heap.size P0_ u9000_ l0) (h : F12.f k l0 a1 = some (r1, r2)) :
  Calls Tryz.prog 12 #[u9000_, .int .i64 a1] w fun e w' => e = .returned (.int .i64 r1) ∧ Kd.S k49 49 w' w0.heap.size (fun k_ => (P0_ k_ ∨ w.heap.size ≤ k_)) u9000_ r2 ∧ Below w0.heap.size w0 w' ∧ Kept w w' (fun k_ => P0_ k_) := by
 have hu26 := Tryz.underlying26
 have hu49 := Tryz.underlying49
 have HO0 := am_ (show Kd.S k49 49 w w0.heap.size (fun k_ => (P0_ k_ ∨ w.heap.size ≤ k_)) u9000_ l0 from Kd.S_mono ho0 (fun k_ hk => (.inl hk)))
 have HK := am_ (Kept.refl w (fun k_ => P0_ k_))
 have HB := am_ hB
 have HW := am_ (Nat.le_refl w.heap.size)
 clear hB ho0
 have H' := am_ (show F12.l0 k l0 a1 0 = some (r1, r2) from h)
 clear h
 go_enter Tryz.func12, Tryz.ntmps12
 go_wp2
 go_loopg [1, 5] k (fun kq v1 v5 w' => ∃ (x0_1 : List S49) (x1_1 : Int) (x5_1 : Int), v1 = .int .i64 x1_1 ∧ v5 = .int .i64 x5_1 ∧ Aside0 (F12.l0 kq x0_1 x1_1 x5_1 = some (r1, r2)) ∧ Aside0 (kq ≤ k) ∧ Aside0 (Kd.S k49 49 w' w0.heap.size (fun k_ => (P0_ k_ ∨ w.heap.size ≤ k_)) u9000_ x0_1) ∧ Aside0 (Kept w w' (fun k_ => P0_ k_)) ∧ Aside0 (Below w0.heap.size w0 w') ∧ Aside0 (w.heap.size ≤ w'.heap.size))
 case atStart => exact ⟨(l0), (a1), (0), er_, er_, H', ⟨Nat.le_refl _⟩, ⟨au4_33⟩, ⟨au4_6⟩, ⟨bl_⟩, ⟨HW.out⟩⟩
 case round =>
  clear H'
  obtain ⟨x0_1, x1_1, x5_1, rfl, rfl, HA, HK1, HO_0, HK, HB, HW⟩ := hrel
  cases gk with
  | zero => exact absurd HA.out (by simp [F12.l0])
  | succ k1 =>
   have H := HA.out
   clear HA
   simp only [F12.l0] at H
   by_cases c3 : x5_1 < (x0_1.length : Int)
   rotate_left
   ·rw [if_neg c3] at H
    have c3b0 : decide (x5_1 < (x0_1.length : Int)) = false := decide_eq_false c3
    clear c3
    simp only [Option.some.injEq, Prod.mk.injEq] at H
    obtain ⟨rfl, rfl⟩ := H
    obtain ⟨Ao11, co11, eo11⟩ := Kd.S_slice HO_0.out
    subst eo11
    go_wp2
    go_ret
    exact ⟨au4_1, au4_15, bl_, au4_6⟩

   rw [if_pos c3] at H
   by_cases c4 : 0 ≤ x5_1
   rotate_left
   ·rw [if_neg c4] at H
    exact absurd H (by simp)
   rw [if_pos c4] at H
   replace H := bi_ H; rcases H with ⟨t, A5, H⟩
   replace H := bi_ H; rcases H with ⟨⟨t1, t2⟩, A6, H⟩
   have H' := am_ (show F12.l0 k1 (x0_1.set (x5_1 : Int).toNat ⟨t, t2⟩) t1 (wrap64 (x5_1 + 1)) = some (r1, r2) from H)
   clear H
   obtain ⟨Ao, co, eo⟩ := Kd.S_slice HO_0.out
   subst eo
   obtain ⟨ad, A7, c7, e7, hx7, hy7, hl7, hi7⟩ := at_T49 ((Kd.S_reads' HO_0.out).2.2) x5_1 c4 c3
   cases e7
   obtain ⟨g7, hg7⟩ : ∃ g, ad = ⟨g, 0, none⟩ := Kd.R_head (Kd.S_R HO_0.out)
   subst hg7
   clear hx7 hy7 hl7 hi7
   have c3b0 : decide (x5_1 < (x0_1.length : Int)) = true := decide_eq_true c3
   have c4b0 : decide (0 ≤ x5_1) = true := decide_eq_true c4
   have C3 := am_ c3
   have C4 := am_ c4
   have p7 := eq_true c4
   have q7 := eq_true c3
   clear c3 c4
   go_wp2_with (first | ((with_reducible refine gate_callee (f := 34) rfl ?_); refine gl_ 15 Tryz.func34 #[.int .i64 x1_1] ?_ rfl rfl rfl rfl; (with_reducible refine (F34.calls k1 x1_1 t _ A5.out).mono ?_); rintro e w8 ⟨rfl, hb⟩; refine ⟨_, rfl, ?_⟩; have n0_ := am_ (Kd.S_below (by (with_reducible repeat (first | apply Kd.S_alloc | apply Kd.S_drewN | apply Kd.S_drew)); exact HO_0.out) hb); have n1_ := am_ (Kept.below (S := (fun k_ => P0_ k_)) au4_13 hb); have n2_ := am_ (below_step bl_ hb); have n3_ := am_ (Nat.le_trans HW.out hb.size); clear HO_0 HK HB HW hb; have HO_0 := n0_; have HK := n1_; have HB := n2_; have HW := n3_; clear n0_ n1_ n2_ n3_; obtain ⟨hsc0, hsf0⟩ := F12.cellsS_ HO_0.out C4.out C3.out; have HP := F12.putS_ HO_0.out C4.out C3.out t) | ((with_reducible refine gate_store (t := 9) (p := 17) rfl ?_); refine store_event (t := 9) (p := 17) (v := ?vo_w10) (w1 := (w8.setCell ⟨g7, (x5_1 : Int).toNat * 2, none⟩ (.string t))) ?hg ?ho ?hn ?hr ?_; (case ho => rfl); (case hg => rfl); (case hn => rfl); (case hr => exact hr_); intro w10 hw; have hg : w8.grownBy w10 (some g7) := (by rw [hw]; exact HP.2); have n0_ := am_ (show Kd.S k49 49 w10 w0.heap.size (fun k_ => (P0_ k_ ∨ w.heap.size ≤ k_)) (.slice (some ⟨g7, 0, none⟩) x0_1.length co) (x0_1.set (x5_1 : Int).toNat ⟨t, (rd_T49 x0_1 x5_1).f1⟩) from by rw [hw]; exact HP.1); have n1_ := am_ (Kept.of_grown (S := (fun k_ => P0_ k_)) hg (by exact HK.out) (fun k_ e_ => (Kd.S_R HO_0.out).1 k_ au4_50)); have n2_ := am_ (show Below w0.heap.size w0 w10 from by rw [hw]; exact below_set HB.out (Kd.S_base HO_0.out g7 rfl)); have n3_ := am_ (Nat.le_trans HW.out hg.size); clear HO_0 HK HB HW HP hw hg hsc0 hsf0; have HO_0 := n0_; have HK := n1_; have HB := n2_; have HW := n3_; clear n0_ n1_ n2_ n3_; obtain ⟨oki, ce, hcl, hM, hcc, hfr, hoki, hH⟩ := Kd.S_elem HO_0.out z49 x5_1 C4.out C3.out; rw [F12.gets_ C4.out C3.out] at hM; obtain ⟨v1, rfl, hR⟩ := k49_openM hM; obtain ⟨A1, c1, rfl⟩ := Kd.S_slice hR; have hl1 : w10.cell? ⟨g7, (x5_1 : Int).toNat * 2 + 1, none⟩ = some (.slice A1 (rd_T49 x0_1 x5_1).f1.length c1) := hcc 1 _ rfl; have hf1 : w10.frozen? ⟨g7, (x5_1 : Int).toNat * 2 + 1, none⟩ = false := hfr 1; have HR := am_ hR; have HH := am_ hH; have HKI := am_ hoki; clear hcl hM hcc hfr hoki hR hH HO_0) | ((with_reducible refine gate_callee (f := 35) rfl ?_); refine gl_ 26 Tryz.func35 #[.slice A1 (rd_T49 x0_1 x5_1).f1.length c1, .int .i64 (wrap64 (x1_1 + 1))] ?_ rfl rfl rfl rfl; (with_reducible refine (F35.calls k1 oki (.slice A1 (rd_T49 x0_1 x5_1).f1.length c1) ((rd_T49 x0_1 x5_1).f1) (wrap64 (x1_1 + 1)) t1 t2 w0 _ ?s1 ?s2 A6.out).mono ?_); (case s1 => exact au4_30); (case s2 => exact au4_34); rintro e w12 ⟨rfl, ho, hb, hk⟩; refine ⟨_, rfl, ?_⟩; have n0_ := am_ (show Kd.S k49 49 w12 w0.heap.size (fun k_ => (P0_ k_ ∨ w.heap.size ≤ k_)) (.slice (some ⟨g7, 0, none⟩) x0_1.length co) (x0_1.set (x5_1 : Int).toNat ⟨t, t2⟩) from F12.backS_ HH.out ho hk HW.out); have n1_ := am_ (Kept.then_ (S := (fun k_ => P0_ k_)) au4_13 hk (fun k_ h_ => (HKI.out k_ h_).1)); have n2_ := am_ hb; have n3_ := am_ (Nat.le_trans HW.out hk.1); clear HK HB HW HR HH hb hk ho; have HO_0 := n0_; have HK := n1_; have HB := n2_; have HW := n3_; clear n0_ n1_ n2_ n3_))
   go_roundg k1
   case measure => have := HK1.out; omega
   case rel => exact ⟨(x0_1.set (x5_1 : Int).toNat ⟨t, t2⟩), t1, (wrap64 (x5_1 + 1)), er_, er_, H', ⟨by have := HK1.out; omega⟩, ⟨au4_15⟩, ⟨au4_6⟩, ⟨bl_⟩, ⟨HW.out⟩⟩
/-! ### F65: function 65 -/
theorem F65.cellsS_ {w : World} {base g n cap : Nat} {ok : Nat → Prop} {xs : List S56} {i : Int} (h : Kd.S k56 56 w base ok (.slice (some ⟨g, 0, none⟩) n cap) xs) (h0 : 0 ≤ i) (h1 : i < (xs.length : Int)) :
  (w.cell? ⟨g, i.toNat * 2, none⟩ = some (.int .i64 (rd_T56 xs i).f0)) ∧ w.frozen? ⟨g, i.toNat * 2, none⟩ = false := by
 have hn : n = xs.length := (Kd.S_reads' h).1
 obtain ⟨oki, c, hcl, hM, hcc, hfr, hoki, hH⟩ := Kd.S_elem h z56 i h0 (by omega)
 obtain ⟨v1, rfl, hR⟩ := k56_openM hM
 exact ⟨hcc 0 _ rfl, hfr 0⟩
theorem F65.putS_ {w : World} {base g n cap : Nat} {ok : Nat → Prop} {xs : List S56} {i : Int} (h : Kd.S k56 56 w base ok (.slice (some ⟨g, 0, none⟩) n cap) xs) (h0 : 0 ≤ i) (h1 : i < (xs.length : Int)) (t : Int) :
  Kd.S k56 56 (w.setCell ⟨g, i.toNat * 2, none⟩ (.int .i64 t)) base ok (.slice (some ⟨g, 0, none⟩) n cap) (xs.set i.toNat ⟨t, (rd_T56 xs i).f1⟩) ∧ w.grownBy (w.setCell ⟨g, i.toNat * 2, none⟩ (.int .i64 t)) (some g) := by
 have hn : n = xs.length := (Kd.S_reads' h).1
 obtain ⟨oki, c, hcl, hM, hcc, hoki, hH⟩ := Kd.S_lend h z56 i h0 (by omega)
 obtain ⟨v1, rfl, hR⟩ := k56_openM hM
 obtain ⟨h2, h3⟩ := Kd.H_seg hH h0 (by omega) (seg := [.int .i64 t]) (j := 0) (by show 0 + 1 ≤ 2; omega) (by simp [Value.oneCell'])
 have e : w.setCells g (i.toNat * k56.sz + 0) [.int .i64 t] = w.setCell ⟨g, i.toNat * 2, none⟩ (.int .i64 t) := rfl
 rw [e] at h2 h3
 refine ⟨Kd.H_back h2 (k56_mkM _ _ oki (⟨t, (rd_T56 xs i).f1⟩ : S56) (Kd.S_step hR (fun k hk hlt => ?_))) (fun _ hk => hk), h3⟩
 exact h3.block k hlt (fun he => (hoki k hk).2 (by injection he))
theorem F65.gets_ {xs : List S56} {i : Int} {x : S56} (h0 : 0 ≤ i) (h1 : i < (xs.length : Int)) : (xs.set i.toNat x).getD i.toNat z56 = x := by
 rw [List.getD_eq_getElem?_getD, List.getElem?_set_self (by omega)]
 rfl
theorem F65.backS_ {w w1 : World} {base b g n cap : Nat} {P0 oki : Nat → Prop} {xs : List S56} {i : Int} {t : Int} {f1 t2 : List S49} {v1 : Value}
  (hH : Kd.H k56 56 w base (fun k_ => (P0 k_ ∨ b ≤ k_)) (.slice (some ⟨g, 0, none⟩) n cap) (xs.set i.toNat ⟨t, f1⟩) i oki [.int .i64 t, v1])
  (ho : Kd.S k49 49 w1 base (fun k_ => (oki k_ ∨ w.heap.size ≤ k_)) v1 t2) (hk : Kept w w1 oki) (hb : b ≤ w.heap.size) :
  Kd.S k56 56 w1 base (fun k_ => (P0 k_ ∨ b ≤ k_)) (.slice (some ⟨g, 0, none⟩) n cap) (xs.set i.toNat ⟨t, t2⟩) := by
 have h := Kd.H_back (Kd.H_step (Kd.H_widen hH) (fun k _ hn hlt => hk.2 k hlt (fun h => hn (.inl h)))) (k56_mkM _ _ _ (⟨t, t2⟩ : S56) ho) (fun k h_ => h_.elim (fun a => .inl a) (fun c => .inr ⟨.inr (Nat.le_trans hb c), c⟩))
 rwa [List.set_set] at h
def F65.l0 : Nat → List S56 → Int → Int → Option (Int × List S56)
  | 0, _, _, _ => none
  | k + 1, x0, x1, x5 => if x5 < (x0.length : Int) then (if 0 ≤ x5 then ((F12.f k (rd_T56 x0 x5).f1 (wrap64 (x1 + 1))).bind fun q => (F65.l0 k (x0.set (x5 : Int).toNat ⟨x1, q.2⟩) q.1 (wrap64 (x5 + 1)))) else (none)) else (some (x1, x0))
def F65.f (k : Nat) (l0 : List S56) (a1 : Int) : Option (Int × List S56) := F65.l0 k l0 a1 0
theorem F65.mono_l : ∀ k, (∀ y0 y1 y2, LeO (F65.l0 k y0 y1 y2) (F65.l0 (k + 1) y0 y1 y2))
 | 0 => fun _ _ _ r h => by simp [F65.l0] at h
 | k + 1 => by
  have ih := F65.mono_l k
  intro y0 y1 y2
  unfold F65.l0
  exact LeO.ite (LeO.ite (LeO.bind (F12.mono _ _ _) (fun _ => ih _ _ _)) (LeO.none _)) (LeO.refl _)
theorem F65.mono : ∀ a0 a1 k, LeO (F65.f k a0 a1) (F65.f (k + 1) a0 a1) := fun a0 a1 k => F65.mono_l k a0 a1 0
theorem F65.calls (k : Nat) (P0_ : Nat → Prop) (u9000_ : Value) (l0 : List S56) (a1 : Int) (r1 : Int) (r2 : List S56) (w0 w : World) (hB : Below w0.heap.size w0 w) (ho0 : Kd.S k56 56 w w0.heap.size P0_ u9000_ l0) (h : F65.f k l0 a1 = some (r1, r2)) :
  Calls Tryz.prog 65 #[u9000_, .int .i64 a1] w fun e w' => e = .returned (.int .i64 r1) ∧ Kd.S k56 56 w' w0.heap.size (fun k_ => (P0_ k_ ∨ w.heap.size ≤ k_)) u9000_ r2 ∧ Below w0.heap.size w0 w' ∧ Kept w w' (fun k_ => P0_ k_) := by
 have hu51 := Tryz.underlying51
 have hu56 := Tryz.underlying56
 have HO0 := am_ (show Kd.S k56 56 w w0.heap.size (fun k_ => (P0_ k_ ∨ w.heap.size ≤ k_)) u9000_ l0 from Kd.S_mono ho0 (fun k_ hk => (.inl hk)))
 have HK := am_ (Kept.refl w (fun k_ => P0_ k_))
 have HB := am_ hB
 have HW := am_ (Nat.le_refl w.heap.size)
 clear hB ho0
 have H' := am_ (show F65.l0 k l0 a1 0 = some (r1, r2) from h)
 clear h
 go_enter Tryz.func65, Tryz.ntmps65
 go_wp2
 go_loopg [1, 5] k (fun kq v1 v5 w' => ∃ (x0_1 : List S56) (x1_1 : Int) (x5_1 : Int), v1 = .int .i64 x1_1 ∧ v5 = .int .i64 x5_1 ∧ Aside0 (F65.l0 kq x0_1 x1_1 x5_1 = some (r1, r2)) ∧ Aside0 (kq ≤ k) ∧ Aside0 (Kd.S k56 56 w' w0.heap.size (fun k_ => (P0_ k_ ∨ w.heap.size ≤ k_)) u9000_ x0_1) ∧ Aside0 (Kept w w' (fun k_ => P0_ k_)) ∧ Aside0 (Below w0.heap.size w0 w') ∧ Aside0 (w.heap.size ≤ w'.heap.size))
 case atStart => exact ⟨(l0), (a1), (0), er_, er_, H', ⟨Nat.le_refl _⟩, ⟨au4_33⟩, ⟨au4_6⟩, ⟨bl_⟩, ⟨HW.out⟩⟩
 case round =>
  clear H'
  obtain ⟨x0_1, x1_1, x5_1, rfl, rfl, HA, HK1, HO_0, HK, HB, HW⟩ := hrel
  cases gk with
  | zero => exact absurd HA.out (by simp [F65.l0])
  | succ k1 =>
   have H := HA.out
   clear HA
   simp only [F65.l0] at H
   by_cases c3 : x5_1 < (x0_1.length : Int)
   rotate_left
   ·rw [if_neg c3] at H
    have c3b0 : decide (x5_1 < (x0_1.length : Int)) = false := decide_eq_false c3
    clear c3
    simp only [Option.some.injEq, Prod.mk.injEq] at H
    obtain ⟨rfl, rfl⟩ := H
    obtain ⟨Ao11, co11, eo11⟩ := Kd.S_slice HO_0.out
    subst eo11
    go_wp2
    go_ret
    exact ⟨au4_1, au4_15, bl_, au4_6⟩

   rw [if_pos c3] at H
   by_cases c4 : 0 ≤ x5_1
   rotate_left
   ·rw [if_neg c4] at H
    exact absurd H (by simp)
   rw [if_pos c4] at H
   replace H := bi_ H; rcases H with ⟨⟨t1, t2⟩, A6, H⟩
   have H' := am_ (show F65.l0 k1 (x0_1.set (x5_1 : Int).toNat ⟨x1_1, t2⟩) t1 (wrap64 (x5_1 + 1)) = some (r1, r2) from H)
   clear H
   obtain ⟨Ao, co, eo⟩ := Kd.S_slice HO_0.out
   subst eo
   obtain ⟨ad, A7, c7, e7, hx7, hy7, hl7, hi7⟩ := at_T56 ((Kd.S_reads' HO_0.out).2.2) x5_1 c4 c3
   cases e7
   obtain ⟨g7, hg7⟩ : ∃ g, ad = ⟨g, 0, none⟩ := Kd.R_head (Kd.S_R HO_0.out)
   subst hg7
   clear hx7 hy7 hl7 hi7
   have c3b0 : decide (x5_1 < (x0_1.length : Int)) = true := decide_eq_true c3
   have c4b0 : decide (0 ≤ x5_1) = true := decide_eq_true c4
   have C3 := am_ c3
   have C4 := am_ c4
   have p7 := eq_true c4
   have q7 := eq_true c3
   clear c3 c4
   obtain ⟨hsc0, hsf0⟩ := F65.cellsS_ HO_0.out C4.out C3.out
   have HP := F65.putS_ HO_0.out C4.out C3.out x1_1
   go_wp2_with (first | ((with_reducible refine gate_store (t := 2) (p := 16) rfl ?_); refine store_event (t := 2) (p := 16) (v := ?vo_w10) (w1 := (wr.setCell ⟨g7, (x5_1 : Int).toNat * 2, none⟩ (.int .i64 x1_1))) ?hg ?ho ?hn ?hr ?_; (case ho => rfl); (case hg => rfl); (case hn => rfl); (case hr => exact hr_); intro w10 hw; have hg : wr.grownBy w10 (some g7) := (by rw [hw]; exact HP.2); have n0_ := am_ (show Kd.S k56 56 w10 w0.heap.size (fun k_ => (P0_ k_ ∨ w.heap.size ≤ k_)) (.slice (some ⟨g7, 0, none⟩) x0_1.length co) (x0_1.set (x5_1 : Int).toNat ⟨x1_1, (rd_T56 x0_1 x5_1).f1⟩) from by rw [hw]; exact HP.1); have n1_ := am_ (Kept.of_grown (S := (fun k_ => P0_ k_)) hg (by exact HK.out) (fun k_ e_ => (Kd.S_R HO_0.out).1 k_ au4_50)); have n2_ := am_ (show Below w0.heap.size w0 w10 from by rw [hw]; exact below_set HB.out (Kd.S_base HO_0.out g7 rfl)); have n3_ := am_ (Nat.le_trans HW.out hg.size); clear HO_0 HK HB HW HP hw hg hsc0 hsf0; have HO_0 := n0_; have HK := n1_; have HB := n2_; have HW := n3_; clear n0_ n1_ n2_ n3_; obtain ⟨oki, ce, hcl, hM, hcc, hfr, hoki, hH⟩ := Kd.S_elem HO_0.out z56 x5_1 C4.out C3.out; rw [F65.gets_ C4.out C3.out] at hM; obtain ⟨v1, rfl, hR⟩ := k56_openM hM; obtain ⟨A1, c1, rfl⟩ := Kd.S_slice hR; have hl1 : w10.cell? ⟨g7, (x5_1 : Int).toNat * 2 + 1, none⟩ = some (.slice A1 (rd_T56 x0_1 x5_1).f1.length c1) := hcc 1 _ rfl; have hf1 : w10.frozen? ⟨g7, (x5_1 : Int).toNat * 2 + 1, none⟩ = false := hfr 1; have HR := am_ hR; have HH := am_ hH; have HKI := am_ hoki; clear hcl hM hcc hfr hoki hR hH HO_0) | ((with_reducible refine gate_callee (f := 12) rfl ?_); refine gl_ 25 Tryz.func12 #[.slice A1 (rd_T56 x0_1 x5_1).f1.length c1, .int .i64 (wrap64 (x1_1 + 1))] ?_ rfl rfl rfl rfl; (with_reducible refine (F12.calls k1 oki (.slice A1 (rd_T56 x0_1 x5_1).f1.length c1) ((rd_T56 x0_1 x5_1).f1) (wrap64 (x1_1 + 1)) t1 t2 w0 _ ?s1 ?s2 A6.out).mono ?_); (case s1 => exact au4_30); (case s2 => exact au4_34); rintro e w12 ⟨rfl, ho, hb, hk⟩; refine ⟨_, rfl, ?_⟩; have n0_ := am_ (show Kd.S k56 56 w12 w0.heap.size (fun k_ => (P0_ k_ ∨ w.heap.size ≤ k_)) (.slice (some ⟨g7, 0, none⟩) x0_1.length co) (x0_1.set (x5_1 : Int).toNat ⟨x1_1, t2⟩) from F65.backS_ HH.out ho hk HW.out); have n1_ := am_ (Kept.then_ (S := (fun k_ => P0_ k_)) au4_13 hk (fun k_ h_ => (HKI.out k_ h_).1)); have n2_ := am_ hb; have n3_ := am_ (Nat.le_trans HW.out hk.1); clear HK HB HW HR HH hb hk ho; have HO_0 := n0_; have HK := n1_; have HB := n2_; have HW := n3_; clear n0_ n1_ n2_ n3_))
   go_roundg k1
   case measure => have := HK1.out; omega
   case rel => exact ⟨(x0_1.set (x5_1 : Int).toNat ⟨x1_1, t2⟩), t1, (wrap64 (x5_1 + 1)), er_, er_, H', ⟨by have := HK1.out; omega⟩, ⟨au4_15⟩, ⟨au4_6⟩, ⟨bl_⟩, ⟨HW.out⟩⟩
/-! ### F33: function 33 -/
theorem F33.cellsS_ {w : World} {base g n cap : Nat} {ok : Nat → Prop} {xs : List S53} {i : Int} (h : Kd.S k53 53 w base ok (.slice (some ⟨g, 0, none⟩) n cap) xs) (h0 : 0 ≤ i) (h1 : i < (xs.length : Int)) :
  (w.cell? ⟨g, i.toNat * 3, none⟩ = some (.int .i64 (rd_T53 xs i).f0)) ∧ w.frozen? ⟨g, i.toNat * 3, none⟩ = false := by
 have hn : n = xs.length := (Kd.S_reads' h).1
 obtain ⟨oki, c, hcl, hM, hcc, hfr, hoki, hH⟩ := Kd.S_elem h z53 i h0 (by omega)
 obtain ⟨v1, rfl, hR⟩ := k53_openM hM
 exact ⟨hcc 0 _ rfl, hfr 0⟩
theorem F33.cellsT_ {w : World} {base g n cap : Nat} {ok : Nat → Prop} {xs : List S53} {i : Int} (h : Kd.S k53 53 w base ok (.slice (some ⟨g, 0, none⟩) n cap) xs) (h0 : 0 ≤ i) (h1 : i < (xs.length : Int)) :
  (w.cell? ⟨g, i.toNat * 3 + 1, none⟩ = some (.int .i64 (rd_T53 xs i).f1)) ∧ w.frozen? ⟨g, i.toNat * 3 + 1, none⟩ = false := by
 have hn : n = xs.length := (Kd.S_reads' h).1
 obtain ⟨oki, c, hcl, hM, hcc, hfr, hoki, hH⟩ := Kd.S_elem h z53 i h0 (by omega)
 obtain ⟨v1, rfl, hR⟩ := k53_openM hM
 exact ⟨hcc 1 _ rfl, hfr 1⟩
theorem F33.putS_ {w : World} {base g n cap : Nat} {ok : Nat → Prop} {xs : List S53} {i : Int} (h : Kd.S k53 53 w base ok (.slice (some ⟨g, 0, none⟩) n cap) xs) (h0 : 0 ≤ i) (h1 : i < (xs.length : Int)) (t : Int) :
  Kd.S k53 53 (w.setCell ⟨g, i.toNat * 3, none⟩ (.int .i64 t)) base ok (.slice (some ⟨g, 0, none⟩) n cap) (xs.set i.toNat ⟨t, (rd_T53 xs i).f1, (rd_T53 xs i).f2⟩) ∧ w.grownBy (w.setCell ⟨g, i.toNat * 3, none⟩ (.int .i64 t)) (some g) := by
 have hn : n = xs.length := (Kd.S_reads' h).1
 obtain ⟨oki, c, hcl, hM, hcc, hoki, hH⟩ := Kd.S_lend h z53 i h0 (by omega)
 obtain ⟨v1, rfl, hR⟩ := k53_openM hM
 obtain ⟨h2, h3⟩ := Kd.H_seg hH h0 (by omega) (seg := [.int .i64 t]) (j := 0) (by show 0 + 1 ≤ 3; omega) (by simp [Value.oneCell'])
 have e : w.setCells g (i.toNat * k53.sz + 0) [.int .i64 t] = w.setCell ⟨g, i.toNat * 3, none⟩ (.int .i64 t) := rfl
 rw [e] at h2 h3
 refine ⟨Kd.H_back h2 (k53_mkM _ _ oki (⟨t, (rd_T53 xs i).f1, (rd_T53 xs i).f2⟩ : S53) (Kd.S_step hR (fun k hk hlt => ?_))) (fun _ hk => hk), h3⟩
 exact h3.block k hlt (fun he => (hoki k hk).2 (by injection he))
theorem F33.putT_ {w : World} {base g n cap : Nat} {ok : Nat → Prop} {xs : List S53} {i : Int} {x : S53} (h : Kd.S k53 53 w base ok (.slice (some ⟨g, 0, none⟩) n cap) (xs.set i.toNat x)) (h0 : 0 ≤ i) (h1 : i < (xs.length : Int)) (t : Int) :
  Kd.S k53 53 (w.setCell ⟨g, i.toNat * 3 + 1, none⟩ (.int .i64 t)) base ok (.slice (some ⟨g, 0, none⟩) n cap) (xs.set i.toNat ⟨x.f0, t, x.f2⟩) ∧ w.grownBy (w.setCell ⟨g, i.toNat * 3 + 1, none⟩ (.int .i64 t)) (some g) := by
 have hn : n = xs.length := by have := (Kd.S_reads' h).1; rwa [List.length_set] at this
 obtain ⟨oki, c, hcl, hM, hcc, hoki, hH⟩ := Kd.S_lend h z53 i h0 (by omega)
 rw [show (xs.set i.toNat x).getD i.toNat z53 = x from by rw [List.getD_eq_getElem?_getD, List.getElem?_set_self (by omega)]; rfl] at hM
 obtain ⟨v1, rfl, hR⟩ := k53_openM hM
 obtain ⟨h2, h3⟩ := Kd.H_seg hH h0 (by omega) (seg := [.int .i64 t]) (j := 1) (by show 1 + 1 ≤ 3; omega) (by simp [Value.oneCell'])
 have e : w.setCells g (i.toNat * k53.sz + 1) [.int .i64 t] = w.setCell ⟨g, i.toNat * 3 + 1, none⟩ (.int .i64 t) := rfl
 rw [e] at h2 h3
 have h4 := Kd.H_back h2 (k53_mkM _ _ oki (⟨x.f0, t, x.f2⟩ : S53) (Kd.S_step hR (fun k hk hlt => h3.block k hlt (fun he => (hoki k hk).2 (by injection he))))) (fun _ hk => hk)
 rw [List.set_set] at h4
 exact ⟨h4, h3⟩
theorem F33.gets_ {xs : List S53} {i : Int} {x : S53} (h0 : 0 ≤ i) (h1 : i < (xs.length : Int)) : (xs.set i.toNat x).getD i.toNat z53 = x := by
 rw [List.getD_eq_getElem?_getD, List.getElem?_set_self (by omega)]
 rfl
theorem F33.backS_ {w w1 : World} {base b g n cap : Nat} {P0 oki : Nat → Prop} {xs : List S53} {i : Int} {t u : Int} {f1 t2 : List S56} {v1 : Value}
  (hH : Kd.H k53 53 w base (fun k_ => (P0 k_ ∨ b ≤ k_)) (.slice (some ⟨g, 0, none⟩) n cap) (xs.set i.toNat ⟨t, u, f1⟩) i oki [.int .i64 t, .int .i64 u, v1])
  (ho : Kd.S k56 56 w1 base (fun k_ => (oki k_ ∨ w.heap.size ≤ k_)) v1 t2) (hk : Kept w w1 oki) (hb : b ≤ w.heap.size) :
  Kd.S k53 53 w1 base (fun k_ => (P0 k_ ∨ b ≤ k_)) (.slice (some ⟨g, 0, none⟩) n cap) (xs.set i.toNat ⟨t, u, t2⟩) := by
 have h := Kd.H_back (Kd.H_step (Kd.H_widen hH) (fun k _ hn hlt => hk.2 k hlt (fun h => hn (.inl h)))) (k53_mkM _ _ _ (⟨t, u, t2⟩ : S53) ho) (fun k h_ => h_.elim (fun a => .inl a) (fun c => .inr ⟨.inr (Nat.le_trans hb c), c⟩))
 rwa [List.set_set] at h
def F33.l0 : Nat → List S53 → Int → Int → Option (Int × List S53)
  | 0, _, _, _ => none
  | k + 1, x0, x1, x5 => if x5 < (x0.length : Int) then (if 0 ≤ x5 then ((F65.f k (rd_T53 x0 x5).f2 (wrap64 ((wrap64 (x1 + 1)) + 1))).bind fun q => (F33.l0 k (x0.set (x5 : Int).toNat ⟨x1, wrap64 (x1 + 1), q.2⟩) q.1 (wrap64 (x5 + 1)))) else (none)) else (some (x1, x0))
def F33.f (k : Nat) (l0 : List S53) (a1 : Int) : Option (Int × List S53) := F33.l0 k l0 a1 0
theorem F33.mono_l : ∀ k, (∀ y0 y1 y2, LeO (F33.l0 k y0 y1 y2) (F33.l0 (k + 1) y0 y1 y2))
 | 0 => fun _ _ _ r h => by simp [F33.l0] at h
 | k + 1 => by
  have ih := F33.mono_l k
  intro y0 y1 y2
  unfold F33.l0
  exact LeO.ite (LeO.ite (LeO.bind (F65.mono _ _ _) (fun _ => ih _ _ _)) (LeO.none _)) (LeO.refl _)
theorem F33.mono : ∀ a0 a1 k, LeO (F33.f k a0 a1) (F33.f (k + 1) a0 a1) := fun a0 a1 k => F33.mono_l k a0 a1 0
theorem F33.calls (k : Nat) (P0_ : Nat → Prop) (u9000_ : Value) (l0 : List S53) (a1 : Int) (r1 : Int) (r2 : List S53) (w0 w : World) (hB : Below w0.heap.size w0 w) (ho0 : Kd.S k53 53 w w0.heap.size P0_ u9000_ l0) (h : F33.f k l0 a1 = some (r1, r2)) :
  Calls Tryz.prog 33 #[u9000_, .int .i64 a1] w fun e w' => e = .returned (.int .i64 r1) ∧ Kd.S k53 53 w' w0.heap.size (fun k_ => (P0_ k_ ∨ w.heap.size ≤ k_)) u9000_ r2 ∧ Below w0.heap.size w0 w' ∧ Kept w w' (fun k_ => P0_ k_) := by
 have hu28 := Tryz.underlying28
 have hu53 := Tryz.underlying53
 have HO0 := am_ (show Kd.S k53 53 w w0.heap.size (fun k_ => (P0_ k_ ∨ w.heap.size ≤ k_)) u9000_ l0 from Kd.S_mono ho0 (fun k_ hk => (.inl hk)))
 have HK := am_ (Kept.refl w (fun k_ => P0_ k_))
 have HB := am_ hB
 have HW := am_ (Nat.le_refl w.heap.size)
 clear hB ho0
 have H' := am_ (show F33.l0 k l0 a1 0 = some (r1, r2) from h)
 clear h
 go_enter Tryz.func33, Tryz.ntmps33
 go_wp2
 go_loopg [1, 5] k (fun kq v1 v5 w' => ∃ (x0_1 : List S53) (x1_1 : Int) (x5_1 : Int), v1 = .int .i64 x1_1 ∧ v5 = .int .i64 x5_1 ∧ Aside0 (F33.l0 kq x0_1 x1_1 x5_1 = some (r1, r2)) ∧ Aside0 (kq ≤ k) ∧ Aside0 (Kd.S k53 53 w' w0.heap.size (fun k_ => (P0_ k_ ∨ w.heap.size ≤ k_)) u9000_ x0_1) ∧ Aside0 (Kept w w' (fun k_ => P0_ k_)) ∧ Aside0 (Below w0.heap.size w0 w') ∧ Aside0 (w.heap.size ≤ w'.heap.size))
 case atStart => exact ⟨(l0), (a1), (0), er_, er_, H', ⟨Nat.le_refl _⟩, ⟨au4_33⟩, ⟨au4_6⟩, ⟨bl_⟩, ⟨HW.out⟩⟩
 case round =>
  clear H'
  obtain ⟨x0_1, x1_1, x5_1, rfl, rfl, HA, HK1, HO_0, HK, HB, HW⟩ := hrel
  cases gk with
  | zero => exact absurd HA.out (by simp [F33.l0])
  | succ k1 =>
   have H := HA.out
   clear HA
   simp only [F33.l0] at H
   by_cases c3 : x5_1 < (x0_1.length : Int)
   rotate_left
   ·rw [if_neg c3] at H
    have c3b0 : decide (x5_1 < (x0_1.length : Int)) = false := decide_eq_false c3
    clear c3
    simp only [Option.some.injEq, Prod.mk.injEq] at H
    obtain ⟨rfl, rfl⟩ := H
    obtain ⟨Ao11, co11, eo11⟩ := Kd.S_slice HO_0.out
    subst eo11
    go_wp2
    go_ret
    exact ⟨au4_1, au4_15, bl_, au4_6⟩

   rw [if_pos c3] at H
   by_cases c4 : 0 ≤ x5_1
   rotate_left
   ·rw [if_neg c4] at H
    exact absurd H (by simp)
   rw [if_pos c4] at H
   replace H := bi_ H; rcases H with ⟨⟨t1, t2⟩, A6, H⟩
   have H' := am_ (show F33.l0 k1 (x0_1.set (x5_1 : Int).toNat ⟨x1_1, wrap64 (x1_1 + 1), t2⟩) t1 (wrap64 (x5_1 + 1)) = some (r1, r2) from H)
   clear H
   obtain ⟨Ao, co, eo⟩ := Kd.S_slice HO_0.out
   subst eo
   obtain ⟨ad, A7, c7, e7, hx7, hy7, hz7, hl7, hi7⟩ := at_T53 ((Kd.S_reads' HO_0.out).2.2) x5_1 c4 c3
   cases e7
   obtain ⟨g7, hg7⟩ : ∃ g, ad = ⟨g, 0, none⟩ := Kd.R_head (Kd.S_R HO_0.out)
   subst hg7
   clear hx7 hy7 hz7 hl7 hi7
   have c3b0 : decide (x5_1 < (x0_1.length : Int)) = true := decide_eq_true c3
   have c4b0 : decide (0 ≤ x5_1) = true := decide_eq_true c4
   have C3 := am_ c3
   have C4 := am_ c4
   have p7 := eq_true c4
   have q7 := eq_true c3
   clear c3 c4
   obtain ⟨hsc0, hsf0⟩ := F33.cellsS_ HO_0.out C4.out C3.out
   have HP := F33.putS_ HO_0.out C4.out C3.out x1_1
   go_wp2_with (first | ((with_reducible refine gate_store (t := 2) (p := 16) rfl ?_); refine store_event (t := 2) (p := 16) (v := ?vo_w10) (w1 := (wr.setCell ⟨g7, (x5_1 : Int).toNat * 3, none⟩ (.int .i64 x1_1))) ?hg ?ho ?hn ?hr ?_; (case ho => rfl); (case hg => rfl); (case hn => rfl); (case hr => exact hr_); intro w10 hw; have hg : wr.grownBy w10 (some g7) := (by rw [hw]; exact HP.2); have n0_ := am_ (show Kd.S k53 53 w10 w0.heap.size (fun k_ => (P0_ k_ ∨ w.heap.size ≤ k_)) (.slice (some ⟨g7, 0, none⟩) x0_1.length co) (x0_1.set (x5_1 : Int).toNat ⟨x1_1, (rd_T53 x0_1 x5_1).f1, (rd_T53 x0_1 x5_1).f2⟩) from by rw [hw]; exact HP.1); have n1_ := am_ (Kept.of_grown (S := (fun k_ => P0_ k_)) hg (by exact HK.out) (fun k_ e_ => (Kd.S_R HO_0.out).1 k_ au4_50)); have n2_ := am_ (show Below w0.heap.size w0 w10 from by rw [hw]; exact below_set HB.out (Kd.S_base HO_0.out g7 rfl)); have n3_ := am_ (Nat.le_trans HW.out hg.size); clear HO_0 HK HB HW HP hw hg hsc0 hsf0; have HO_0 := n0_; have HK := n1_; have HB := n2_; have HW := n3_; clear n0_ n1_ n2_ n3_; obtain ⟨hsc1, hsf1⟩ := F33.cellsT_ HO_0.out C4.out (by have := C3.out; rw [List.length_set]; exact this); rw [show (rd_T53 (x0_1.set (x5_1 : Int).toNat ⟨x1_1, (rd_T53 x0_1 x5_1).f1, (rd_T53 x0_1 x5_1).f2⟩) x5_1) = (⟨x1_1, (rd_T53 x0_1 x5_1).f1, (rd_T53 x0_1 x5_1).f2⟩ : S53) from F33.gets_ C4.out C3.out] at hsc1; have HP := F33.putT_ HO_0.out C4.out C3.out (wrap64 (x1_1 + 1))) | ((with_reducible refine gate_store (t := 2) (p := 23) rfl ?_); refine store_event (t := 2) (p := 23) (v := ?vo_w11) (w1 := (w10.setCell ⟨g7, (x5_1 : Int).toNat * 3 + 1, none⟩ (.int .i64 (wrap64 (x1_1 + 1))))) ?hg ?ho ?hn ?hr ?_; (case ho => rfl); (case hg => rfl); (case hn => rfl); (case hr => exact hr_); intro w11 hw; have hg : w10.grownBy w11 (some g7) := (by rw [hw]; exact HP.2); have n0_ := am_ (show Kd.S k53 53 w11 w0.heap.size (fun k_ => (P0_ k_ ∨ w.heap.size ≤ k_)) (.slice (some ⟨g7, 0, none⟩) x0_1.length co) (x0_1.set (x5_1 : Int).toNat ⟨x1_1, wrap64 (x1_1 + 1), (rd_T53 x0_1 x5_1).f2⟩) from by rw [hw]; exact HP.1); have n1_ := am_ (Kept.of_grown (S := (fun k_ => P0_ k_)) hg (by exact HK.out) (fun k_ e_ => (Kd.S_R HO_0.out).1 k_ au4_50)); have n2_ := am_ (show Below w0.heap.size w0 w11 from by rw [hw]; exact below_set HB.out (Kd.S_base HO_0.out g7 rfl)); have n3_ := am_ (Nat.le_trans HW.out hg.size); clear HO_0 HK HB HW HP hw hg hsc1 hsf1; have HO_0 := n0_; have HK := n1_; have HB := n2_; have HW := n3_; clear n0_ n1_ n2_ n3_; obtain ⟨oki, ce, hcl, hM, hcc, hfr, hoki, hH⟩ := Kd.S_elem HO_0.out z53 x5_1 C4.out C3.out; rw [F33.gets_ C4.out C3.out] at hM; obtain ⟨v1, rfl, hR⟩ := k53_openM hM; obtain ⟨A1, c1, rfl⟩ := Kd.S_slice hR; have hl1 : w11.cell? ⟨g7, (x5_1 : Int).toNat * 3 + 2, none⟩ = some (.slice A1 (rd_T53 x0_1 x5_1).f2.length c1) := hcc 2 _ rfl; have hf1 : w11.frozen? ⟨g7, (x5_1 : Int).toNat * 3 + 2, none⟩ = false := hfr 2; have HR := am_ hR; have HH := am_ hH; have HKI := am_ hoki; clear hcl hM hcc hfr hoki hR hH HO_0) | ((with_reducible refine gate_callee (f := 65) rfl ?_); refine gl_ 32 Tryz.func65 #[.slice A1 (rd_T53 x0_1 x5_1).f2.length c1, .int .i64 (wrap64 ((wrap64 (x1_1 + 1)) + 1))] ?_ rfl rfl rfl rfl; (with_reducible refine (F65.calls k1 oki (.slice A1 (rd_T53 x0_1 x5_1).f2.length c1) ((rd_T53 x0_1 x5_1).f2) (wrap64 ((wrap64 (x1_1 + 1)) + 1)) t1 t2 w0 _ ?s1 ?s2 A6.out).mono ?_); (case s1 => exact au4_30); (case s2 => exact au4_34); rintro e w12 ⟨rfl, ho, hb, hk⟩; refine ⟨_, rfl, ?_⟩; have n0_ := am_ (show Kd.S k53 53 w12 w0.heap.size (fun k_ => (P0_ k_ ∨ w.heap.size ≤ k_)) (.slice (some ⟨g7, 0, none⟩) x0_1.length co) (x0_1.set (x5_1 : Int).toNat ⟨x1_1, wrap64 (x1_1 + 1), t2⟩) from F33.backS_ HH.out ho hk HW.out); have n1_ := am_ (Kept.then_ (S := (fun k_ => P0_ k_)) au4_13 hk (fun k_ h_ => (HKI.out k_ h_).1)); have n2_ := am_ hb; have n3_ := am_ (Nat.le_trans HW.out hk.1); clear HK HB HW HR HH hb hk ho; have HO_0 := n0_; have HK := n1_; have HB := n2_; have HW := n3_; clear n0_ n1_ n2_ n3_))
   go_roundg k1
   case measure => have := HK1.out; omega
   case rel => exact ⟨(x0_1.set (x5_1 : Int).toNat ⟨x1_1, wrap64 (x1_1 + 1), t2⟩), t1, (wrap64 (x5_1 + 1)), er_, er_, H', ⟨by have := HK1.out; omega⟩, ⟨au4_15⟩, ⟨au4_6⟩, ⟨bl_⟩, ⟨HW.out⟩⟩
/-! ### F11: function 11 -/
def F11.f (k : Nat) (a0_0 : ByteArray) (a0_1 : ByteArray) (a0_2 : Int) (l0_3 : List (S53)) (a1 : Int) : Option (Int × List (S53)) := F33.f k l0_3 a1
theorem F11.mono : ∀ a0 a1 a2 a3 a4 k, LeO (F11.f k a0 a1 a2 a3 a4) (F11.f (k + 1) a0 a1 a2 a3 a4) := fun _ _ _ a3 a4 k => F33.mono a3 a4 k
theorem F11.calls (k : Nat) (a0_0 : ByteArray) (a0_1 : ByteArray) (a0_2 : Int) (P0_3_ : Nat → Prop) (u9000_ : Value) (l0_3 : List (S53)) (a1 : Int) (r1 : Int) (r2 : List (S53)) (w0 w : World) (hB : Below w0.heap.size w0 w) (ho0_3 : Kd.S k53 53 w w0.heap.size P0_3_ u9000_ l0_3) (h : F11.f k a0_0 a0_1 a0_2 l0_3 a1 = some (r1, r2)) :
  Calls Tryz.prog 11 #[.agg #[.string a0_0, .string a0_1, .int .i64 a0_2, u9000_], .int .i64 a1] w fun e w' => e = .returned (.int .i64 r1) ∧ Kd.S k53 53 w' w0.heap.size (fun k_ => (P0_3_ k_ ∨ w.heap.size ≤ k_)) u9000_ r2 ∧ Below w0.heap.size w0 w' ∧ Kept w w' (fun k_ => P0_3_ k_) := by
 have hu30 := Tryz.underlying30
 have HO := am_ ho0_3
 have HB := am_ hB
 have HH := am_ (show F33.f k l0_3 a1 = some (r1, r2) from h)
 clear hB ho0_3 h
 obtain ⟨Ao4, co4, eo4⟩ := Kd.S_slice HO.out
 subst eo4
 go_enter Tryz.func11, Tryz.ntmps11
 go_wp2_with (first | ((with_reducible refine gate_dst (N := 2) rfl ?_); refine be_ 2 #[.string a0_0, .string a0_1, .int .i64 a0_2, .slice Ao4 l0_3.length co4] 30 ?_; intro gb hg w5 hbox hb; have BK := am_ hbox; have HZ := am_ hb.size; have HO5 := am_ (Kd.S_below HO.out hb); have HK5 := am_ (Kept.of_below hb (fun k_ => P0_3_ k_)); have HB5 := am_ (below_step HB.out hb); clear hb hbox hg; obtain ⟨hcz_0, hcz_1, hcz_2, hcz_3, hfz_0, hfz_1, hfz_2, hfz_3⟩ := cellsF4 BK.out) | ((with_reducible refine gate_callee (f := 33) rfl ?_); refine gl_ 8 Tryz.func33 #[.slice Ao4 l0_3.length co4, .int .i64 a1] ?_ rfl rfl rfl rfl; (with_reducible refine (F33.calls k P0_3_ (.slice Ao4 l0_3.length co4) l0_3 a1 r1 r2 w0 _ ?s1 ?s2 HH.out).mono ?_); (case s1 => repeat (first | (with_reducible first | exact HB5.out | apply below_alloc | apply pw_below_drewN | apply below_drew1) | exact HB5.out)); (case s2 => (with_reducible repeat (first | apply Kd.S_alloc | apply Kd.S_drewN | apply Kd.S_drew)); exact HO5.out); rintro e w7 ⟨rfl, ho, hb, hk⟩; refine ⟨_, rfl, ?_⟩; have HO7 := am_ (Kd.S_mono ho (fun k_ h_ => h_.elim (fun a_ => Or.inl a_) (fun b_ => Or.inr (Nat.le_trans HZ.out b_))) : Kd.S k53 53 w7 w0.heap.size (fun k_ => (P0_3_ k_ ∨ w.heap.size ≤ k_)) (.slice Ao4 l0_3.length co4) r2); have HB7 := am_ hb; have HK7 := am_ (Kept.then_ HK5.out hk (fun k_ h_ => Or.inl h_)); clear ho hb hk))
 go_ret
 exact ⟨by first | rfl | (simp; done), by (with_reducible repeat (first | apply Kd.S_alloc | apply Kd.S_drewN | apply Kd.S_drew)); exact HO7.out, by repeat (first | (with_reducible first | exact HB7.out | apply below_alloc | apply pw_below_drewN | apply below_drew1) | exact HB7.out), by repeat (first | (with_reducible first | exact HK7.out | apply Kept.alloc | apply Kept.drewN | apply Kept.drew) | exact HK7.out)⟩

/-! ### F67: function 67 -/
def F67.l0 : Nat → List ByteArray → Int → Int → Option (Int)
  | 0, _, _, _ => none
  | k + 1, x0, x1, x5 => if x5 < (x0.length : Int) then (if 0 ≤ x5 then ((F34.f k x1).bind fun t539 => (if (rdOf ByteArray.empty x0 x5).toList = t539.toList then (F67.l0 k x0 (wrap64 (x1 + 1)) (wrap64 (x5 + 1))) else (some (-1)))) else (none)) else (some x1)
def F67.f (k : Nat) (l0 : List ByteArray) (a1 : Int) : Option (Int) := F67.l0 k l0 a1 0
theorem F67.mono_l : ∀ k, (∀ y0 y1 y2, LeO (F67.l0 k y0 y1 y2) (F67.l0 (k + 1) y0 y1 y2))
 | 0 => fun _ _ _ r h => by simp [F67.l0] at h
 | k + 1 => by
  have ih0 := F67.mono_l k
  intro y0 y1 y2
  unfold F67.l0
  repeat' with_reducible first | exact ih0 _ _ _ | exact F34.mono _ _ | exact LeO.refl _ | exact LeO.none _ | refine LeO.ite ?_ ?_ | refine LeO.bind ?_ (fun _ => ?_)
theorem F67.mono : ∀ a0 a1 k, LeO (F67.f k a0 a1) (F67.f (k + 1) a0 a1) := by
 intro a0 a1 k
 have ih0 := F67.mono_l k
 unfold F67.f
 repeat' with_reducible first | exact ih0 _ _ _ | exact F34.mono _ _ | exact LeO.refl _ | exact LeO.none _ | refine LeO.ite ?_ ?_ | refine LeO.bind ?_ (fun _ => ?_)
theorem F67.calls (k : Nat) (A0 : Option Addr) (c0 : Nat) (l0 : List ByteArray) (a1 : Int) (r : Int) (w : World) (hr0 : Kd.C Kd.string w A0 l0.length l0) (hc0 : l0.length ≤ c0) (h : F67.f k l0 a1 = some r) :
  Calls Tryz.prog 67 #[.slice A0 l0.length c0, .int .i64 a1] w fun e w' => e = .returned (.int .i64 r) ∧ Below w.heap.size w w' := by
 have HR0 := am_ hr0
 have HC0 := am_ hc0
 clear hr0 hc0
 have HB := am_ (Below.refl w.heap.size w)
 have H : (F67.l0 k l0 a1 0) = some r := h
 clear h
 have H' := am_ H
 clear H
 go_enter Tryz.func67, Tryz.ntmps67
 go_wp2
 go_loopg [1, 5] k (fun kq v1 v5 w' => ∃ (x1_1 : Int) (x5_1 : Int), v1 = .int .i64 x1_1 ∧ v5 = .int .i64 x5_1 ∧ Aside0 (F67.l0 kq l0 x1_1 x5_1 = some r) ∧ Aside0 (kq ≤ k) ∧ Aside0 (Below w.heap.size w w'))
 case atStart => exact ⟨(a1), (0), er_, er_, H', ⟨Nat.le_refl _⟩, ⟨bl_⟩⟩
 case round =>
  clear H'
  obtain ⟨x1_1, x5_1, rfl, rfl, HA, HK1, HB⟩ := hrel
  cases gk with
  | zero => exact absurd HA.out (by simp [F67.l0])
  | succ k1 =>
   have H := HA.out
   clear HA
   simp only [F67.l0] at H
   replace H := it_ H; rcases H with ⟨c3b0, H⟩ | ⟨c3b0, H⟩
   rotate_left
   ·obtain rfl := Option.some.inj H
    go_wp2
    go_ret
    exact ⟨au4_1, bl_⟩

   replace H := itn_ H; rcases H with ⟨c4b0, H⟩
   replace H := bi_ H; rcases H with ⟨t539, A5, H⟩
   by_cases c6 : (rdOf ByteArray.empty l0 x5_1).toList = t539.toList
   rotate_left
   ·rw [if_neg c6] at H
    have c6b0 : ((rdOf ByteArray.empty l0 x5_1).toList == t539.toList) = false := beq_eq_false_iff_ne.mpr c6
    have c6b1 : ((rdOf ByteArray.empty l0 x5_1).toList != t539.toList) = true := bne_iff_ne.mpr c6
    obtain rfl := Option.some.inj H
    try go_wp2
    replace HB := am_ (below_drew1 HB.out)
    have p538 : 0 ≤ (x5_1 : Int) := od_
    have q538 : x5_1 < (l0.length : Int) := od_
    obtain ⟨ad538, e538, hx538_0⟩ := Kd.at_string HR0.out x5_1 p538 q538
    have hw538_0 := hx538_0
    cases e538
    replace hx538_0 := (HB.out.cell (World.block_lt_of_cell? _ _ hx538_0)).trans hx538_0
    replace p538 := eq_true p538
    replace q538 := eq_true q538
    refine start_ (n := 7) (S := fun w' => w'.cell? (ad538.add (x5_1).toNat) = some (.string (rdOf ByteArray.empty l0 x5_1))) (ds := []) (bs 7 0) (by kernel_rfl) rfl rfl (((HB.out.cell (World.block_lt_of_cell? _ _ hw538_0)).trans hw538_0)) (fun hHeld => ?_)
    generalize wr.drew = w9 at HB hx538_0 hHeld ⊢
    refine pk_ 0 12 (bs 7 1) ?_ rfl rfl
    refine pk_ 1 13 (bs 7 3) ?_ rfl rfl
    refine pk_ 2 14 (bs 7 7) ?_ rfl rfl
    refine pk_ 4 16 (bs 7 23) ?_ rfl rfl
    refine take_ (i := 3) (N := some 15) (v := ?_) (a' := ?_) (bs 7 31) rfl rfl (by kernel_rfl) (fun _ _ _ h => h) (Or.inl ⟨by rfl, ?_⟩) hHeld ?_ ?_
    rotate_left
    ·intro w' s0
     go_simp
     with_reducible rfl
    rotate_left
    ·simp only [Act.put, List.setIfInBounds_toArray, List.set_cons_zero, List.set_cons_succ, i64_w, i32_w]
     rfl
    refine one_ (i := 5) (N := some 17) (bs 7 63) rfl rfl (by kernel_rfl) (by decide) (fun K hK => ?_)
    refine gr_ Tryz.func34 #[.int .i64 x1_1] (by rfl) ?_ rfl rfl rfl
    with_reducible refine (F34.calls k1 x1_1 t539 _ A5.out).mono ?_
    rintro e w10 ⟨rfl, hb⟩
    refine ⟨_, rfl, ?_⟩
    replace HB := hs_ w hb
    (try clear hb)
    (try clear hb2)
    (try clear hk)
    (try clear hi)
    refine hK.out _ _ (((HB.out.cell (World.block_lt_of_cell? _ _ hw538_0)).trans hw538_0)) (fun hHeld => ?_)
    clear hK K
    refine no_ 17 ?_
    refine pk_ 6 18 (bs 7 127) ?_ rfl rfl
    refine done_ (by kernel_rfl) ?_
    try go_wp2
    go_ret
    exact ⟨au4_1, bl_⟩
   rw [if_pos c6] at H
   have c6b0 : ((rdOf ByteArray.empty l0 x5_1).toList == t539.toList) = true := beq_iff_eq.mpr c6
   have c6b1 : ((rdOf ByteArray.empty l0 x5_1).toList != t539.toList) = false := bne_eq_false_iff_eq.mpr c6
   clear c6
   have H' := am_ H
   clear H
   try go_wp2
   replace HB := am_ (below_drew1 HB.out)
   have p538 : 0 ≤ (x5_1 : Int) := od_
   have q538 : x5_1 < (l0.length : Int) := od_
   obtain ⟨ad538, e538, hx538_0⟩ := Kd.at_string HR0.out x5_1 p538 q538
   have hw538_0 := hx538_0
   cases e538
   replace hx538_0 := (HB.out.cell (World.block_lt_of_cell? _ _ hx538_0)).trans hx538_0
   replace p538 := eq_true p538
   replace q538 := eq_true q538
   refine start_ (n := 7) (S := fun w' => w'.cell? (ad538.add (x5_1).toNat) = some (.string (rdOf ByteArray.empty l0 x5_1))) (ds := []) (bs 7 0) (by kernel_rfl) rfl rfl (((HB.out.cell (World.block_lt_of_cell? _ _ hw538_0)).trans hw538_0)) (fun hHeld => ?_)
   generalize wr.drew = w7 at HB hx538_0 hHeld ⊢
   refine pk_ 0 12 (bs 7 1) ?_ rfl rfl
   refine pk_ 1 13 (bs 7 3) ?_ rfl rfl
   refine pk_ 2 14 (bs 7 7) ?_ rfl rfl
   refine pk_ 4 16 (bs 7 23) ?_ rfl rfl
   refine take_ (i := 3) (N := some 15) (v := ?_) (a' := ?_) (bs 7 31) rfl rfl (by kernel_rfl) (fun _ _ _ h => h) (Or.inl ⟨by rfl, ?_⟩) hHeld ?_ ?_
   rotate_left
   ·intro w' s0
    go_simp
    with_reducible rfl
   rotate_left
   ·simp only [Act.put, List.setIfInBounds_toArray, List.set_cons_zero, List.set_cons_succ, i64_w, i32_w]
    rfl
   refine one_ (i := 5) (N := some 17) (bs 7 63) rfl rfl (by kernel_rfl) (by decide) (fun K hK => ?_)
   refine gr_ Tryz.func34 #[.int .i64 x1_1] (by rfl) ?_ rfl rfl rfl
   with_reducible refine (F34.calls k1 x1_1 t539 _ A5.out).mono ?_
   rintro e w8 ⟨rfl, hb⟩
   refine ⟨_, rfl, ?_⟩
   replace HB := hs_ w hb
   (try clear hb)
   (try clear hb2)
   (try clear hk)
   (try clear hi)
   refine hK.out _ _ (((HB.out.cell (World.block_lt_of_cell? _ _ hw538_0)).trans hw538_0)) (fun hHeld => ?_)
   clear hK K
   refine no_ 17 ?_
   refine pk_ 6 18 (bs 7 127) ?_ rfl rfl
   refine done_ (by kernel_rfl) ?_
   try go_wp2
   go_roundg k1
   case measure => have := HK1.out; omega
   case rel => exact ⟨(wrap64 (x1_1 + 1)), (wrap64 (x5_1 + 1)), er_, er_, H', ⟨by have := HK1.out; omega⟩, ⟨bl_⟩⟩
/-! ### F36: function 36 -/
def F36.l0 : Nat → List (S91) → Int → Int → Option (Int)
  | 0, _, _, _ => none
  | k + 1, x0, x1, x5 => if x5 < (x0.length : Int) then (if 0 ≤ x5 then ((F67.f k ((rd_T91 x0 x5).f0) x1).bind fun t541 => (if t541 < 0 then (some (-1)) else (F36.l0 k x0 t541 (wrap64 (x5 + 1))))) else (none)) else (some x1)
def F36.f (k : Nat) (l0 : List (S91)) (a1 : Int) : Option (Int) := F36.l0 k l0 a1 0
theorem F36.mono_l : ∀ k, (∀ y0 y1 y2, LeO (F36.l0 k y0 y1 y2) (F36.l0 (k + 1) y0 y1 y2))
 | 0 => fun _ _ _ r h => by simp [F36.l0] at h
 | k + 1 => by
  have ih0 := F36.mono_l k
  intro y0 y1 y2
  unfold F36.l0
  repeat' with_reducible first | exact ih0 _ _ _ | exact F67.mono _ _ _ | exact LeO.refl _ | exact LeO.none _ | refine LeO.ite ?_ ?_ | refine LeO.bind ?_ (fun _ => ?_)
theorem F36.mono : ∀ a0 a1 k, LeO (F36.f k a0 a1) (F36.f (k + 1) a0 a1) := by
 intro a0 a1 k
 have ih0 := F36.mono_l k
 unfold F36.f
 repeat' with_reducible first | exact ih0 _ _ _ | exact F67.mono _ _ _ | exact LeO.refl _ | exact LeO.none _ | refine LeO.ite ?_ ?_ | refine LeO.bind ?_ (fun _ => ?_)
theorem F36.calls (k : Nat) (A0 : Option Addr) (c0 : Nat) (l0 : List (S91)) (a1 : Int) (r : Int) (w : World) (hr0 : Kd.C k91 w A0 l0.length l0) (hc0 : l0.length ≤ c0) (h : F36.f k l0 a1 = some r) :
  Calls Tryz.prog 36 #[.slice A0 l0.length c0, .int .i64 a1] w fun e w' => e = .returned (.int .i64 r) ∧ Below w.heap.size w w' := by
 have HR0 := am_ hr0
 have HC0 := am_ hc0
 clear hr0 hc0
 have HB := am_ (Below.refl w.heap.size w)
 have H : (F36.l0 k l0 a1 0) = some r := h
 clear h
 have H' := am_ H
 clear H
 go_enter Tryz.func36, Tryz.ntmps36
 go_wp2
 go_loopg [1, 5] k (fun kq v1 v5 w' => ∃ (x1_1 : Int) (x5_1 : Int), v1 = .int .i64 x1_1 ∧ v5 = .int .i64 x5_1 ∧ Aside0 (F36.l0 kq l0 x1_1 x5_1 = some r) ∧ Aside0 (kq ≤ k) ∧ Aside0 (Below w.heap.size w w'))
 case atStart => exact ⟨(a1), (0), er_, er_, H', ⟨Nat.le_refl _⟩, ⟨bl_⟩⟩
 case round =>
  clear H'
  obtain ⟨x1_1, x5_1, rfl, rfl, HA, HK1, HB⟩ := hrel
  cases gk with
  | zero => exact absurd HA.out (by simp [F36.l0])
  | succ k1 =>
   have H := HA.out
   clear HA
   simp only [F36.l0] at H
   replace H := it_ H; rcases H with ⟨c3b0, H⟩ | ⟨c3b0, H⟩
   rotate_left
   ·obtain rfl := Option.some.inj H
    go_wp2
    go_ret
    exact ⟨au4_1, bl_⟩

   replace H := itn_ H; rcases H with ⟨c4b0, H⟩
   replace H := bi_ H; rcases H with ⟨t541, A5, H⟩
   replace H := it_ H; rcases H with ⟨c6b0, H⟩ | ⟨c6b0, H⟩
   ·obtain rfl := Option.some.inj H
    have p540 : 0 ≤ (x5_1 : Int) := od_
    have q540 : x5_1 < (l0.length : Int) := od_
    obtain ⟨ad540, A540_0, c540_0, e540, hx540_0, hl540_0, hi540_0⟩ := at_T91 HR0.out x5_1 p540 q540
    cases e540
    replace hx540_0 := (HB.out.cell (World.block_lt_of_cell? _ _ hx540_0)).trans hx540_0
    have HR540_0 := am_ hi540_0
    have HC540_0 := am_ hl540_0
    clear hi540_0 hl540_0
    replace p540 := eq_true p540
    replace q540 := eq_true q540
    go_wp2_with (first | ((with_reducible refine gate_callee (f := 67) rfl ?_); refine gl_ 18 Tryz.func67 #[.slice A540_0 ((rd_T91 l0 x5_1).f0).length c540_0, .int .i64 x1_1] ?_ rfl rfl rfl rfl; (with_reducible refine (F67.calls k1 _ _ ((rd_T91 l0 x5_1).f0) x1_1 t541 _ ?s1 ?s2 A5.out).mono ?_); (case s1 => exact au4_39); (case s2 => exact HC540_0.out); rintro e w7 ⟨rfl, hb⟩; refine ⟨_, rfl, ?_⟩; replace HB := hs_ w hb; (try clear hb)))
    go_ret
    exact ⟨au4_1, bl_⟩
   have H' := am_ H
   clear H
   have p540 : 0 ≤ (x5_1 : Int) := od_
   have q540 : x5_1 < (l0.length : Int) := od_
   obtain ⟨ad540, A540_0, c540_0, e540, hx540_0, hl540_0, hi540_0⟩ := at_T91 HR0.out x5_1 p540 q540
   cases e540
   replace hx540_0 := (HB.out.cell (World.block_lt_of_cell? _ _ hx540_0)).trans hx540_0
   have HR540_0 := am_ hi540_0
   have HC540_0 := am_ hl540_0
   clear hi540_0 hl540_0
   replace p540 := eq_true p540
   replace q540 := eq_true q540
   go_wp2_with (first | ((with_reducible refine gate_callee (f := 67) rfl ?_); refine gl_ 18 Tryz.func67 #[.slice A540_0 ((rd_T91 l0 x5_1).f0).length c540_0, .int .i64 x1_1] ?_ rfl rfl rfl rfl; (with_reducible refine (F67.calls k1 _ _ ((rd_T91 l0 x5_1).f0) x1_1 t541 _ ?s1 ?s2 A5.out).mono ?_); (case s1 => exact au4_39); (case s2 => exact HC540_0.out); rintro e w8 ⟨rfl, hb⟩; refine ⟨_, rfl, ?_⟩; replace HB := hs_ w hb; (try clear hb)))
   go_roundg k1
   case measure => have := HK1.out; omega
   case rel => exact ⟨(t541), (wrap64 (x5_1 + 1)), er_, er_, H', ⟨by have := HK1.out; omega⟩, ⟨bl_⟩⟩
/-! ### F13: function 13 -/
def F13.l0 : Nat → List (S49) → Int → Int → Option (Int)
  | 0, _, _, _ => none
  | k + 1, x0, x1, x5 => if x5 < (x0.length : Int) then (if 0 ≤ x5 then ((F34.f k x1).bind fun t543 => (if ((rd_T49 x0 x5).f0).toList = t543.toList then ((F36.f k ((rd_T49 x0 x5).f1) (wrap64 (x1 + 1))).bind fun t545 => (if t545 < 0 then (some (-1)) else (F13.l0 k x0 t545 (wrap64 (x5 + 1))))) else (some (-1)))) else (none)) else (some x1)
def F13.f (k : Nat) (l0 : List (S49)) (a1 : Int) : Option (Int) := F13.l0 k l0 a1 0
theorem F13.mono_l : ∀ k, (∀ y0 y1 y2, LeO (F13.l0 k y0 y1 y2) (F13.l0 (k + 1) y0 y1 y2))
 | 0 => fun _ _ _ r h => by simp [F13.l0] at h
 | k + 1 => by
  have ih0 := F13.mono_l k
  intro y0 y1 y2
  unfold F13.l0
  repeat' with_reducible first | exact ih0 _ _ _ | exact F36.mono _ _ _ | exact F34.mono _ _ | exact LeO.refl _ | exact LeO.none _ | refine LeO.ite ?_ ?_ | refine LeO.bind ?_ (fun _ => ?_)
theorem F13.mono : ∀ a0 a1 k, LeO (F13.f k a0 a1) (F13.f (k + 1) a0 a1) := by
 intro a0 a1 k
 have ih0 := F13.mono_l k
 unfold F13.f
 repeat' with_reducible first | exact ih0 _ _ _ | exact F36.mono _ _ _ | exact F34.mono _ _ | exact LeO.refl _ | exact LeO.none _ | refine LeO.ite ?_ ?_ | refine LeO.bind ?_ (fun _ => ?_)
def F13.T4 : Bool × List (List Nat × List Nat) := (true, [([], []), ([], []), ([0, 1], [0, 1]), ([2], [2]), ([3], [3]), ([], []), ([5], [5]), ([4, 6], [4, 6])])
def F13.B4 : List Nat := [0, 0, 3, 7, 15, 0, 32, 127]
theorem F13.tab4 : rtab .any (opsOf Tryz.f13 4) = F13.T4 := by kernel_rfl
theorem F13.bits4 : waitsOk F13.T4.2 F13.B4 = true := by kernel_rfl
theorem F13.calls (k : Nat) (A0 : Option Addr) (c0 : Nat) (l0 : List (S49)) (a1 : Int) (r : Int) (w : World) (hr0 : Kd.C k49 w A0 l0.length l0) (hc0 : l0.length ≤ c0) (h : F13.f k l0 a1 = some r) :
  Calls Tryz.prog 13 #[.slice A0 l0.length c0, .int .i64 a1] w fun e w' => e = .returned (.int .i64 r) ∧ Below w.heap.size w w' := by
 have HR0 := am_ hr0
 have HC0 := am_ hc0
 clear hr0 hc0
 have HB := am_ (Below.refl w.heap.size w)
 have H : (F13.l0 k l0 a1 0) = some r := h
 clear h
 have H' := am_ H
 clear H
 go_enter Tryz.func13, Tryz.ntmps13
 go_wp2
 go_loopg [1, 5] k (fun kq v1 v5 w' => ∃ (x1_1 : Int) (x5_1 : Int), v1 = .int .i64 x1_1 ∧ v5 = .int .i64 x5_1 ∧ Aside0 (F13.l0 kq l0 x1_1 x5_1 = some r) ∧ Aside0 (kq ≤ k) ∧ Aside0 (Below w.heap.size w w'))
 case atStart => exact ⟨(a1), (0), er_, er_, H', ⟨Nat.le_refl _⟩, ⟨bl_⟩⟩
 case round =>
  clear H'
  obtain ⟨x1_1, x5_1, rfl, rfl, HA, HK1, HB⟩ := hrel
  cases gk with
  | zero => exact absurd HA.out (by simp [F13.l0])
  | succ k1 =>
   have H := HA.out
   clear HA
   simp only [F13.l0] at H
   replace H := it_ H; rcases H with ⟨c3b0, H⟩ | ⟨c3b0, H⟩
   rotate_left
   ·obtain rfl := Option.some.inj H
    go_wp2
    go_ret
    exact ⟨au4_1, bl_⟩

   replace H := itn_ H; rcases H with ⟨c4b0, H⟩
   replace H := bi_ H; rcases H with ⟨t543, A5, H⟩
   by_cases c6 : ((rd_T49 l0 x5_1).f0).toList = t543.toList
   rotate_left
   ·rw [if_neg c6] at H
    have c6b0 : (((rd_T49 l0 x5_1).f0).toList == t543.toList) = false := beq_eq_false_iff_ne.mpr c6
    have c6b1 : (((rd_T49 l0 x5_1).f0).toList != t543.toList) = true := bne_iff_ne.mpr c6
    obtain rfl := Option.some.inj H
    try go_wp2
    replace HB := am_ (below_drew1 HB.out)
    have p542 : 0 ≤ (x5_1 : Int) := od_
    have q542 : x5_1 < (l0.length : Int) := od_
    obtain ⟨ad542, A542_1, c542_1, e542, hx542_0, hx542_1, hl542_1, hi542_1⟩ := at_T49 HR0.out x5_1 p542 q542
    have hw542_1 := hx542_1
    have hw542_0 := hx542_0
    cases e542
    replace hx542_0 := (HB.out.cell (World.block_lt_of_cell? _ _ hx542_0)).trans hx542_0
    replace hx542_1 := (HB.out.cell (World.block_lt_of_cell? _ _ hx542_1)).trans hx542_1
    have HR542_1 := am_ hi542_1
    have HC542_1 := am_ hl542_1
    clear hi542_1 hl542_1
    replace p542 := eq_true p542
    replace q542 := eq_true q542
    refine start_ (n := 8) (S := fun w' => w'.cell? (ad542.add ((x5_1).toNat * 2)) = some (.string ((rd_T49 l0 x5_1).f0)) ∧ w'.cell? ⟨(ad542.add ((x5_1).toNat * 2)).block, (ad542.add ((x5_1).toNat * 2)).off + 1, none⟩ = some (.slice A542_1 ((rd_T49 l0 x5_1).f1).length c542_1)) (ds := []) (bs 8 0) (by kernel_rfl) rfl rfl ⟨((HB.out.cell (World.block_lt_of_cell? _ _ hw542_0)).trans hw542_0), ((HB.out.cell (World.block_lt_of_cell? _ _ hw542_1)).trans hw542_1)⟩ (fun hHeld => ?_); refine with_tabW F13.tab4 F13.bits4 (fun HT_ HW_ => ?_)
    generalize wr.drew = w15 at HB HR542_1 hx542_0 hx542_1 hHeld ⊢
    refine pu_ 0 12 (bs 8 1) HT_ ?_ rfl rfl
    refine pu_ 1 13 (bs 8 3) HT_ ?_ rfl rfl
    refine pu_ 2 14 (bs 8 7) HT_ ?_ rfl rfl
    refine pu_ 3 15 (bs 8 15) HT_ ?_ rfl rfl
    refine pu_ 5 17 (bs 8 47) HT_ ?_ rfl rfl
    refine tk_ 4 16 (bs 8 63) HT_ HW_ hHeld au4_49 ?_ rfl rfl
    refine one_ (i := 6) (N := some 18) (bs 8 127) rfl rfl (one_of HT_.out (by kernel_rfl)) (by decide) (fun K hK => ?_)
    refine gr_ Tryz.func34 #[.int .i64 x1_1] (by rfl) ?_ rfl rfl rfl
    with_reducible refine (F34.calls k1 x1_1 t543 _ A5.out).mono ?_
    rintro e w16 ⟨rfl, hb⟩
    refine ⟨_, rfl, ?_⟩
    replace HB := hs_ w hb
    (try clear hb)
    (try clear hb2)
    (try clear hk)
    (try clear hi)
    refine hK.out _ _ ⟨((HB.out.cell (World.block_lt_of_cell? _ _ hw542_0)).trans hw542_0), ((HB.out.cell (World.block_lt_of_cell? _ _ hw542_1)).trans hw542_1)⟩ (fun hHeld => ?_)
    clear hK K
    refine no_ 18 ?_
    refine pu_ 7 19 (bs 8 255) HT_ ?_ rfl rfl
    refine done_ (done_of HT_.out (by kernel_rfl)) ?_
    try go_wp2
    go_ret
    exact ⟨au4_1, bl_⟩
   rw [if_pos c6] at H
   have c6b0 : (((rd_T49 l0 x5_1).f0).toList == t543.toList) = true := beq_iff_eq.mpr c6
   have c6b1 : (((rd_T49 l0 x5_1).f0).toList != t543.toList) = false := bne_eq_false_iff_eq.mpr c6
   clear c6
   replace H := bi_ H; rcases H with ⟨t545, A7, H⟩
   replace H := it_ H; rcases H with ⟨c8b0, H⟩ | ⟨c8b0, H⟩
   ·obtain rfl := Option.some.inj H
    try go_wp2
    replace HB := am_ (below_drew1 HB.out)
    have p542 : 0 ≤ (x5_1 : Int) := od_
    have q542 : x5_1 < (l0.length : Int) := od_
    obtain ⟨ad542, A542_1, c542_1, e542, hx542_0, hx542_1, hl542_1, hi542_1⟩ := at_T49 HR0.out x5_1 p542 q542
    have hw542_1 := hx542_1
    have hw542_0 := hx542_0
    cases e542
    replace hx542_0 := (HB.out.cell (World.block_lt_of_cell? _ _ hx542_0)).trans hx542_0
    replace hx542_1 := (HB.out.cell (World.block_lt_of_cell? _ _ hx542_1)).trans hx542_1
    have HR542_1 := am_ hi542_1
    have HC542_1 := am_ hl542_1
    clear hi542_1 hl542_1
    replace p542 := eq_true p542
    replace q542 := eq_true q542
    refine start_ (n := 8) (S := fun w' => w'.cell? (ad542.add ((x5_1).toNat * 2)) = some (.string ((rd_T49 l0 x5_1).f0)) ∧ w'.cell? ⟨(ad542.add ((x5_1).toNat * 2)).block, (ad542.add ((x5_1).toNat * 2)).off + 1, none⟩ = some (.slice A542_1 ((rd_T49 l0 x5_1).f1).length c542_1)) (ds := []) (bs 8 0) (by kernel_rfl) rfl rfl ⟨((HB.out.cell (World.block_lt_of_cell? _ _ hw542_0)).trans hw542_0), ((HB.out.cell (World.block_lt_of_cell? _ _ hw542_1)).trans hw542_1)⟩ (fun hHeld => ?_); refine with_tabW F13.tab4 F13.bits4 (fun HT_ HW_ => ?_)
    generalize wr.drew = w9 at HB HR542_1 hx542_0 hx542_1 hHeld ⊢
    refine pu_ 0 12 (bs 8 1) HT_ ?_ rfl rfl
    refine pu_ 1 13 (bs 8 3) HT_ ?_ rfl rfl
    refine pu_ 2 14 (bs 8 7) HT_ ?_ rfl rfl
    refine pu_ 3 15 (bs 8 15) HT_ ?_ rfl rfl
    refine pu_ 5 17 (bs 8 47) HT_ ?_ rfl rfl
    refine tk_ 4 16 (bs 8 63) HT_ HW_ hHeld au4_49 ?_ rfl rfl
    refine one_ (i := 6) (N := some 18) (bs 8 127) rfl rfl (one_of HT_.out (by kernel_rfl)) (by decide) (fun K hK => ?_)
    refine gr_ Tryz.func34 #[.int .i64 x1_1] (by rfl) ?_ rfl rfl rfl
    with_reducible refine (F34.calls k1 x1_1 t543 _ A5.out).mono ?_
    rintro e w10 ⟨rfl, hb⟩
    refine ⟨_, rfl, ?_⟩
    replace HB := hs_ w hb
    (try clear hb)
    (try clear hb2)
    (try clear hk)
    (try clear hi)
    refine hK.out _ _ ⟨((HB.out.cell (World.block_lt_of_cell? _ _ hw542_0)).trans hw542_0), ((HB.out.cell (World.block_lt_of_cell? _ _ hw542_1)).trans hw542_1)⟩ (fun hHeld => ?_)
    clear hK K
    refine no_ 18 ?_
    refine pu_ 7 19 (bs 8 255) HT_ ?_ rfl rfl
    refine done_ (done_of HT_.out (by kernel_rfl)) ?_
    have p544 : 0 ≤ (x5_1 : Int) := od_
    have q544 : x5_1 < (l0.length : Int) := od_
    obtain ⟨ad544, A544_1, c544_1, e544, hx544_0, hx544_1, hl544_1, hi544_1⟩ := at_T49 HR0.out x5_1 p544 q544
    obtain rfl : ad542 = ad544 := (by injection e544)
    obtain ⟨rfl, rfl⟩ : A544_1 = A542_1 ∧ c544_1 = c542_1 := by have e_ := Option.some.inj (hw542_1.symm.trans hx544_1); injection e_ with e1_ e2_ e3_; exact ⟨e1_.symm, e3_.symm⟩
    replace hx544_0 := (HB.out.cell (World.block_lt_of_cell? _ _ hx544_0)).trans hx544_0
    replace hx544_1 := (HB.out.cell (World.block_lt_of_cell? _ _ hx544_1)).trans hx544_1
    have HR544_1 := am_ hi544_1
    have HC544_1 := am_ hl544_1
    clear hi544_1 hl544_1
    replace p544 := eq_true p544
    replace q544 := eq_true q544
    try go_wp2_with (first | ((with_reducible refine gate_callee (f := 36) rfl ?_); refine gl_ 28 Tryz.func36 #[.slice A544_1 ((rd_T49 l0 x5_1).f1).length c544_1, .int .i64 (wrap64 (x1_1 + 1))] ?_ rfl rfl rfl rfl; (with_reducible refine (F36.calls k1 _ _ ((rd_T49 l0 x5_1).f1) (wrap64 (x1_1 + 1)) t545 _ ?s1 ?s2 A7.out).mono ?_); (case s1 => exact au4_40); (case s2 => exact HC544_1.out); rintro e w11 ⟨rfl, hb⟩; refine ⟨_, rfl, ?_⟩; replace HB := hs_ w hb; (try clear hb)))
    go_ret
    exact ⟨au4_1, bl_⟩
   have H' := am_ H
   clear H
   try go_wp2
   replace HB := am_ (below_drew1 HB.out)
   have p542 : 0 ≤ (x5_1 : Int) := od_
   have q542 : x5_1 < (l0.length : Int) := od_
   obtain ⟨ad542, A542_1, c542_1, e542, hx542_0, hx542_1, hl542_1, hi542_1⟩ := at_T49 HR0.out x5_1 p542 q542
   have hw542_1 := hx542_1
   have hw542_0 := hx542_0
   cases e542
   replace hx542_0 := (HB.out.cell (World.block_lt_of_cell? _ _ hx542_0)).trans hx542_0
   replace hx542_1 := (HB.out.cell (World.block_lt_of_cell? _ _ hx542_1)).trans hx542_1
   have HR542_1 := am_ hi542_1
   have HC542_1 := am_ hl542_1
   clear hi542_1 hl542_1
   replace p542 := eq_true p542
   replace q542 := eq_true q542
   refine start_ (n := 8) (S := fun w' => w'.cell? (ad542.add ((x5_1).toNat * 2)) = some (.string ((rd_T49 l0 x5_1).f0)) ∧ w'.cell? ⟨(ad542.add ((x5_1).toNat * 2)).block, (ad542.add ((x5_1).toNat * 2)).off + 1, none⟩ = some (.slice A542_1 ((rd_T49 l0 x5_1).f1).length c542_1)) (ds := []) (bs 8 0) (by kernel_rfl) rfl rfl ⟨((HB.out.cell (World.block_lt_of_cell? _ _ hw542_0)).trans hw542_0), ((HB.out.cell (World.block_lt_of_cell? _ _ hw542_1)).trans hw542_1)⟩ (fun hHeld => ?_); refine with_tabW F13.tab4 F13.bits4 (fun HT_ HW_ => ?_)
   generalize wr.drew = w12 at HB HR542_1 hx542_0 hx542_1 hHeld ⊢
   refine pu_ 0 12 (bs 8 1) HT_ ?_ rfl rfl
   refine pu_ 1 13 (bs 8 3) HT_ ?_ rfl rfl
   refine pu_ 2 14 (bs 8 7) HT_ ?_ rfl rfl
   refine pu_ 3 15 (bs 8 15) HT_ ?_ rfl rfl
   refine pu_ 5 17 (bs 8 47) HT_ ?_ rfl rfl
   refine tk_ 4 16 (bs 8 63) HT_ HW_ hHeld au4_49 ?_ rfl rfl
   refine one_ (i := 6) (N := some 18) (bs 8 127) rfl rfl (one_of HT_.out (by kernel_rfl)) (by decide) (fun K hK => ?_)
   refine gr_ Tryz.func34 #[.int .i64 x1_1] (by rfl) ?_ rfl rfl rfl
   with_reducible refine (F34.calls k1 x1_1 t543 _ A5.out).mono ?_
   rintro e w13 ⟨rfl, hb⟩
   refine ⟨_, rfl, ?_⟩
   replace HB := hs_ w hb
   (try clear hb)
   (try clear hb2)
   (try clear hk)
   (try clear hi)
   refine hK.out _ _ ⟨((HB.out.cell (World.block_lt_of_cell? _ _ hw542_0)).trans hw542_0), ((HB.out.cell (World.block_lt_of_cell? _ _ hw542_1)).trans hw542_1)⟩ (fun hHeld => ?_)
   clear hK K
   refine no_ 18 ?_
   refine pu_ 7 19 (bs 8 255) HT_ ?_ rfl rfl
   refine done_ (done_of HT_.out (by kernel_rfl)) ?_
   have p544 : 0 ≤ (x5_1 : Int) := od_
   have q544 : x5_1 < (l0.length : Int) := od_
   obtain ⟨ad544, A544_1, c544_1, e544, hx544_0, hx544_1, hl544_1, hi544_1⟩ := at_T49 HR0.out x5_1 p544 q544
   obtain rfl : ad542 = ad544 := (by injection e544)
   obtain ⟨rfl, rfl⟩ : A544_1 = A542_1 ∧ c544_1 = c542_1 := by have e_ := Option.some.inj (hw542_1.symm.trans hx544_1); injection e_ with e1_ e2_ e3_; exact ⟨e1_.symm, e3_.symm⟩
   replace hx544_0 := (HB.out.cell (World.block_lt_of_cell? _ _ hx544_0)).trans hx544_0
   replace hx544_1 := (HB.out.cell (World.block_lt_of_cell? _ _ hx544_1)).trans hx544_1
   have HR544_1 := am_ hi544_1
   have HC544_1 := am_ hl544_1
   clear hi544_1 hl544_1
   replace p544 := eq_true p544
   replace q544 := eq_true q544
   try go_wp2_with (first | ((with_reducible refine gate_callee (f := 36) rfl ?_); refine gl_ 28 Tryz.func36 #[.slice A544_1 ((rd_T49 l0 x5_1).f1).length c544_1, .int .i64 (wrap64 (x1_1 + 1))] ?_ rfl rfl rfl rfl; (with_reducible refine (F36.calls k1 _ _ ((rd_T49 l0 x5_1).f1) (wrap64 (x1_1 + 1)) t545 _ ?s1 ?s2 A7.out).mono ?_); (case s1 => exact au4_40); (case s2 => exact HC544_1.out); rintro e w14 ⟨rfl, hb⟩; refine ⟨_, rfl, ?_⟩; replace HB := hs_ w hb; (try clear hb)))
   go_roundg k1
   case measure => have := HK1.out; omega
   case rel => exact ⟨(t545), (wrap64 (x5_1 + 1)), er_, er_, H', ⟨by have := HK1.out; omega⟩, ⟨bl_⟩⟩
/-! ### F3: function 3 -/
def F3.j0 : Nat → List (S49) → List (S49) → Bool → ByteArray → ByteArray → Int → List (S89) → Option (Bool)
  | 0, _, _, _, _, _, _, _ => none
  | k + 1, x4, x6, x42, x547000, x547001, x547002, x547003 => if x42 = true then (some false) else ((F12.f k x6 1).bind fun bt578 => ((F13.f k bt578.2 1).bind fun t580 => (if t580 < 0 then (some false) else (if t580 = bt578.1 then ((F7.f k x547000 x547001 x547002 x547003).bind fun bt581 => ((F8.f k bt581.1 bt581.2.1 bt581.2.2.1 bt581.2.2.2).bind fun t587 => ((F9.f k t587 x4).bind fun t590 => (if t590 = true then ((F13.f k bt578.2 1).bind fun t591 => (if t591 < 0 then (some false) else (if t591 = bt578.1 then (some true) else (some false)))) else (some false))))) else (some false)))))
def F3.f (k : Nat) (a0_0 : ByteArray) (a0_1 : ByteArray) (a0_2 : Int) (l0_3 : List (S89)) : Option (Bool) := (F5.f k a0_0 a0_1 a0_2 l0_3 1048576).bind fun t547 => (if t547 < 0 then (some true) else ((F7.f k a0_0 a0_1 a0_2 l0_3).bind fun bt548 => ((F6.f k bt548.1 bt548.2.1 bt548.2.2.1 bt548.2.2.2).bind fun t554 => ((F7.f k a0_0 a0_1 a0_2 l0_3).bind fun bt557 => ((F8.f k bt557.1 bt557.2.1 bt557.2.2.1 bt557.2.2.2).bind fun t564 => ((F9.f k t564 t554).bind fun t567 => (if t567 = true then ((F7.f k a0_0 a0_1 a0_2 l0_3).bind fun bt568 => ((F10.f k bt557.1 bt557.2.1 bt557.2.2.1 bt557.2.2.2 bt568.1 bt568.2.1 bt568.2.2.1 bt568.2.2.2).bind fun t574 => (if t574 = true then ((F11.f k bt557.1 bt557.2.1 bt557.2.2.1 bt557.2.2.2 1).bind fun bt575 => (if bt575.1 < 0 then (F3.j0 k t554 t564 true a0_0 a0_1 a0_2 l0_3) else ((F9.f k t564 t554).bind fun t577 => (F3.j0 k t554 t564 (!t577) a0_0 a0_1 a0_2 l0_3)))) else (some false)))) else (some false))))))))
theorem F3.mono_l : ∀ k, (∀ y0 y1 y2 y3 y4 y5 y6, LeO (F3.j0 k y0 y1 y2 y3 y4 y5 y6) (F3.j0 (k + 1) y0 y1 y2 y3 y4 y5 y6))
 | 0 => fun _ _ _ _ _ _ _ r h => by simp [F3.j0] at h
 | k + 1 => by
  have ih0 := F3.mono_l k
  intro y0 y1 y2 y3 y4 y5 y6
  unfold F3.j0
  repeat' with_reducible first | exact ih0 _ _ _ _ _ _ _ | exact F8.mono _ _ _ _ _ | exact F10.mono _ _ _ _ _ _ _ _ _ | exact F9.mono _ _ _ | exact F13.mono _ _ _ | exact F11.mono _ _ _ _ _ _ | exact F12.mono _ _ _ | exact F5.mono _ _ _ _ _ _ | exact F7.mono _ _ _ _ _ | exact F6.mono _ _ _ _ _ | exact LeO.refl _ | exact LeO.none _ | refine LeO.ite ?_ ?_ | refine LeO.bind ?_ (fun _ => ?_)
theorem F3.mono : ∀ a0 a1 a2 a3 k, LeO (F3.f k a0 a1 a2 a3) (F3.f (k + 1) a0 a1 a2 a3) := by
 intro a0 a1 a2 a3 k
 have ih0 := F3.mono_l k
 unfold F3.f
 repeat' with_reducible first | exact ih0 _ _ _ _ _ _ _ | exact F8.mono _ _ _ _ _ | exact F10.mono _ _ _ _ _ _ _ _ _ | exact F9.mono _ _ _ | exact F13.mono _ _ _ | exact F11.mono _ _ _ _ _ _ | exact F12.mono _ _ _ | exact F5.mono _ _ _ _ _ _ | exact F7.mono _ _ _ _ _ | exact F6.mono _ _ _ _ _ | exact LeO.refl _ | exact LeO.none _ | refine LeO.ite ?_ ?_ | refine LeO.bind ?_ (fun _ => ?_)
theorem F3.calls (k : Nat) (a0_0 : ByteArray) (a0_1 : ByteArray) (a0_2 : Int) (A0_3 : Option Addr) (c0_3 : Nat) (l0_3 : List (S89)) (r : Bool) (w : World) (hr0_3 : Kd.C k89 w A0_3 l0_3.length l0_3) (hc0_3 : l0_3.length ≤ c0_3) (hT : LaidT false Tryz.prog w) (h : F3.f k a0_0 a0_1 a0_2 l0_3 = some r) :
  Calls Tryz.prog 3 #[.agg #[.string a0_0, .string a0_1, .int .i64 a0_2, .slice A0_3 l0_3.length c0_3]] w fun e w' => e = .returned (.bool r) ∧ Below w.heap.size w w' := by
 have hu24 := Tryz.underlying24
 have hu30 := Tryz.underlying30
 have HR0_3 := am_ hr0_3
 have HC0_3 := am_ hc0_3
 clear hr0_3 hc0_3
 have HZT := am_ hT
 clear hT
 have HB := am_ (Below.refl w.heap.size w)
 have H : ((F5.f k a0_0 a0_1 a0_2 l0_3 1048576).bind fun t547 => (if t547 < 0 then (some true) else ((F7.f k a0_0 a0_1 a0_2 l0_3).bind fun bt548 => ((F6.f k bt548.1 bt548.2.1 bt548.2.2.1 bt548.2.2.2).bind fun t554 => ((F7.f k a0_0 a0_1 a0_2 l0_3).bind fun bt557 => ((F8.f k bt557.1 bt557.2.1 bt557.2.2.1 bt557.2.2.2).bind fun t564 => ((F9.f k t564 t554).bind fun t567 => (if t567 = true then ((F7.f k a0_0 a0_1 a0_2 l0_3).bind fun bt568 => ((F10.f k bt557.1 bt557.2.1 bt557.2.2.1 bt557.2.2.2 bt568.1 bt568.2.1 bt568.2.2.1 bt568.2.2.2).bind fun t574 => (if t574 = true then ((F11.f k bt557.1 bt557.2.1 bt557.2.2.1 bt557.2.2.2 1).bind fun bt575 => (if bt575.1 < 0 then (F3.j0 k t554 t564 true a0_0 a0_1 a0_2 l0_3) else ((F9.f k t564 t554).bind fun t577 => (F3.j0 k t554 t564 (!t577) a0_0 a0_1 a0_2 l0_3)))) else (some false)))) else (some false))))))))) = some r := h
 clear h
 replace H := bi_ H; rcases H with ⟨t547, A2, H⟩
 replace H := it_ H; rcases H with ⟨c3b0, H⟩ | ⟨c3b0, H⟩
 ·obtain rfl := Option.some.inj H
  go_enter Tryz.func3, Tryz.ntmps3
  go_wp2_with (first | ((with_reducible refine gate_dst (N := 1) rfl ?_); refine be_ 1 #[.string a0_0, .string a0_1, .int .i64 a0_2, .slice A0_3 l0_3.length c0_3] 24 ?_; intro gb546 hg w4 hbox hb; have BK546 := am_ (hbox); have GW546 := am_ (gw_ hg bl_); have GE546 := GW546; replace HB := hs_ w hb; clear hb hbox hg; obtain ⟨hcz5_0, hcz5_1, hcz5_2, hcz5_3, hfz5_0, hfz5_1, hfz5_2, hfz5_3⟩ := cellsF4 BK546.out) | (go_at_call 5; (with_reducible refine (F5.calls k a0_0 a0_1 a0_2 _ _ l0_3 1048576 t547 _ ?s1 ?s2 A2.out).mono ?_); (case s1 => exact au4_2); (case s2 => exact HC0_3.out); rintro e w6 ⟨rfl, hb⟩; (try clear A2); replace BK546 := bb_ BK546 hb; replace HB := hs_ w hb; (try clear hb)))
  go_ret
  exact ⟨au4_1, bl_⟩
 replace H := bi_ H; rcases H with ⟨⟨t548, t549, t550, t551⟩, A7, H⟩
 replace H := bi_ H; rcases H with ⟨t554, A8, H⟩
 replace H := bi_ H; rcases H with ⟨⟨t557, t558, t559, t560⟩, A9, H⟩
 replace H := bi_ H; rcases H with ⟨t564, A10, H⟩
 replace H := bi_ H; rcases H with ⟨t567, A11, H⟩
 replace H := ib_ H; rcases H with ⟨rfl, H⟩ | ⟨rfl, H⟩
 rotate_left
 ·obtain rfl := Option.some.inj H
  go_enter Tryz.func3, Tryz.ntmps3
  go_wp2_with (first | ((with_reducible refine gate_dst (N := 1) rfl ?_); refine be_ 1 #[.string a0_0, .string a0_1, .int .i64 a0_2, .slice A0_3 l0_3.length c0_3] 24 ?_; intro gb546 hg w120 hbox hb; have BK546 := am_ (hbox); have GW546 := am_ (gw_ hg bl_); have GE546 := GW546; replace HB := hs_ w hb; clear hb hbox hg; obtain ⟨hcz121_0, hcz121_1, hcz121_2, hcz121_3, hfz121_0, hfz121_1, hfz121_2, hfz121_3⟩ := cellsF4 BK546.out) | (go_at_call 5; (with_reducible refine (F5.calls k a0_0 a0_1 a0_2 _ _ l0_3 1048576 t547 _ ?s1 ?s2 A2.out).mono ?_); (case s1 => exact au4_2); (case s2 => exact HC0_3.out); rintro e w122 ⟨rfl, hb⟩; (try clear A2); replace BK546 := bb_ BK546 hb; replace HB := hs_ w hb; (try clear hb); obtain ⟨hcz123_0, hcz123_1, hcz123_2, hcz123_3, hfz123_0, hfz123_1, hfz123_2, hfz123_3⟩ := cellsF4 BK546.out) | (go_at_call 7; (with_reducible refine (F7.calls k a0_0 a0_1 a0_2 _ _ l0_3 t548 t549 t550 t551 _ ?s1 ?s2 A7.out).mono ?_); (case s1 => exact au4_2); (case s2 => exact HC0_3.out); rintro e w124 ⟨v552, rfl, ho0, hb⟩; (try clear A7); obtain ⟨b9_19, hb9_19, ho9_19⟩ := nb9_ ho0; have HO553 := am_ (Kd.S_lower ho9_19 (below_size bl_)); replace BK546 := bb_ BK546 hb; replace HB := hs_ w hb; (try clear hb); (try clear ho0); obtain ⟨Ao125, co125, eo125⟩ := Kd.S_slice HO553.out; subst eo125) | (go_at_call 6; (with_reducible refine (F6.calls k t548 t549 t550 _ _ t551 t554 _ ?s1 ?s2 A8.out).mono ?_); (case s1 => exact au4_32); (case s2 => exact (Kd.S_reads' HO553.out).2.1); rintro e w126 ⟨v555, rfl, ho0, hb⟩; (try clear A8); obtain ⟨b9_20, hb9_20, ho9_20⟩ := nb9_ ho0; replace HO553 := am_ (Kd.S_elder' (Kd.S_mono (Kd.S_bound (ok := fun k_ => b9_19 ≤ k_) au4_4) (fun k_ hk_ => (⟨hb9_20 _ hk_.2.2.1, hk_.1⟩ : k_ < b9_20 ∧ _))) (Kd.S_base ho0) hb); have HO556 := am_ (Kd.S_lower ho9_20 (below_size bl_)); replace BK546 := bb_ BK546 hb; replace HB := hs_ w hb; (try clear hb); (try clear hb2); (try clear hk); (try clear hi); (try clear ho0); obtain ⟨hcz127_0, hcz127_1, hcz127_2, hcz127_3, hfz127_0, hfz127_1, hfz127_2, hfz127_3⟩ := cellsF4 BK546.out) | (go_at_call 7; (with_reducible refine (F7.calls k a0_0 a0_1 a0_2 _ _ l0_3 t557 t558 t559 t560 _ ?s1 ?s2 A9.out).mono ?_); (case s1 => exact au4_2); (case s2 => exact HC0_3.out); rintro e w128 ⟨v561, rfl, ho0, hb⟩; (try clear A9); obtain ⟨b9_21, hb9_21, ho9_21⟩ := nb9_ ho0; have HO562 := am_ (Kd.S_lower (Kd.S_new' (Kd.S_new' ho9_21 (Kd.S_lt au4_4)) (Kd.S_lt au4_5)) (below_size bl_)); replace HO553 := am_ (Kd.S_elder' (Kd.S_mono (Kd.S_bound (ok := fun k_ => ((k_ < b9_20 ∧ b9_19 ≤ k_) ∧ some k_ ≠ (v555 : Value).ownBlock)) au4_4) (fun k_ hk_ => (⟨hb9_21 _ hk_.2.2.1, hk_.1⟩ : k_ < b9_21 ∧ _))) (Kd.S_base ho0) hb); replace HO556 := am_ (Kd.S_below (Kd.S_mono (Kd.S_bound (ok := fun k_ => b9_20 ≤ k_) au4_5) (fun k_ hk_ => (⟨hb9_21 _ hk_.2.2.1, hk_.1⟩ : k_ < b9_21 ∧ _))) hb); replace BK546 := bb_ BK546 hb; replace HB := hs_ w hb; (try clear hb); (try clear hb2); (try clear hk); (try clear hi); (try clear ho0)) | ((with_reducible refine gate_dst (N := 5) rfl ?_); refine be_ 5 #[.string (⟨#[]⟩ : ByteArray), .string (⟨#[]⟩ : ByteArray), .int .i64 0, .slice none 0 0] 30 ?_; intro gb563 hg w129 hbox hb; replace HO553 := am_ (Kd.S_below au4_4 hb); replace HO556 := am_ (Kd.S_below au4_5 hb); replace HO562 := am_ (Kd.S_below au4_8 hb); have BK563 := am_ (hbox); have GW563 := am_ (gw_ hg bl_); have GE563 := GW563; replace HB := hs_ w hb; have NB546_563 := am_ (gn_ hg (blkl_ BK546)); have NB563_546 := am_ (gm_ hg (blkl_ BK546)); replace BK546 := bb_ BK546 hb; clear hb hbox hg; have hnb130 := NB563_546.out; have hnc130 := NB546_563.out; obtain ⟨hcz131_0, hcz131_1, hcz131_2, hcz131_3, hfz131_0, hfz131_1, hfz131_2, hfz131_3⟩ := cellsF4 BK563.out; obtain ⟨Ao132, co132, eo132⟩ := Kd.S_slice HO562.out; subst eo132) | (go_at_call 8; (with_reducible refine (F8.calls k t557 t558 t559 _ _ t560 t564 _ ?s1 ?s2 ?s3 A10.out).mono ?_); (case s1 => refine (Kd.S_reads' (e := 53) (base := w.heap.size) (ok := fun k_ => ((b9_21 ≤ k_ ∧ some k_ ≠ (.slice Ao125 t551.length co125 : Value).ownBlock) ∧ some k_ ≠ (v555 : Value).ownBlock)) (n := t560.length) (c := co132) ?_).2.2; exact au4_25); (case s2 => exact au4_48); (case s3 => exact au4_31); rintro e w133 ⟨v565, rfl, ho0, hb⟩; (try clear A10); obtain ⟨b9_22, hb9_22, ho9_22⟩ := nb9_ ho0; replace HO553 := am_ (Kd.S_elder' (Kd.S_mono (Kd.S_bound (ok := fun k_ => ((k_ < b9_21 ∧ ((k_ < b9_20 ∧ b9_19 ≤ k_) ∧ some k_ ≠ (v555 : Value).ownBlock)) ∧ some k_ ≠ (.slice Ao132 t560.length co132 : Value).ownBlock)) (by (with_reducible repeat (first | apply Kd.S_alloc | apply Kd.S_drewN | apply Kd.S_drew)); exact (Kd.S_mono (Kd.S_far (p := ⟨gb563, 3, none⟩) (Kd.S_far (p := ⟨gb563, 2, none⟩) (Kd.S_far (p := ⟨gb563, 1, none⟩) (Kd.S_far (p := ⟨gb563, 0, none⟩) (Kd.S_types HO553.out BK563.out (by decide)) (fun _ hk => hk.2) (.string t557)) (fun _ hk => hk.2) (.string t558)) (fun _ hk => hk.2) (.int .i64 t559)) (fun _ hk => hk.2) (.slice Ao132 t560.length co132)) (fun _ h_ => h_.1)))) (fun k_ hk_ => (⟨hb9_22 _ hk_.2.2.1, hk_.1⟩ : k_ < b9_22 ∧ _))) (Kd.S_base ho0) hb); replace HO562 := am_ (Kd.S_elder' (Kd.S_mono (Kd.S_bound (ok := fun k_ => ((b9_21 ≤ k_ ∧ some k_ ≠ (.slice Ao125 t551.length co125 : Value).ownBlock) ∧ some k_ ≠ (v555 : Value).ownBlock)) au4_25) (fun k_ hk_ => (⟨hb9_22 _ hk_.2.2.1, hk_.1⟩ : k_ < b9_22 ∧ _))) (Kd.S_base ho0) hb); have HO566 := am_ (Kd.S_lower (Kd.S_new' ho9_22 (Kd.S_lt au4_26)) (below_size bl_)); replace HO556 := am_ (Kd.S_elder' (Kd.S_mono (Kd.S_bound (ok := fun k_ => (k_ < b9_21 ∧ b9_20 ≤ k_)) au4_26) (fun k_ hk_ => (⟨hb9_22 _ hk_.2.2.1, hk_.1⟩ : k_ < b9_22 ∧ _))) (Kd.S_base ho0) hb); replace BK546 := am_ (blk_below (g := gb546) (o := .cells #[.string a0_0, .string a0_1, .int .i64 a0_2, .slice A0_3 l0_3.length c0_3] 24 (0, 0)) (bf_ BK546) hb); replace BK563 := am_ (blk_below (g := gb563) (o := .cells #[.string t557, .string t558, .int .i64 t559, .slice Ao132 t560.length co132] 30 (0, 0)) (bq_ BK563) hb); replace HB := hs_ w hb; (try clear hb); (try clear hb2); (try clear hk); (try clear hi); (try clear ho0); obtain ⟨Ao134, co134, eo134⟩ := Kd.S_slice HO566.out; subst eo134; obtain ⟨Ao135, co135, eo135⟩ := Kd.S_slice HO556.out; subst eo135) | (go_at_call 9; (with_reducible refine (F9.calls k _ _ t564 _ _ t554 false _ ?s1 ?s2 ?s3 ?s4 A11.out).mono ?_); (case s1 => exact au4_18); (case s2 => exact au4_51); (case s3 => exact au4_19); (case s4 => exact au4_52); rintro e w136 ⟨rfl, hb⟩; (try clear A11); replace HO553 := am_ (Kd.S_below au4_4 hb); replace HO556 := am_ (Kd.S_below au4_5 hb); replace HO562 := am_ (Kd.S_below au4_8 hb); replace HO566 := am_ (Kd.S_below au4_10 hb); replace BK546 := bb_ BK546 hb; replace BK563 := bb_ BK563 hb; replace HB := hs_ w hb; (try clear hb); (try clear hb2); (try clear hk); (try clear hi)))
  go_ret
  exact ⟨au4_1, bl_⟩

 replace H := bi_ H; rcases H with ⟨⟨t568, t569, t570, t571⟩, A13, H⟩
 replace H := bi_ H; rcases H with ⟨t574, A14, H⟩
 replace H := ib_ H; rcases H with ⟨rfl, H⟩ | ⟨rfl, H⟩
 rotate_left
 ·obtain rfl := Option.some.inj H
  go_enter Tryz.func3, Tryz.ntmps3
  try go_wp2_with (first | ((with_reducible refine gate_dst (N := 1) rfl ?_); refine be_ 1 #[.string a0_0, .string a0_1, .int .i64 a0_2, .slice A0_3 l0_3.length c0_3] 24 ?_; intro gb546 hg w99 hbox hb; have BK546 := am_ (hbox); have GW546 := am_ (gw_ hg bl_); have GE546 := GW546; replace HB := hs_ w hb; clear hb hbox hg; obtain ⟨hcz100_0, hcz100_1, hcz100_2, hcz100_3, hfz100_0, hfz100_1, hfz100_2, hfz100_3⟩ := cellsF4 BK546.out) | (go_at_call 5; (with_reducible refine (F5.calls k a0_0 a0_1 a0_2 _ _ l0_3 1048576 t547 _ ?s1 ?s2 A2.out).mono ?_); (case s1 => exact au4_2); (case s2 => exact HC0_3.out); rintro e w101 ⟨rfl, hb⟩; (try clear A2); replace BK546 := bb_ BK546 hb; replace HB := hs_ w hb; (try clear hb); obtain ⟨hcz102_0, hcz102_1, hcz102_2, hcz102_3, hfz102_0, hfz102_1, hfz102_2, hfz102_3⟩ := cellsF4 BK546.out) | (go_at_call 7; (with_reducible refine (F7.calls k a0_0 a0_1 a0_2 _ _ l0_3 t548 t549 t550 t551 _ ?s1 ?s2 A7.out).mono ?_); (case s1 => exact au4_2); (case s2 => exact HC0_3.out); rintro e w103 ⟨v552, rfl, ho0, hb⟩; (try clear A7); obtain ⟨b9_14, hb9_14, ho9_14⟩ := nb9_ ho0; have HO553 := am_ (Kd.S_lower ho9_14 (below_size bl_)); replace BK546 := bb_ BK546 hb; replace HB := hs_ w hb; (try clear hb); (try clear ho0); obtain ⟨Ao104, co104, eo104⟩ := Kd.S_slice HO553.out; subst eo104) | (go_at_call 6; (with_reducible refine (F6.calls k t548 t549 t550 _ _ t551 t554 _ ?s1 ?s2 A8.out).mono ?_); (case s1 => exact au4_32); (case s2 => exact (Kd.S_reads' HO553.out).2.1); rintro e w105 ⟨v555, rfl, ho0, hb⟩; (try clear A8); obtain ⟨b9_15, hb9_15, ho9_15⟩ := nb9_ ho0; replace HO553 := am_ (Kd.S_elder' (Kd.S_mono (Kd.S_bound (ok := fun k_ => b9_14 ≤ k_) au4_4) (fun k_ hk_ => (⟨hb9_15 _ hk_.2.2.1, hk_.1⟩ : k_ < b9_15 ∧ _))) (Kd.S_base ho0) hb); have HO556 := am_ (Kd.S_lower ho9_15 (below_size bl_)); replace BK546 := bb_ BK546 hb; replace HB := hs_ w hb; (try clear hb); (try clear hb2); (try clear hk); (try clear hi); (try clear ho0); obtain ⟨hcz106_0, hcz106_1, hcz106_2, hcz106_3, hfz106_0, hfz106_1, hfz106_2, hfz106_3⟩ := cellsF4 BK546.out) | (go_at_call 7; (with_reducible refine (F7.calls k a0_0 a0_1 a0_2 _ _ l0_3 t557 t558 t559 t560 _ ?s1 ?s2 A9.out).mono ?_); (case s1 => exact au4_2); (case s2 => exact HC0_3.out); rintro e w107 ⟨v561, rfl, ho0, hb⟩; (try clear A9); obtain ⟨b9_16, hb9_16, ho9_16⟩ := nb9_ ho0; have HO562 := am_ (Kd.S_lower (Kd.S_new' (Kd.S_new' ho9_16 (Kd.S_lt au4_4)) (Kd.S_lt au4_5)) (below_size bl_)); replace HO553 := am_ (Kd.S_elder' (Kd.S_mono (Kd.S_bound (ok := fun k_ => ((k_ < b9_15 ∧ b9_14 ≤ k_) ∧ some k_ ≠ (v555 : Value).ownBlock)) au4_4) (fun k_ hk_ => (⟨hb9_16 _ hk_.2.2.1, hk_.1⟩ : k_ < b9_16 ∧ _))) (Kd.S_base ho0) hb); replace HO556 := am_ (Kd.S_below (Kd.S_mono (Kd.S_bound (ok := fun k_ => b9_15 ≤ k_) au4_5) (fun k_ hk_ => (⟨hb9_16 _ hk_.2.2.1, hk_.1⟩ : k_ < b9_16 ∧ _))) hb); replace BK546 := bb_ BK546 hb; replace HB := hs_ w hb; (try clear hb); (try clear hb2); (try clear hk); (try clear hi); (try clear ho0)) | ((with_reducible refine gate_dst (N := 5) rfl ?_); refine be_ 5 #[.string (⟨#[]⟩ : ByteArray), .string (⟨#[]⟩ : ByteArray), .int .i64 0, .slice none 0 0] 30 ?_; intro gb563 hg w108 hbox hb; replace HO553 := am_ (Kd.S_below au4_4 hb); replace HO556 := am_ (Kd.S_below au4_5 hb); replace HO562 := am_ (Kd.S_below au4_8 hb); have BK563 := am_ (hbox); have GW563 := am_ (gw_ hg bl_); have GE563 := GW563; replace HB := hs_ w hb; have NB546_563 := am_ (gn_ hg (blkl_ BK546)); have NB563_546 := am_ (gm_ hg (blkl_ BK546)); replace BK546 := bb_ BK546 hb; clear hb hbox hg; have hnb109 := NB563_546.out; have hnc109 := NB546_563.out; obtain ⟨hcz110_0, hcz110_1, hcz110_2, hcz110_3, hfz110_0, hfz110_1, hfz110_2, hfz110_3⟩ := cellsF4 BK563.out; obtain ⟨Ao111, co111, eo111⟩ := Kd.S_slice HO562.out; subst eo111) | (go_at_call 8; (with_reducible refine (F8.calls k t557 t558 t559 _ _ t560 t564 _ ?s1 ?s2 ?s3 A10.out).mono ?_); (case s1 => refine (Kd.S_reads' (e := 53) (base := w.heap.size) (ok := fun k_ => ((b9_16 ≤ k_ ∧ some k_ ≠ (.slice Ao104 t551.length co104 : Value).ownBlock) ∧ some k_ ≠ (v555 : Value).ownBlock)) (n := t560.length) (c := co111) ?_).2.2; exact au4_23); (case s2 => exact au4_48); (case s3 => exact au4_31); rintro e w112 ⟨v565, rfl, ho0, hb⟩; (try clear A10); obtain ⟨b9_17, hb9_17, ho9_17⟩ := nb9_ ho0; replace HO553 := am_ (Kd.S_elder' (Kd.S_mono (Kd.S_bound (ok := fun k_ => ((k_ < b9_16 ∧ ((k_ < b9_15 ∧ b9_14 ≤ k_) ∧ some k_ ≠ (v555 : Value).ownBlock)) ∧ some k_ ≠ (.slice Ao111 t560.length co111 : Value).ownBlock)) (by (with_reducible repeat (first | apply Kd.S_alloc | apply Kd.S_drewN | apply Kd.S_drew)); exact (Kd.S_mono (Kd.S_far (p := ⟨gb563, 3, none⟩) (Kd.S_far (p := ⟨gb563, 2, none⟩) (Kd.S_far (p := ⟨gb563, 1, none⟩) (Kd.S_far (p := ⟨gb563, 0, none⟩) (Kd.S_types HO553.out BK563.out (by decide)) (fun _ hk => hk.2) (.string t557)) (fun _ hk => hk.2) (.string t558)) (fun _ hk => hk.2) (.int .i64 t559)) (fun _ hk => hk.2) (.slice Ao111 t560.length co111)) (fun _ h_ => h_.1)))) (fun k_ hk_ => (⟨hb9_17 _ hk_.2.2.1, hk_.1⟩ : k_ < b9_17 ∧ _))) (Kd.S_base ho0) hb); replace HO562 := am_ (Kd.S_elder' (Kd.S_mono (Kd.S_bound (ok := fun k_ => ((b9_16 ≤ k_ ∧ some k_ ≠ (.slice Ao104 t551.length co104 : Value).ownBlock) ∧ some k_ ≠ (v555 : Value).ownBlock)) au4_23) (fun k_ hk_ => (⟨hb9_17 _ hk_.2.2.1, hk_.1⟩ : k_ < b9_17 ∧ _))) (Kd.S_base ho0) hb); have HO566 := am_ (Kd.S_lower (Kd.S_new' ho9_17 (Kd.S_lt au4_24)) (below_size bl_)); replace HO556 := am_ (Kd.S_elder' (Kd.S_mono (Kd.S_bound (ok := fun k_ => (k_ < b9_16 ∧ b9_15 ≤ k_)) au4_24) (fun k_ hk_ => (⟨hb9_17 _ hk_.2.2.1, hk_.1⟩ : k_ < b9_17 ∧ _))) (Kd.S_base ho0) hb); replace BK546 := am_ (blk_below (g := gb546) (o := .cells #[.string a0_0, .string a0_1, .int .i64 a0_2, .slice A0_3 l0_3.length c0_3] 24 (0, 0)) (bf_ BK546) hb); replace BK563 := am_ (blk_below (g := gb563) (o := .cells #[.string t557, .string t558, .int .i64 t559, .slice Ao111 t560.length co111] 30 (0, 0)) (bq_ BK563) hb); replace HB := hs_ w hb; (try clear hb); (try clear hb2); (try clear hk); (try clear hi); (try clear ho0); obtain ⟨Ao113, co113, eo113⟩ := Kd.S_slice HO566.out; subst eo113; obtain ⟨Ao114, co114, eo114⟩ := Kd.S_slice HO556.out; subst eo114) | (go_at_call 9; (with_reducible refine (F9.calls k _ _ t564 _ _ t554 true _ ?s1 ?s2 ?s3 ?s4 A11.out).mono ?_); (case s1 => exact au4_18); (case s2 => exact au4_51); (case s3 => exact au4_19); (case s4 => exact au4_52); rintro e w115 ⟨rfl, hb⟩; (try clear A11); replace HO553 := am_ (Kd.S_below au4_4 hb); replace HO556 := am_ (Kd.S_below au4_5 hb); replace HO562 := am_ (Kd.S_below au4_8 hb); replace HO566 := am_ (Kd.S_below au4_10 hb); replace BK546 := bb_ BK546 hb; replace BK563 := bb_ BK563 hb; replace HB := hs_ w hb; (try clear hb); (try clear hb2); (try clear hk); (try clear hi)))
  replace HO553 := am_ (Kd.S_drew HO553.out)
  replace HO556 := am_ (Kd.S_drew HO556.out)
  replace HO562 := am_ (Kd.S_drew HO562.out)
  replace HO566 := am_ (Kd.S_drew HO566.out)
  replace BK546 := bd_ BK546
  replace BK563 := bd_ BK563
  replace HB := am_ (below_drew1 HB.out)
  refine start_ (n := 5) (S := fun w' => w'.cell? ⟨gb563, 0, none⟩ = some (.string t557) ∧ w'.cell? ⟨gb563, 1, none⟩ = some (.string t558) ∧ w'.cell? ⟨gb563, 2, none⟩ = some (.int .i64 t559) ∧ w'.cell? ⟨gb563, 3, none⟩ = some (.slice Ao111 t560.length co111) ∧ w'.cell? ⟨gb546, 0, none⟩ = some (.string a0_0) ∧ w'.cell? ⟨gb546, 1, none⟩ = some (.string a0_1) ∧ w'.cell? ⟨gb546, 2, none⟩ = some (.int .i64 a0_2) ∧ w'.cell? ⟨gb546, 3, none⟩ = some (.slice A0_3 l0_3.length c0_3)) (ds := []) #[false, false, false, false, false] (by kernel_rfl) rfl rfl ⟨(blk_cell BK563.out 0).trans rfl, (blk_cell BK563.out 1).trans rfl, (blk_cell BK563.out 2).trans rfl, (blk_cell BK563.out 3).trans rfl, (blk_cell BK546.out 0).trans rfl, (blk_cell BK546.out 1).trans rfl, (blk_cell BK546.out 2).trans rfl, (blk_cell BK546.out 3).trans rfl⟩ (fun hHeld => ?_)
  generalize w115.drew = w116 at HO553 HO556 HO562 HO566 BK546 BK563 HB hHeld ⊢
  refine take_ (i := 0) (N := some 27) (v := ?_) (a' := ?_) #[true, false, false, false, false] rfl rfl (by kernel_rfl) (fun _ _ _ h => h) (Or.inl ⟨by rfl, ?_⟩) hHeld ?_ ?_
  rotate_left
  ·rintro w' ⟨s0, s1, s2, s3, s4, s5, s6, s7⟩
   go_simp
   with_reducible rfl
  rotate_left
  ·simp only [Act.put, List.setIfInBounds_toArray, List.set_cons_zero, List.set_cons_succ, i64_w, i32_w]
   rfl
  refine take_ (i := 1) (N := some 28) (v := ?_) (a' := ?_) #[true, true, false, false, false] rfl rfl (by kernel_rfl) (fun _ _ _ h => h) (Or.inl ⟨by rfl, ?_⟩) hHeld ?_ ?_
  rotate_left
  ·rintro w' ⟨s0, s1, s2, s3, s4, s5, s6, s7⟩
   go_simp
   with_reducible rfl
  rotate_left
  ·simp only [Act.put, List.setIfInBounds_toArray, List.set_cons_zero, List.set_cons_succ, i64_w, i32_w]
   rfl
  refine one_ (i := 2) (N := some 29) #[true, true, true, false, false] rfl rfl (by kernel_rfl) (by decide) (fun K hK => ?_)
  refine gr_ Tryz.func7 #[.agg #[.string a0_0, .string a0_1, .int .i64 a0_2, .slice A0_3 l0_3.length c0_3]] (by rfl) ?_ rfl rfl rfl
  with_reducible refine (F7.calls k a0_0 a0_1 a0_2 _ _ l0_3 t568 t569 t570 t571 _ ?s1 ?s2 A13.out).mono ?_
  (case s1 => exact au4_2)
  (case s2 => exact HC0_3.out)
  rintro e w117 ⟨v572, rfl, ho0, hb⟩
  refine ⟨_, rfl, ?_⟩
  obtain ⟨b9_18, hb9_18, ho9_18⟩ := nb9_ ho0
  have HO573 := am_ (Kd.S_lower (Kd.S_new' (Kd.S_new' (Kd.S_new' (Kd.S_new' ho9_18 (Kd.S_lt au4_4)) (Kd.S_lt au4_5)) (Kd.S_lt au4_8)) (Kd.S_lt au4_10)) (below_size bl_))
  replace HO553 := am_ (Kd.S_elder' (Kd.S_mono (Kd.S_bound (ok := fun k_ => ((k_ < b9_17 ∧ ((k_ < b9_16 ∧ ((k_ < b9_15 ∧ b9_14 ≤ k_) ∧ some k_ ≠ (.slice Ao114 t554.length co114 : Value).ownBlock)) ∧ some k_ ≠ (.slice Ao111 t560.length co111 : Value).ownBlock)) ∧ some k_ ≠ (.slice Ao113 t564.length co113 : Value).ownBlock)) au4_4) (fun k_ hk_ => (⟨hb9_18 _ hk_.2.2.1, hk_.1⟩ : k_ < b9_18 ∧ _))) (Kd.S_base ho0) hb)
  replace HO556 := am_ (Kd.S_below (Kd.S_mono (Kd.S_bound (ok := fun k_ => ((k_ < b9_17 ∧ (k_ < b9_16 ∧ b9_15 ≤ k_)) ∧ some k_ ≠ (.slice Ao113 t564.length co113 : Value).ownBlock)) au4_5) (fun k_ hk_ => (⟨hb9_18 _ hk_.2.2.1, hk_.1⟩ : k_ < b9_18 ∧ _))) hb)
  replace HO562 := am_ (Kd.S_elder' (Kd.S_mono (Kd.S_bound (ok := fun k_ => ((k_ < b9_17 ∧ ((b9_16 ≤ k_ ∧ some k_ ≠ (.slice Ao104 t551.length co104 : Value).ownBlock) ∧ some k_ ≠ (.slice Ao114 t554.length co114 : Value).ownBlock)) ∧ some k_ ≠ (.slice Ao113 t564.length co113 : Value).ownBlock)) au4_8) (fun k_ hk_ => (⟨hb9_18 _ hk_.2.2.1, hk_.1⟩ : k_ < b9_18 ∧ _))) (Kd.S_base ho0) hb)
  replace HO566 := am_ (Kd.S_below (Kd.S_mono (Kd.S_bound (ok := fun k_ => (b9_17 ≤ k_ ∧ some k_ ≠ (.slice Ao114 t554.length co114 : Value).ownBlock)) au4_10) (fun k_ hk_ => (⟨hb9_18 _ hk_.2.2.1, hk_.1⟩ : k_ < b9_18 ∧ _))) hb)
  replace BK546 := bb_ BK546 hb
  replace BK563 := bb_ BK563 hb
  replace HB := hs_ w hb
  (try clear hb)
  (try clear hb2)
  (try clear hk)
  (try clear hi)
  (try clear ho0)
  obtain ⟨Ao118, co118, eo118⟩ := Kd.S_slice HO573.out
  (first | subst eo118 | (injection eo118 with f1_ f2_ f3_; have f4_ := f1_.symm; have f5_ := f3_.symm; clear f1_ f2_ f3_; subst f4_; subst f5_))
  refine hK.out _ _ ⟨(blk_cell BK563.out 0).trans rfl, (blk_cell BK563.out 1).trans rfl, (blk_cell BK563.out 2).trans rfl, (blk_cell BK563.out 3).trans rfl, (blk_cell BK546.out 0).trans rfl, (blk_cell BK546.out 1).trans rfl, (blk_cell BK546.out 2).trans rfl, (blk_cell BK546.out 3).trans rfl⟩ (fun hHeld => ?_)
  clear hK K
  refine no_ 29 ?_
  refine one_ (i := 3) (N := some 30) #[true, true, true, true, false] rfl rfl (by kernel_rfl) (by decide) (fun K hK => ?_)
  refine gr_ Tryz.func10 #[.agg #[.string t557, .string t558, .int .i64 t559, .slice Ao111 t560.length co111], .agg #[.string t568, .string t569, .int .i64 t570, .slice Ao118 t571.length co118]] (by rfl) ?_ rfl rfl rfl
  with_reducible refine (F10.calls k t557 t558 t559 _ _ t560 t568 t569 t570 _ _ t571 false _ ?s1 ?s2 ?s3 ?s4 A14.out).mono ?_
  (case s1 => exact au4_44)
  (case s2 => exact au4_48)
  (case s3 => exact au4_45)
  (case s4 => exact (Kd.S_reads' HO573.out).2.1)
  rintro e w119 ⟨rfl, hb⟩
  refine ⟨_, rfl, ?_⟩
  replace HO553 := am_ (Kd.S_below au4_4 hb)
  replace HO556 := am_ (Kd.S_below au4_5 hb)
  replace HO562 := am_ (Kd.S_below au4_8 hb)
  replace HO566 := am_ (Kd.S_below au4_10 hb)
  replace HO573 := am_ (Kd.S_below au4_29 hb)
  replace BK546 := bb_ BK546 hb
  replace BK563 := bb_ BK563 hb
  replace HB := hs_ w hb
  (try clear hb)
  (try clear hb2)
  (try clear hk)
  (try clear hi)
  refine hK.out _ _ ⟨(blk_cell BK563.out 0).trans rfl, (blk_cell BK563.out 1).trans rfl, (blk_cell BK563.out 2).trans rfl, (blk_cell BK563.out 3).trans rfl, (blk_cell BK546.out 0).trans rfl, (blk_cell BK546.out 1).trans rfl, (blk_cell BK546.out 2).trans rfl, (blk_cell BK546.out 3).trans rfl⟩ (fun hHeld => ?_)
  clear hK K
  refine no_ 30 ?_
  refine pk_ 4 31 #[true, true, true, true, true] ?_ rfl rfl
  refine done_ (by kernel_rfl) ?_
  try go_wp2
  go_ret
  exact ⟨au4_1, bl_⟩
 replace H := bi_ H; rcases H with ⟨⟨t575, t576⟩, A16, H⟩
 have HC17 := am_ H
 clear H
 go_enter Tryz.func3, Tryz.ntmps3
 try go_wp2_with (first | ((with_reducible refine gate_dst (N := 1) rfl ?_); refine be_ 1 #[.string a0_0, .string a0_1, .int .i64 a0_2, .slice A0_3 l0_3.length c0_3] 24 ?_; intro gb546 hg w18 hbox hb; have BK546 := am_ (hbox); have GW546 := am_ (gw_ hg bl_); have GE546 := GW546; replace HB := hs_ w hb; clear hb hbox hg; obtain ⟨hcz19_0, hcz19_1, hcz19_2, hcz19_3, hfz19_0, hfz19_1, hfz19_2, hfz19_3⟩ := cellsF4 BK546.out) | (go_at_call 5; (with_reducible refine (F5.calls k a0_0 a0_1 a0_2 _ _ l0_3 1048576 t547 _ ?s1 ?s2 A2.out).mono ?_); (case s1 => exact au4_2); (case s2 => exact HC0_3.out); rintro e w20 ⟨rfl, hb⟩; (try clear A2); replace BK546 := bb_ BK546 hb; replace HB := hs_ w hb; (try clear hb); obtain ⟨hcz21_0, hcz21_1, hcz21_2, hcz21_3, hfz21_0, hfz21_1, hfz21_2, hfz21_3⟩ := cellsF4 BK546.out) | (go_at_call 7; (with_reducible refine (F7.calls k a0_0 a0_1 a0_2 _ _ l0_3 t548 t549 t550 t551 _ ?s1 ?s2 A7.out).mono ?_); (case s1 => exact au4_2); (case s2 => exact HC0_3.out); rintro e w22 ⟨v552, rfl, ho0, hb⟩; (try clear A7); obtain ⟨b9_1, hb9_1, ho9_1⟩ := nb9_ ho0; have HO553 := am_ (Kd.S_lower ho9_1 (below_size bl_)); replace BK546 := bb_ BK546 hb; replace HB := hs_ w hb; (try clear hb); (try clear ho0); obtain ⟨Ao23, co23, eo23⟩ := Kd.S_slice HO553.out; subst eo23) | (go_at_call 6; (with_reducible refine (F6.calls k t548 t549 t550 _ _ t551 t554 _ ?s1 ?s2 A8.out).mono ?_); (case s1 => exact au4_32); (case s2 => exact (Kd.S_reads' HO553.out).2.1); rintro e w24 ⟨v555, rfl, ho0, hb⟩; (try clear A8); obtain ⟨b9_2, hb9_2, ho9_2⟩ := nb9_ ho0; replace HO553 := am_ (Kd.S_elder' (Kd.S_mono (Kd.S_bound (ok := fun k_ => b9_1 ≤ k_) au4_4) (fun k_ hk_ => (⟨hb9_2 _ hk_.2.2.1, hk_.1⟩ : k_ < b9_2 ∧ _))) (Kd.S_base ho0) hb); have HO556 := am_ (Kd.S_lower ho9_2 (below_size bl_)); replace BK546 := bb_ BK546 hb; replace HB := hs_ w hb; (try clear hb); (try clear hb2); (try clear hk); (try clear hi); (try clear ho0); obtain ⟨hcz25_0, hcz25_1, hcz25_2, hcz25_3, hfz25_0, hfz25_1, hfz25_2, hfz25_3⟩ := cellsF4 BK546.out) | (go_at_call 7; (with_reducible refine (F7.calls k a0_0 a0_1 a0_2 _ _ l0_3 t557 t558 t559 t560 _ ?s1 ?s2 A9.out).mono ?_); (case s1 => exact au4_2); (case s2 => exact HC0_3.out); rintro e w26 ⟨v561, rfl, ho0, hb⟩; (try clear A9); obtain ⟨b9_3, hb9_3, ho9_3⟩ := nb9_ ho0; have HO562 := am_ (Kd.S_lower (Kd.S_new' (Kd.S_new' ho9_3 (Kd.S_lt au4_4)) (Kd.S_lt au4_5)) (below_size bl_)); replace HO553 := am_ (Kd.S_elder' (Kd.S_mono (Kd.S_bound (ok := fun k_ => ((k_ < b9_2 ∧ b9_1 ≤ k_) ∧ some k_ ≠ (v555 : Value).ownBlock)) au4_4) (fun k_ hk_ => (⟨hb9_3 _ hk_.2.2.1, hk_.1⟩ : k_ < b9_3 ∧ _))) (Kd.S_base ho0) hb); replace HO556 := am_ (Kd.S_below (Kd.S_mono (Kd.S_bound (ok := fun k_ => b9_2 ≤ k_) au4_5) (fun k_ hk_ => (⟨hb9_3 _ hk_.2.2.1, hk_.1⟩ : k_ < b9_3 ∧ _))) hb); replace BK546 := bb_ BK546 hb; replace HB := hs_ w hb; (try clear hb); (try clear hb2); (try clear hk); (try clear hi); (try clear ho0)) | ((with_reducible refine gate_dst (N := 5) rfl ?_); refine be_ 5 #[.string (⟨#[]⟩ : ByteArray), .string (⟨#[]⟩ : ByteArray), .int .i64 0, .slice none 0 0] 30 ?_; intro gb563 hg w27 hbox hb; replace HO553 := am_ (Kd.S_below au4_4 hb); replace HO556 := am_ (Kd.S_below au4_5 hb); replace HO562 := am_ (Kd.S_below au4_8 hb); have BK563 := am_ (hbox); have GW563 := am_ (gw_ hg bl_); have GE563 := GW563; replace HB := hs_ w hb; have NB546_563 := am_ (gn_ hg (blkl_ BK546)); have NB563_546 := am_ (gm_ hg (blkl_ BK546)); replace BK546 := bb_ BK546 hb; clear hb hbox hg; have hnb28 := NB563_546.out; have hnc28 := NB546_563.out; obtain ⟨hcz29_0, hcz29_1, hcz29_2, hcz29_3, hfz29_0, hfz29_1, hfz29_2, hfz29_3⟩ := cellsF4 BK563.out; obtain ⟨Ao30, co30, eo30⟩ := Kd.S_slice HO562.out; subst eo30) | (go_at_call 8; (with_reducible refine (F8.calls k t557 t558 t559 _ _ t560 t564 _ ?s1 ?s2 ?s3 A10.out).mono ?_); (case s1 => refine (Kd.S_reads' (e := 53) (base := w.heap.size) (ok := fun k_ => ((b9_3 ≤ k_ ∧ some k_ ≠ (.slice Ao23 t551.length co23 : Value).ownBlock) ∧ some k_ ≠ (v555 : Value).ownBlock)) (n := t560.length) (c := co30) ?_).2.2; exact au4_27); (case s2 => exact au4_48); (case s3 => exact au4_31); rintro e w31 ⟨v565, rfl, ho0, hb⟩; (try clear A10); obtain ⟨b9_4, hb9_4, ho9_4⟩ := nb9_ ho0; replace HO553 := am_ (Kd.S_elder' (Kd.S_mono (Kd.S_bound (ok := fun k_ => ((k_ < b9_3 ∧ ((k_ < b9_2 ∧ b9_1 ≤ k_) ∧ some k_ ≠ (v555 : Value).ownBlock)) ∧ some k_ ≠ (.slice Ao30 t560.length co30 : Value).ownBlock)) (by (with_reducible repeat (first | apply Kd.S_alloc | apply Kd.S_drewN | apply Kd.S_drew)); exact (Kd.S_mono (Kd.S_far (p := ⟨gb563, 3, none⟩) (Kd.S_far (p := ⟨gb563, 2, none⟩) (Kd.S_far (p := ⟨gb563, 1, none⟩) (Kd.S_far (p := ⟨gb563, 0, none⟩) (Kd.S_types HO553.out BK563.out (by decide)) (fun _ hk => hk.2) (.string t557)) (fun _ hk => hk.2) (.string t558)) (fun _ hk => hk.2) (.int .i64 t559)) (fun _ hk => hk.2) (.slice Ao30 t560.length co30)) (fun _ h_ => h_.1)))) (fun k_ hk_ => (⟨hb9_4 _ hk_.2.2.1, hk_.1⟩ : k_ < b9_4 ∧ _))) (Kd.S_base ho0) hb); replace HO562 := am_ (Kd.S_elder' (Kd.S_mono (Kd.S_bound (ok := fun k_ => ((b9_3 ≤ k_ ∧ some k_ ≠ (.slice Ao23 t551.length co23 : Value).ownBlock) ∧ some k_ ≠ (v555 : Value).ownBlock)) au4_27) (fun k_ hk_ => (⟨hb9_4 _ hk_.2.2.1, hk_.1⟩ : k_ < b9_4 ∧ _))) (Kd.S_base ho0) hb); have HO566 := am_ (Kd.S_lower (Kd.S_new' ho9_4 (Kd.S_lt au4_28)) (below_size bl_)); replace HO556 := am_ (Kd.S_elder' (Kd.S_mono (Kd.S_bound (ok := fun k_ => (k_ < b9_3 ∧ b9_2 ≤ k_)) au4_28) (fun k_ hk_ => (⟨hb9_4 _ hk_.2.2.1, hk_.1⟩ : k_ < b9_4 ∧ _))) (Kd.S_base ho0) hb); replace BK546 := am_ (blk_below (g := gb546) (o := .cells #[.string a0_0, .string a0_1, .int .i64 a0_2, .slice A0_3 l0_3.length c0_3] 24 (0, 0)) (bf_ BK546) hb); replace BK563 := am_ (blk_below (g := gb563) (o := .cells #[.string t557, .string t558, .int .i64 t559, .slice Ao30 t560.length co30] 30 (0, 0)) (bq_ BK563) hb); replace HB := hs_ w hb; (try clear hb); (try clear hb2); (try clear hk); (try clear hi); (try clear ho0); obtain ⟨Ao32, co32, eo32⟩ := Kd.S_slice HO566.out; subst eo32; obtain ⟨Ao33, co33, eo33⟩ := Kd.S_slice HO556.out; subst eo33) | (go_at_call 9; (with_reducible refine (F9.calls k _ _ t564 _ _ t554 true _ ?s1 ?s2 ?s3 ?s4 A11.out).mono ?_); (case s1 => exact au4_18); (case s2 => exact au4_51); (case s3 => exact au4_19); (case s4 => exact au4_52); rintro e w34 ⟨rfl, hb⟩; (try clear A11); replace HO553 := am_ (Kd.S_below au4_4 hb); replace HO556 := am_ (Kd.S_below au4_5 hb); replace HO562 := am_ (Kd.S_below au4_8 hb); replace HO566 := am_ (Kd.S_below au4_10 hb); replace BK546 := bb_ BK546 hb; replace BK563 := bb_ BK563 hb; replace HB := hs_ w hb; (try clear hb); (try clear hb2); (try clear hk); (try clear hi)))
 replace HO553 := am_ (Kd.S_drew HO553.out)
 replace HO556 := am_ (Kd.S_drew HO556.out)
 replace HO562 := am_ (Kd.S_drew HO562.out)
 replace HO566 := am_ (Kd.S_drew HO566.out)
 replace BK546 := bd_ BK546
 replace BK563 := bd_ BK563
 replace HB := am_ (below_drew1 HB.out)
 refine start_ (n := 5) (S := fun w' => w'.cell? ⟨gb563, 0, none⟩ = some (.string t557) ∧ w'.cell? ⟨gb563, 1, none⟩ = some (.string t558) ∧ w'.cell? ⟨gb563, 2, none⟩ = some (.int .i64 t559) ∧ w'.cell? ⟨gb563, 3, none⟩ = some (.slice Ao30 t560.length co30) ∧ w'.cell? ⟨gb546, 0, none⟩ = some (.string a0_0) ∧ w'.cell? ⟨gb546, 1, none⟩ = some (.string a0_1) ∧ w'.cell? ⟨gb546, 2, none⟩ = some (.int .i64 a0_2) ∧ w'.cell? ⟨gb546, 3, none⟩ = some (.slice A0_3 l0_3.length c0_3)) (ds := []) #[false, false, false, false, false] (by kernel_rfl) rfl rfl ⟨(blk_cell BK563.out 0).trans rfl, (blk_cell BK563.out 1).trans rfl, (blk_cell BK563.out 2).trans rfl, (blk_cell BK563.out 3).trans rfl, (blk_cell BK546.out 0).trans rfl, (blk_cell BK546.out 1).trans rfl, (blk_cell BK546.out 2).trans rfl, (blk_cell BK546.out 3).trans rfl⟩ (fun hHeld => ?_)
 generalize w34.drew = w35 at HO553 HO556 HO562 HO566 BK546 BK563 HB hHeld ⊢
 refine take_ (i := 0) (N := some 27) (v := ?_) (a' := ?_) #[true, false, false, false, false] rfl rfl (by kernel_rfl) (fun _ _ _ h => h) (Or.inl ⟨by rfl, ?_⟩) hHeld ?_ ?_
 rotate_left
 ·rintro w' ⟨s0, s1, s2, s3, s4, s5, s6, s7⟩
  go_simp
  with_reducible rfl
 rotate_left
 ·simp only [Act.put, List.setIfInBounds_toArray, List.set_cons_zero, List.set_cons_succ, i64_w, i32_w]
  rfl
 refine take_ (i := 1) (N := some 28) (v := ?_) (a' := ?_) #[true, true, false, false, false] rfl rfl (by kernel_rfl) (fun _ _ _ h => h) (Or.inl ⟨by rfl, ?_⟩) hHeld ?_ ?_
 rotate_left
 ·rintro w' ⟨s0, s1, s2, s3, s4, s5, s6, s7⟩
  go_simp
  with_reducible rfl
 rotate_left
 ·simp only [Act.put, List.setIfInBounds_toArray, List.set_cons_zero, List.set_cons_succ, i64_w, i32_w]
  rfl
 refine one_ (i := 2) (N := some 29) #[true, true, true, false, false] rfl rfl (by kernel_rfl) (by decide) (fun K hK => ?_)
 refine gr_ Tryz.func7 #[.agg #[.string a0_0, .string a0_1, .int .i64 a0_2, .slice A0_3 l0_3.length c0_3]] (by rfl) ?_ rfl rfl rfl
 with_reducible refine (F7.calls k a0_0 a0_1 a0_2 _ _ l0_3 t568 t569 t570 t571 _ ?s1 ?s2 A13.out).mono ?_
 (case s1 => exact au4_2)
 (case s2 => exact HC0_3.out)
 rintro e w36 ⟨v572, rfl, ho0, hb⟩
 refine ⟨_, rfl, ?_⟩
 obtain ⟨b9_5, hb9_5, ho9_5⟩ := nb9_ ho0
 have HO573 := am_ (Kd.S_lower (Kd.S_new' (Kd.S_new' (Kd.S_new' (Kd.S_new' ho9_5 (Kd.S_lt au4_4)) (Kd.S_lt au4_5)) (Kd.S_lt au4_8)) (Kd.S_lt au4_10)) (below_size bl_))
 replace HO553 := am_ (Kd.S_elder' (Kd.S_mono (Kd.S_bound (ok := fun k_ => ((k_ < b9_4 ∧ ((k_ < b9_3 ∧ ((k_ < b9_2 ∧ b9_1 ≤ k_) ∧ some k_ ≠ (.slice Ao33 t554.length co33 : Value).ownBlock)) ∧ some k_ ≠ (.slice Ao30 t560.length co30 : Value).ownBlock)) ∧ some k_ ≠ (.slice Ao32 t564.length co32 : Value).ownBlock)) au4_4) (fun k_ hk_ => (⟨hb9_5 _ hk_.2.2.1, hk_.1⟩ : k_ < b9_5 ∧ _))) (Kd.S_base ho0) hb)
 replace HO556 := am_ (Kd.S_below (Kd.S_mono (Kd.S_bound (ok := fun k_ => ((k_ < b9_4 ∧ (k_ < b9_3 ∧ b9_2 ≤ k_)) ∧ some k_ ≠ (.slice Ao32 t564.length co32 : Value).ownBlock)) au4_5) (fun k_ hk_ => (⟨hb9_5 _ hk_.2.2.1, hk_.1⟩ : k_ < b9_5 ∧ _))) hb)
 replace HO562 := am_ (Kd.S_elder' (Kd.S_mono (Kd.S_bound (ok := fun k_ => ((k_ < b9_4 ∧ ((b9_3 ≤ k_ ∧ some k_ ≠ (.slice Ao23 t551.length co23 : Value).ownBlock) ∧ some k_ ≠ (.slice Ao33 t554.length co33 : Value).ownBlock)) ∧ some k_ ≠ (.slice Ao32 t564.length co32 : Value).ownBlock)) au4_8) (fun k_ hk_ => (⟨hb9_5 _ hk_.2.2.1, hk_.1⟩ : k_ < b9_5 ∧ _))) (Kd.S_base ho0) hb)
 replace HO566 := am_ (Kd.S_below (Kd.S_mono (Kd.S_bound (ok := fun k_ => (b9_4 ≤ k_ ∧ some k_ ≠ (.slice Ao33 t554.length co33 : Value).ownBlock)) au4_10) (fun k_ hk_ => (⟨hb9_5 _ hk_.2.2.1, hk_.1⟩ : k_ < b9_5 ∧ _))) hb)
 replace BK546 := bb_ BK546 hb
 replace BK563 := bb_ BK563 hb
 replace HB := hs_ w hb
 (try clear hb)
 (try clear hb2)
 (try clear hk)
 (try clear hi)
 (try clear ho0)
 obtain ⟨Ao37, co37, eo37⟩ := Kd.S_slice HO573.out
 (first | subst eo37 | (injection eo37 with f1_ f2_ f3_; have f4_ := f1_.symm; have f5_ := f3_.symm; clear f1_ f2_ f3_; subst f4_; subst f5_))
 refine hK.out _ _ ⟨(blk_cell BK563.out 0).trans rfl, (blk_cell BK563.out 1).trans rfl, (blk_cell BK563.out 2).trans rfl, (blk_cell BK563.out 3).trans rfl, (blk_cell BK546.out 0).trans rfl, (blk_cell BK546.out 1).trans rfl, (blk_cell BK546.out 2).trans rfl, (blk_cell BK546.out 3).trans rfl⟩ (fun hHeld => ?_)
 clear hK K
 refine no_ 29 ?_
 refine one_ (i := 3) (N := some 30) #[true, true, true, true, false] rfl rfl (by kernel_rfl) (by decide) (fun K hK => ?_)
 refine gr_ Tryz.func10 #[.agg #[.string t557, .string t558, .int .i64 t559, .slice Ao30 t560.length co30], .agg #[.string t568, .string t569, .int .i64 t570, .slice Ao37 t571.length co37]] (by rfl) ?_ rfl rfl rfl
 with_reducible refine (F10.calls k t557 t558 t559 _ _ t560 t568 t569 t570 _ _ t571 true _ ?s1 ?s2 ?s3 ?s4 A14.out).mono ?_
 (case s1 => exact au4_44)
 (case s2 => exact au4_48)
 (case s3 => exact au4_45)
 (case s4 => exact (Kd.S_reads' HO573.out).2.1)
 rintro e w38 ⟨rfl, hb⟩
 refine ⟨_, rfl, ?_⟩
 replace HO553 := am_ (Kd.S_below au4_4 hb)
 replace HO556 := am_ (Kd.S_below au4_5 hb)
 replace HO562 := am_ (Kd.S_below au4_8 hb)
 replace HO566 := am_ (Kd.S_below au4_10 hb)
 replace HO573 := am_ (Kd.S_below au4_29 hb)
 replace BK546 := bb_ BK546 hb
 replace BK563 := bb_ BK563 hb
 replace HB := hs_ w hb
 (try clear hb)
 (try clear hb2)
 (try clear hk)
 (try clear hi)
 refine hK.out _ _ ⟨(blk_cell BK563.out 0).trans rfl, (blk_cell BK563.out 1).trans rfl, (blk_cell BK563.out 2).trans rfl, (blk_cell BK563.out 3).trans rfl, (blk_cell BK546.out 0).trans rfl, (blk_cell BK546.out 1).trans rfl, (blk_cell BK546.out 2).trans rfl, (blk_cell BK546.out 3).trans rfl⟩ (fun hHeld => ?_)
 clear hK K
 refine no_ 30 ?_
 refine pk_ 4 31 #[true, true, true, true, true] ?_ rfl rfl
 refine done_ (by kernel_rfl) ?_
 obtain ⟨hcz39_0, hcz39_1, hcz39_2, hcz39_3, hfz39_0, hfz39_1, hfz39_2, hfz39_3⟩ := cellsF4 BK563.out
 go_upto_region 14 with (first | (go_at_call 11; obtain ⟨P9_, HP9_, HQ9_⟩ := pp9_ HO562; (with_reducible refine (F11.calls k t557 t558 t559 P9_ (.slice Ao30 t560.length co30) t560 1 t575 t576 w _ ?s1 ?s2 A16.out).mono ?_); (case s1 => exact au4_9); (case s2 => exact au4_17); rintro e w40 ⟨rfl, hy0, hb, hkp⟩; (try clear A16); replace BK546 := am_ (blk_kept (bk_ BK546) hkp (fun hs_ => nt9_ (HQ9_.out _ hs_).2 (bk_ BK546) (by decide))); replace HO562 := am_ (Kd.S_mono (ok' := fun k_ => some k_ ≠ (.slice Ao23 t551.length co23 : Value).ownBlock ∧ some k_ ≠ (.slice Ao33 t554.length co33 : Value).ownBlock ∧ some k_ ≠ (.slice Ao32 t564.length co32 : Value).ownBlock ∧ some k_ ≠ (.slice Ao37 t571.length co37 : Value).ownBlock) hy0 (fun k_ h_ => h_.elim (fun p_ => ⟨(HQ9_.out _ p_).1.1.2.1.2.1.2, (HQ9_.out _ p_).1.1.2.1.2.2, (HQ9_.out _ p_).1.1.2.2, (HQ9_.out _ p_).1.2⟩) (fun n_ => ⟨Kd.fresh' (Kd.S_lt au4_4) k_ n_, Kd.fresh' (Kd.S_lt au4_5) k_ n_, Kd.fresh' (Kd.S_lt au4_10) k_ n_, Kd.fresh' (Kd.S_lt au4_29) k_ n_⟩))); replace HO553 := am_ (Kd.S_mono (Kd.S_keptB (ok := fun k_ => ((k_ < b9_5 ∧ ((k_ < b9_4 ∧ ((k_ < b9_3 ∧ ((k_ < b9_2 ∧ b9_1 ≤ k_) ∧ some k_ ≠ (.slice Ao33 t554.length co33 : Value).ownBlock)) ∧ some k_ ≠ (.slice Ao30 t560.length co30 : Value).ownBlock)) ∧ some k_ ≠ (.slice Ao32 t564.length co32 : Value).ownBlock)) ∧ some k_ ≠ (.slice Ao37 t571.length co37 : Value).ownBlock)) au4_4 hkp (fun k_ hk_ hs_ => Nat.not_le.2 (hk_.1.2.1.2.1.1) ((HQ9_.out _ hs_).1.1.2.1.2.1.1))) (fun k_ hk_ => hk_.1)); replace HO556 := am_ (Kd.S_mono (Kd.S_keptB (ok := fun k_ => (k_ < b9_5 ∧ ((k_ < b9_4 ∧ (k_ < b9_3 ∧ b9_2 ≤ k_)) ∧ some k_ ≠ (.slice Ao32 t564.length co32 : Value).ownBlock))) au4_5 hkp (fun k_ hk_ hs_ => Nat.not_le.2 (hk_.2.1.2.1) ((HQ9_.out _ hs_).1.1.2.1.2.1.1))) (fun k_ hk_ => hk_.1)); replace BK563 := am_ (blk_kept (bk_ BK563) hkp (fun hs_ => nt9_ (HQ9_.out _ hs_).2 (bk_ BK563) (by decide))); replace HO566 := am_ (Kd.S_mono (Kd.S_keptB (ok := fun k_ => (k_ < b9_5 ∧ (b9_4 ≤ k_ ∧ some k_ ≠ (.slice Ao33 t554.length co33 : Value).ownBlock))) au4_10 hkp (fun k_ hk_ hs_ => Nat.not_le.2 ((HQ9_.out _ hs_).1.1.2.1.1) (hk_.2.1))) (fun k_ hk_ => hk_.1)); replace HO573 := am_ (Kd.S_mono (Kd.S_keptB (ok := fun k_ => ((((b9_5 ≤ k_ ∧ some k_ ≠ (.slice Ao23 t551.length co23 : Value).ownBlock) ∧ some k_ ≠ (.slice Ao33 t554.length co33 : Value).ownBlock) ∧ some k_ ≠ (.slice Ao30 t560.length co30 : Value).ownBlock) ∧ some k_ ≠ (.slice Ao32 t564.length co32 : Value).ownBlock)) au4_29 hkp (fun k_ hk_ hs_ => Nat.not_le.2 ((HQ9_.out _ hs_).1.1.1) (hk_.1.1.1.1))) (fun k_ hk_ => hk_.1)); replace HB := am_ (hb); (try clear hb); (try clear hkp); (try clear hy0)))
 (try simp only [Act.put, List.setIfInBounds_toArray, List.set_cons_zero, List.set_cons_succ])
 go_cut [42] (fun v42 wc => ∃ (kq : Nat) (x42_16 : Bool), v42 = .bool x42_16 ∧ Aside0 (F3.j0 kq t554 t564 x42_16 a0_0 a0_1 a0_2 l0_3 = some r) ∧ Aside0 (kq ≤ k) ∧ Aside0 (Kd.S k49 49 wc w.heap.size (fun k_ => some k_ ≠ ((.slice Ao32 t564.length co32) : Value).ownBlock ∧ k_ < b9_5 ∧ k_ < b9_4 ∧ k_ < b9_3 ∧ b9_2 ≤ k_) (.slice Ao33 t554.length co33) t554) ∧ Aside0 (Kd.S k49 49 wc w.heap.size (fun k_ => some k_ ≠ ((.slice Ao33 t554.length co33) : Value).ownBlock ∧ k_ < b9_5 ∧ b9_4 ≤ k_) (.slice Ao32 t564.length co32) t564) ∧ Aside0 (Kd.S k53 53 wc w.heap.size (fun k_ => some k_ ≠ ((.slice Ao33 t554.length co33) : Value).ownBlock ∧ some k_ ≠ ((.slice Ao32 t564.length co32) : Value).ownBlock) (.slice Ao30 t560.length co30) t576) ∧ Aside0 (wc.heap[gb546]? = some (.cells #[.string a0_0, .string a0_1, .int .i64 a0_2, (.slice A0_3 l0_3.length c0_3)] 24 (0, 0))) ∧ Aside0 (wc.heap[gb563]? = some (.cells #[.string t557, .string t558, .int .i64 t559, (.slice Ao30 t560.length co30)] 30 (0, 0))) ∧ Aside0 (Below w.heap.size w wc))
 case first =>
  have H := HC17.out
  clear HC17
  replace H := it_ H; rcases H with ⟨c41b0, H⟩ | ⟨c41b0, H⟩
  ·(first | rw [c41b0] | (simp only [i64_w, i32_w]; rw [c41b0]) | skip)
   have H' := am_ H
   clear H
   go_wp2
   go_meet
   case rel => exact ⟨_, (true), er_, H', ⟨by first | omega | exact Nat.le_refl _⟩, ⟨au4_35⟩, ⟨au4_46⟩, ⟨au4_47⟩, ⟨bk_ BK546⟩, ⟨bk_ BK563⟩, ⟨bl_⟩⟩
  (first | rw [c41b0] | (simp only [i64_w, i32_w]; rw [c41b0]) | skip)
  replace H := bi_ H; rcases H with ⟨t577, A42, H⟩
  have H' := am_ H
  clear H
  go_wp2_with (first | (go_at_call 9; (with_reducible refine (F9.calls k _ _ t564 _ _ t554 t577 _ ?s1 ?s2 ?s3 ?s4 A42.out).mono ?_); (case s1 => exact au4_18); (case s2 => exact au4_51); (case s3 => exact au4_19); (case s4 => exact au4_52); rintro e w43 ⟨rfl, hb⟩; (try clear A42); replace HO553 := am_ (Kd.S_below au4_4 hb); replace HO556 := am_ (Kd.S_below au4_5 hb); replace HO562 := am_ (Kd.S_below au4_8 hb); replace HO566 := am_ (Kd.S_below au4_10 hb); replace HO573 := am_ (Kd.S_below au4_29 hb); replace BK546 := bb_ BK546 hb; replace BK563 := bb_ BK563 hb; replace HB := hs_ w hb; (try clear hb); (try clear hb2); (try clear hk); (try clear hi)))
  go_meet
  case rel => exact ⟨_, (!t577), er_, H', ⟨by first | omega | exact Nat.le_refl _⟩, ⟨au4_35⟩, ⟨au4_46⟩, ⟨au4_47⟩, ⟨bk_ BK546⟩, ⟨bk_ BK563⟩, ⟨bl_⟩⟩
 case rest =>
  clear HC17
  try clear c3b0
  try clear c41b0
  try clear hcz19_0 hcz19_1 hcz19_2 hcz19_3
  try clear hcz21_0 hcz21_1 hcz21_2 hcz21_3
  try clear hcz25_0 hcz25_1 hcz25_2 hcz25_3
  try clear hcz29_0 hcz29_1 hcz29_2 hcz29_3
  try clear hcz39_0 hcz39_1 hcz39_2 hcz39_3
  try clear hcz5_0 hcz5_1 hcz5_2 hcz5_3
  try clear hfz19_0 hfz19_1 hfz19_2 hfz19_3
  try clear hfz21_0 hfz21_1 hfz21_2 hfz21_3
  try clear hfz25_0 hfz25_1 hfz25_2 hfz25_3
  try clear hfz29_0 hfz29_1 hfz29_2 hfz29_3
  try clear hfz39_0 hfz39_1 hfz39_2 hfz39_3
  try clear hfz5_0 hfz5_1 hfz5_2 hfz5_3
  obtain ⟨kq, x42_16, rfl, HA, HJ16, HO_4, HO_6, HO_564003, BK546, BK563, HB⟩ := hcut
  have hl564003_16 := (Kd.S_reads' HO_564003.out).1
  rw [hl564003_16] at HO_564003
  (try simp only [hl564003_16])
  (try simp only [hl564003_16] at BK546)
  (try simp only [hl564003_16] at BK563)
  (try simp only [hl564003_16] at HO_4)
  (try simp only [hl564003_16] at HO_6)
  cases kq with
  | zero => exact absurd HA.out (by simp [F3.j0])
  | succ kj16 =>
   have H := HA.out
   clear HA
   simp only [F3.j0] at H
   replace H := ib_ H; rcases H with ⟨rfl, H⟩ | ⟨rfl, H⟩
   ·obtain rfl := Option.some.inj H
    go_wp2
    go_ret
    exact ⟨au4_1, bl_⟩
   replace H := bi_ H; rcases H with ⟨⟨t578, t579⟩, A45, H⟩
   replace H := bi_ H; rcases H with ⟨t580, A46, H⟩
   replace H := it_ H; rcases H with ⟨c47b0, H⟩ | ⟨c47b0, H⟩
   ·obtain rfl := Option.some.inj H
    go_wp2_with (first | (go_at_call 12; obtain ⟨P9_, HP9_, HQ9_⟩ := pp9_ HO_6; (with_reducible refine (F12.calls kj16 P9_ (.slice Ao32 t564.length co32) t564 1 t578 t579 w _ ?s1 ?s2 A45.out).mono ?_); (case s1 => exact au4_9); (case s2 => exact au4_17); rintro e w48 ⟨rfl, hy0, hb, hkp⟩; (try clear A45); have n0_ := am_ (Kd.S_mono (Kd.S_keptB (ok := fun k_ => (some k_ ≠ (.slice Ao32 t564.length co32 : Value).ownBlock ∧ (k_ < b9_5 ∧ (k_ < b9_4 ∧ (k_ < b9_3 ∧ b9_2 ≤ k_))))) au4_0 hkp (fun k_ hk_ hs_ => Nat.not_le.2 (hk_.2.2.1) ((HQ9_.out _ hs_).1.2.2))) (fun k_ hk_ => hk_.1)); have n1_ := am_ (Kd.S_mono (ok' := fun k_ => some k_ ≠ (.slice Ao33 t554.length co33 : Value).ownBlock) hy0 (fun k_ h_ => h_.elim (fun p_ => (HQ9_.out _ p_).1.1) (fun n_ => Kd.fresh' (Kd.S_lt au4_0) k_ n_))); have n2_ := am_ (blk_kept (bk_ BK546) hkp (fun hs_ => nt9_ (HQ9_.out _ hs_).2 (bk_ BK546) (by decide))); have n3_ := am_ (blk_kept (bk_ BK563) hkp (fun hs_ => nt9_ (HQ9_.out _ hs_).2 (bk_ BK563) (by decide))); have n4_ := am_ (hb); clear HO_4; clear HO_6; clear BK546; clear BK563; clear HB; clear HO_564003; have HO_4 := n0_; have HO_6 := n1_; have BK546 := n2_; have BK563 := n3_; have HB := n4_; clear n0_ n1_ n2_ n3_ n4_; (try clear hb); (try clear hkp); (try clear hy0)) | (go_at_call 13; refine calls_of_args (args' := #[.slice Ao32 t579.length co32, .int .i64 1]) au4_14 ?_; (with_reducible refine (F13.calls kj16 _ _ t579 1 t580 _ ?s1 ?s2 A46.out).mono ?_); (case s1 => exact au4_7); (case s2 => exact au4_12); rintro e w49 ⟨rfl, hb⟩; (try clear A46); replace HO_4 := am_ (Kd.S_below au4_0 hb); replace HO_6 := am_ (Kd.S_below au4_3 hb); replace BK546 := bb_ BK546 hb; replace BK563 := bb_ BK563 hb; replace HB := hs_ w hb; (try clear hb); (try clear hb2); (try clear hk); (try clear hi)))
    go_ret
    exact ⟨au4_1, bl_⟩
   by_cases c50 : t580 = t578
   rotate_left
   ·rw [if_neg c50] at H
    have c50b0 : (t580 == t578) = false := beq_eq_false_iff_ne.mpr c50
    have c50b1 : (t580 != t578) = true := bne_iff_ne.mpr c50
    obtain rfl := Option.some.inj H
    go_wp2_with (first | (go_at_call 12; obtain ⟨P9_, HP9_, HQ9_⟩ := pp9_ HO_6; (with_reducible refine (F12.calls kj16 P9_ (.slice Ao32 t564.length co32) t564 1 t578 t579 w _ ?s1 ?s2 A45.out).mono ?_); (case s1 => exact au4_9); (case s2 => exact au4_17); rintro e w97 ⟨rfl, hy0, hb, hkp⟩; (try clear A45); have n0_ := am_ (Kd.S_mono (Kd.S_keptB (ok := fun k_ => (some k_ ≠ (.slice Ao32 t564.length co32 : Value).ownBlock ∧ (k_ < b9_5 ∧ (k_ < b9_4 ∧ (k_ < b9_3 ∧ b9_2 ≤ k_))))) au4_0 hkp (fun k_ hk_ hs_ => Nat.not_le.2 (hk_.2.2.1) ((HQ9_.out _ hs_).1.2.2))) (fun k_ hk_ => hk_.1)); have n1_ := am_ (Kd.S_mono (ok' := fun k_ => some k_ ≠ (.slice Ao33 t554.length co33 : Value).ownBlock) hy0 (fun k_ h_ => h_.elim (fun p_ => (HQ9_.out _ p_).1.1) (fun n_ => Kd.fresh' (Kd.S_lt au4_0) k_ n_))); have n2_ := am_ (blk_kept (bk_ BK546) hkp (fun hs_ => nt9_ (HQ9_.out _ hs_).2 (bk_ BK546) (by decide))); have n3_ := am_ (blk_kept (bk_ BK563) hkp (fun hs_ => nt9_ (HQ9_.out _ hs_).2 (bk_ BK563) (by decide))); have n4_ := am_ (hb); clear HO_4; clear HO_6; clear BK546; clear BK563; clear HB; clear HO_564003; have HO_4 := n0_; have HO_6 := n1_; have BK546 := n2_; have BK563 := n3_; have HB := n4_; clear n0_ n1_ n2_ n3_ n4_; (try clear hb); (try clear hkp); (try clear hy0)) | (go_at_call 13; refine calls_of_args (args' := #[.slice Ao32 t579.length co32, .int .i64 1]) au4_14 ?_; (with_reducible refine (F13.calls kj16 _ _ t579 1 t580 _ ?s1 ?s2 A46.out).mono ?_); (case s1 => exact au4_7); (case s2 => exact au4_12); rintro e w98 ⟨rfl, hb⟩; (try clear A46); replace HO_4 := am_ (Kd.S_below au4_0 hb); replace HO_6 := am_ (Kd.S_below au4_3 hb); replace BK546 := bb_ BK546 hb; replace BK563 := bb_ BK563 hb; replace HB := hs_ w hb; (try clear hb); (try clear hb2); (try clear hk); (try clear hi)))
    go_ret
    exact ⟨au4_1, bl_⟩
   rw [if_pos c50] at H
   have c50b0 : (t580 == t578) = true := beq_iff_eq.mpr c50
   have c50b1 : (t580 != t578) = false := bne_eq_false_iff_eq.mpr c50
   clear c50
   replace H := bi_ H; rcases H with ⟨⟨t581, t582, t583, t584⟩, A51, H⟩
   replace H := bi_ H; rcases H with ⟨t587, A52, H⟩
   replace H := bi_ H; rcases H with ⟨t590, A53, H⟩
   replace H := ib_ H; rcases H with ⟨rfl, H⟩ | ⟨rfl, H⟩
   rotate_left
   ·obtain rfl := Option.some.inj H
    go_wp2_with (first | (go_at_call 12; obtain ⟨P9_, HP9_, HQ9_⟩ := pp9_ HO_6; (with_reducible refine (F12.calls kj16 P9_ (.slice Ao32 t564.length co32) t564 1 t578 t579 w _ ?s1 ?s2 A45.out).mono ?_); (case s1 => exact au4_9); (case s2 => exact au4_17); rintro e w88 ⟨rfl, hy0, hb, hkp⟩; (try clear A45); have n0_ := am_ (Kd.S_mono (Kd.S_keptB (ok := fun k_ => (some k_ ≠ (.slice Ao32 t564.length co32 : Value).ownBlock ∧ (k_ < b9_5 ∧ (k_ < b9_4 ∧ (k_ < b9_3 ∧ b9_2 ≤ k_))))) au4_0 hkp (fun k_ hk_ hs_ => Nat.not_le.2 (hk_.2.2.1) ((HQ9_.out _ hs_).1.2.2))) (fun k_ hk_ => hk_.1)); have n1_ := am_ (Kd.S_mono (ok' := fun k_ => some k_ ≠ (.slice Ao33 t554.length co33 : Value).ownBlock) hy0 (fun k_ h_ => h_.elim (fun p_ => (HQ9_.out _ p_).1.1) (fun n_ => Kd.fresh' (Kd.S_lt au4_0) k_ n_))); have n2_ := am_ (blk_kept (bk_ BK546) hkp (fun hs_ => nt9_ (HQ9_.out _ hs_).2 (bk_ BK546) (by decide))); have n3_ := am_ (blk_kept (bk_ BK563) hkp (fun hs_ => nt9_ (HQ9_.out _ hs_).2 (bk_ BK563) (by decide))); have n4_ := am_ (hb); clear HO_4; clear HO_6; clear BK546; clear BK563; clear HB; clear HO_564003; have HO_4 := n0_; have HO_6 := n1_; have BK546 := n2_; have BK563 := n3_; have HB := n4_; clear n0_ n1_ n2_ n3_ n4_; (try clear hb); (try clear hkp); (try clear hy0)) | (go_at_call 13; refine calls_of_args (args' := #[.slice Ao32 t579.length co32, .int .i64 1]) au4_14 ?_; (with_reducible refine (F13.calls kj16 _ _ t579 1 t580 _ ?s1 ?s2 A46.out).mono ?_); (case s1 => exact au4_7); (case s2 => exact au4_12); rintro e w89 ⟨rfl, hb⟩; (try clear A46); replace HO_4 := am_ (Kd.S_below au4_0 hb); replace HO_6 := am_ (Kd.S_below au4_3 hb); replace BK546 := bb_ BK546 hb; replace BK563 := bb_ BK563 hb; replace HB := hs_ w hb; (try clear hb); (try clear hb2); (try clear hk); (try clear hi); have hnb90 := NB546_563.out; have hnc90 := NB563_546.out; obtain ⟨hcz91_0, hcz91_1, hcz91_2, hcz91_3, hfz91_0, hfz91_1, hfz91_2, hfz91_3⟩ := cellsF4 BK546.out) | (go_at_call 7; (with_reducible refine (F7.calls kj16 a0_0 a0_1 a0_2 _ _ l0_3 t581 t582 t583 t584 _ ?s1 ?s2 A51.out).mono ?_); (case s1 => exact au4_2); (case s2 => exact HC0_3.out); rintro e w92 ⟨v585, rfl, ho0, hb⟩; (try clear A51); obtain ⟨b9_12, hb9_12, ho9_12⟩ := nb9_ ho0; have HO586 := am_ (Kd.S_lower (Kd.S_new' (Kd.S_new' ho9_12 (Kd.S_lt au4_0)) (Kd.S_lt au4_3)) (below_size bl_)); replace HO_4 := am_ (Kd.S_below (Kd.S_mono (Kd.S_bound (ok := fun k_ => (some k_ ≠ (.slice Ao32 t564.length co32 : Value).ownBlock ∧ (k_ < b9_5 ∧ (k_ < b9_4 ∧ (k_ < b9_3 ∧ b9_2 ≤ k_))))) au4_0) (fun k_ hk_ => (⟨hb9_12 _ hk_.2.2.1, hk_.1⟩ : k_ < b9_12 ∧ _))) hb); replace HO_6 := am_ (Kd.S_below (Kd.S_mono (Kd.S_bound (ok := fun k_ => some k_ ≠ (.slice Ao33 t554.length co33 : Value).ownBlock) au4_3) (fun k_ hk_ => (⟨hb9_12 _ hk_.2.2.1, hk_.1⟩ : k_ < b9_12 ∧ _))) hb); replace BK546 := bb_ BK546 hb; replace BK563 := bb_ BK563 hb; replace HB := hs_ w hb; (try clear hb); (try clear hb2); (try clear hk); (try clear hi); (try clear ho0); obtain ⟨Ao93, co93, eo93⟩ := Kd.S_slice HO586.out; subst eo93) | (go_at_call 8; (with_reducible refine (F8.calls kj16 t581 t582 t583 _ _ t584 t587 _ ?s1 ?s2 ?s3 A52.out).mono ?_); (case s1 => exact au4_20); (case s2 => exact au4_53); (case s3 => exact au4_31); rintro e w94 ⟨v588, rfl, ho0, hb⟩; (try clear A52); obtain ⟨b9_13, hb9_13, ho9_13⟩ := nb9_ ho0; replace HO586 := am_ (Kd.S_elder' (Kd.S_mono (Kd.S_bound (ok := fun k_ => ((b9_12 ≤ k_ ∧ some k_ ≠ (.slice Ao33 t554.length co33 : Value).ownBlock) ∧ some k_ ≠ (.slice Ao32 t564.length co32 : Value).ownBlock)) au4_11) (fun k_ hk_ => (⟨hb9_13 _ hk_.2.2.1, hk_.1⟩ : k_ < b9_13 ∧ _))) (Kd.S_base ho0) hb); have HO589 := am_ (Kd.S_lower (Kd.S_new' (Kd.S_new' ho9_13 (Kd.S_lt au4_0)) (Kd.S_lt au4_3)) (below_size bl_)); replace HO_4 := am_ (Kd.S_elder' (Kd.S_mono (Kd.S_bound (ok := fun k_ => (k_ < b9_12 ∧ (some k_ ≠ (.slice Ao32 t564.length co32 : Value).ownBlock ∧ (k_ < b9_5 ∧ (k_ < b9_4 ∧ (k_ < b9_3 ∧ b9_2 ≤ k_)))))) au4_0) (fun k_ hk_ => (⟨hb9_13 _ hk_.2.2.1, hk_.1⟩ : k_ < b9_13 ∧ _))) (Kd.S_base ho0) hb); replace HO_6 := am_ (Kd.S_elder' (Kd.S_mono (Kd.S_bound (ok := fun k_ => (k_ < b9_12 ∧ some k_ ≠ (.slice Ao33 t554.length co33 : Value).ownBlock)) au4_3) (fun k_ hk_ => (⟨hb9_13 _ hk_.2.2.1, hk_.1⟩ : k_ < b9_13 ∧ _))) (Kd.S_base ho0) hb); replace BK546 := bb_ BK546 hb; replace BK563 := bb_ BK563 hb; replace HB := hs_ w hb; (try clear hb); (try clear hb2); (try clear hk); (try clear hi); (try clear ho0); obtain ⟨Ao95, co95, eo95⟩ := Kd.S_slice HO589.out; subst eo95) | (go_at_call 9; (with_reducible refine (F9.calls kj16 _ _ t587 _ _ t554 false _ ?s1 ?s2 ?s3 ?s4 A53.out).mono ?_); (case s1 => exact au4_21); (case s2 => exact au4_54); (case s3 => exact au4_22); (case s4 => exact au4_55); rintro e w96 ⟨rfl, hb⟩; (try clear A53); replace HO_4 := am_ (Kd.S_below au4_0 hb); replace HO_6 := am_ (Kd.S_below au4_3 hb); replace HO586 := am_ (Kd.S_below au4_11 hb); replace HO589 := am_ (Kd.S_below au4_16 hb); replace BK546 := bb_ BK546 hb; replace BK563 := bb_ BK563 hb; replace HB := hs_ w hb; (try clear hb); (try clear hb2); (try clear hk); (try clear hi)))
    go_ret
    exact ⟨au4_1, bl_⟩
   replace H := bi_ H; rcases H with ⟨t591, A55, H⟩
   replace H := it_ H; rcases H with ⟨c56b0, H⟩ | ⟨c56b0, H⟩
   ·obtain rfl := Option.some.inj H
    go_wp2_with (first | (go_at_call 12; obtain ⟨P9_, HP9_, HQ9_⟩ := pp9_ HO_6; (with_reducible refine (F12.calls kj16 P9_ (.slice Ao32 t564.length co32) t564 1 t578 t579 w _ ?s1 ?s2 A45.out).mono ?_); (case s1 => exact au4_9); (case s2 => exact au4_17); rintro e w57 ⟨rfl, hy0, hb, hkp⟩; (try clear A45); have n0_ := am_ (Kd.S_mono (Kd.S_keptB (ok := fun k_ => (some k_ ≠ (.slice Ao32 t564.length co32 : Value).ownBlock ∧ (k_ < b9_5 ∧ (k_ < b9_4 ∧ (k_ < b9_3 ∧ b9_2 ≤ k_))))) au4_0 hkp (fun k_ hk_ hs_ => Nat.not_le.2 (hk_.2.2.1) ((HQ9_.out _ hs_).1.2.2))) (fun k_ hk_ => hk_.1)); have n1_ := am_ (Kd.S_mono (ok' := fun k_ => some k_ ≠ (.slice Ao33 t554.length co33 : Value).ownBlock) hy0 (fun k_ h_ => h_.elim (fun p_ => (HQ9_.out _ p_).1.1) (fun n_ => Kd.fresh' (Kd.S_lt au4_0) k_ n_))); have n2_ := am_ (blk_kept (bk_ BK546) hkp (fun hs_ => nt9_ (HQ9_.out _ hs_).2 (bk_ BK546) (by decide))); have n3_ := am_ (blk_kept (bk_ BK563) hkp (fun hs_ => nt9_ (HQ9_.out _ hs_).2 (bk_ BK563) (by decide))); have n4_ := am_ (hb); clear HO_4; clear HO_6; clear BK546; clear BK563; clear HB; clear HO_564003; have HO_4 := n0_; have HO_6 := n1_; have BK546 := n2_; have BK563 := n3_; have HB := n4_; clear n0_ n1_ n2_ n3_ n4_; (try clear hb); (try clear hkp); (try clear hy0)) | (go_at_call 13; refine calls_of_args (args' := #[.slice Ao32 t579.length co32, .int .i64 1]) au4_14 ?_; (with_reducible refine (F13.calls kj16 _ _ t579 1 t580 _ ?s1 ?s2 A46.out).mono ?_); (case s1 => exact au4_7); (case s2 => exact au4_12); rintro e w58 ⟨rfl, hb⟩; (try clear A46); replace HO_4 := am_ (Kd.S_below au4_0 hb); replace HO_6 := am_ (Kd.S_below au4_3 hb); replace BK546 := bb_ BK546 hb; replace BK563 := bb_ BK563 hb; replace HB := hs_ w hb; (try clear hb); (try clear hb2); (try clear hk); (try clear hi); have hnb59 := NB546_563.out; have hnc59 := NB563_546.out; obtain ⟨hcz60_0, hcz60_1, hcz60_2, hcz60_3, hfz60_0, hfz60_1, hfz60_2, hfz60_3⟩ := cellsF4 BK546.out) | (go_at_call 7; (with_reducible refine (F7.calls kj16 a0_0 a0_1 a0_2 _ _ l0_3 t581 t582 t583 t584 _ ?s1 ?s2 A51.out).mono ?_); (case s1 => exact au4_2); (case s2 => exact HC0_3.out); rintro e w61 ⟨v585, rfl, ho0, hb⟩; (try clear A51); obtain ⟨b9_6, hb9_6, ho9_6⟩ := nb9_ ho0; have HO586 := am_ (Kd.S_lower (Kd.S_new' (Kd.S_new' ho9_6 (Kd.S_lt au4_0)) (Kd.S_lt au4_3)) (below_size bl_)); replace HO_4 := am_ (Kd.S_below (Kd.S_mono (Kd.S_bound (ok := fun k_ => (some k_ ≠ (.slice Ao32 t564.length co32 : Value).ownBlock ∧ (k_ < b9_5 ∧ (k_ < b9_4 ∧ (k_ < b9_3 ∧ b9_2 ≤ k_))))) au4_0) (fun k_ hk_ => (⟨hb9_6 _ hk_.2.2.1, hk_.1⟩ : k_ < b9_6 ∧ _))) hb); replace HO_6 := am_ (Kd.S_below (Kd.S_mono (Kd.S_bound (ok := fun k_ => some k_ ≠ (.slice Ao33 t554.length co33 : Value).ownBlock) au4_3) (fun k_ hk_ => (⟨hb9_6 _ hk_.2.2.1, hk_.1⟩ : k_ < b9_6 ∧ _))) hb); replace BK546 := bb_ BK546 hb; replace BK563 := bb_ BK563 hb; replace HB := hs_ w hb; (try clear hb); (try clear hb2); (try clear hk); (try clear hi); (try clear ho0); obtain ⟨Ao62, co62, eo62⟩ := Kd.S_slice HO586.out; subst eo62) | (go_at_call 8; (with_reducible refine (F8.calls kj16 t581 t582 t583 _ _ t584 t587 _ ?s1 ?s2 ?s3 A52.out).mono ?_); (case s1 => exact au4_20); (case s2 => exact au4_53); (case s3 => exact au4_31); rintro e w63 ⟨v588, rfl, ho0, hb⟩; (try clear A52); obtain ⟨b9_7, hb9_7, ho9_7⟩ := nb9_ ho0; replace HO586 := am_ (Kd.S_elder' (Kd.S_mono (Kd.S_bound (ok := fun k_ => ((b9_6 ≤ k_ ∧ some k_ ≠ (.slice Ao33 t554.length co33 : Value).ownBlock) ∧ some k_ ≠ (.slice Ao32 t564.length co32 : Value).ownBlock)) au4_11) (fun k_ hk_ => (⟨hb9_7 _ hk_.2.2.1, hk_.1⟩ : k_ < b9_7 ∧ _))) (Kd.S_base ho0) hb); have HO589 := am_ (Kd.S_lower (Kd.S_new' (Kd.S_new' ho9_7 (Kd.S_lt au4_0)) (Kd.S_lt au4_3)) (below_size bl_)); replace HO_4 := am_ (Kd.S_elder' (Kd.S_mono (Kd.S_bound (ok := fun k_ => (k_ < b9_6 ∧ (some k_ ≠ (.slice Ao32 t564.length co32 : Value).ownBlock ∧ (k_ < b9_5 ∧ (k_ < b9_4 ∧ (k_ < b9_3 ∧ b9_2 ≤ k_)))))) au4_0) (fun k_ hk_ => (⟨hb9_7 _ hk_.2.2.1, hk_.1⟩ : k_ < b9_7 ∧ _))) (Kd.S_base ho0) hb); replace HO_6 := am_ (Kd.S_elder' (Kd.S_mono (Kd.S_bound (ok := fun k_ => (k_ < b9_6 ∧ some k_ ≠ (.slice Ao33 t554.length co33 : Value).ownBlock)) au4_3) (fun k_ hk_ => (⟨hb9_7 _ hk_.2.2.1, hk_.1⟩ : k_ < b9_7 ∧ _))) (Kd.S_base ho0) hb); replace BK546 := bb_ BK546 hb; replace BK563 := bb_ BK563 hb; replace HB := hs_ w hb; (try clear hb); (try clear hb2); (try clear hk); (try clear hi); (try clear ho0); obtain ⟨Ao64, co64, eo64⟩ := Kd.S_slice HO589.out; subst eo64) | (go_at_call 9; (with_reducible refine (F9.calls kj16 _ _ t587 _ _ t554 true _ ?s1 ?s2 ?s3 ?s4 A53.out).mono ?_); (case s1 => exact au4_21); (case s2 => exact au4_54); (case s3 => exact au4_22); (case s4 => exact au4_55); rintro e w65 ⟨rfl, hb⟩; (try clear A53); replace HO_4 := am_ (Kd.S_below au4_0 hb); replace HO_6 := am_ (Kd.S_below au4_3 hb); replace HO586 := am_ (Kd.S_below au4_11 hb); replace HO589 := am_ (Kd.S_below au4_16 hb); replace BK546 := bb_ BK546 hb; replace BK563 := bb_ BK563 hb; replace HB := hs_ w hb; (try clear hb); (try clear hb2); (try clear hk); (try clear hi)) | (go_at_call 13; refine calls_of_args (args' := #[.slice Ao32 t579.length co32, .int .i64 1]) au4_14 ?_; (with_reducible refine (F13.calls kj16 _ _ t579 1 t591 _ ?s1 ?s2 A55.out).mono ?_); (case s1 => exact au4_7); (case s2 => exact au4_12); rintro e w66 ⟨rfl, hb⟩; (try clear A55); replace HO_4 := am_ (Kd.S_below au4_0 hb); replace HO_6 := am_ (Kd.S_below au4_3 hb); replace HO586 := am_ (Kd.S_below au4_11 hb); replace HO589 := am_ (Kd.S_below au4_16 hb); replace BK546 := bb_ BK546 hb; replace BK563 := bb_ BK563 hb; replace HB := hs_ w hb; (try clear hb); (try clear hb2); (try clear hk); (try clear hi)))
    go_ret
    exact ⟨au4_1, bl_⟩
   by_cases c67 : t591 = t578
   rotate_left
   ·rw [if_neg c67] at H
    have c67b0 : (t591 == t578) = false := beq_eq_false_iff_ne.mpr c67
    have c67b1 : (t591 != t578) = true := bne_iff_ne.mpr c67
    obtain rfl := Option.some.inj H
    go_wp2_with (first | (go_at_call 12; obtain ⟨P9_, HP9_, HQ9_⟩ := pp9_ HO_6; (with_reducible refine (F12.calls kj16 P9_ (.slice Ao32 t564.length co32) t564 1 t578 t579 w _ ?s1 ?s2 A45.out).mono ?_); (case s1 => exact au4_9); (case s2 => exact au4_17); rintro e w78 ⟨rfl, hy0, hb, hkp⟩; (try clear A45); have n0_ := am_ (Kd.S_mono (Kd.S_keptB (ok := fun k_ => (some k_ ≠ (.slice Ao32 t564.length co32 : Value).ownBlock ∧ (k_ < b9_5 ∧ (k_ < b9_4 ∧ (k_ < b9_3 ∧ b9_2 ≤ k_))))) au4_0 hkp (fun k_ hk_ hs_ => Nat.not_le.2 (hk_.2.2.1) ((HQ9_.out _ hs_).1.2.2))) (fun k_ hk_ => hk_.1)); have n1_ := am_ (Kd.S_mono (ok' := fun k_ => some k_ ≠ (.slice Ao33 t554.length co33 : Value).ownBlock) hy0 (fun k_ h_ => h_.elim (fun p_ => (HQ9_.out _ p_).1.1) (fun n_ => Kd.fresh' (Kd.S_lt au4_0) k_ n_))); have n2_ := am_ (blk_kept (bk_ BK546) hkp (fun hs_ => nt9_ (HQ9_.out _ hs_).2 (bk_ BK546) (by decide))); have n3_ := am_ (blk_kept (bk_ BK563) hkp (fun hs_ => nt9_ (HQ9_.out _ hs_).2 (bk_ BK563) (by decide))); have n4_ := am_ (hb); clear HO_4; clear HO_6; clear BK546; clear BK563; clear HB; clear HO_564003; have HO_4 := n0_; have HO_6 := n1_; have BK546 := n2_; have BK563 := n3_; have HB := n4_; clear n0_ n1_ n2_ n3_ n4_; (try clear hb); (try clear hkp); (try clear hy0)) | (go_at_call 13; refine calls_of_args (args' := #[.slice Ao32 t579.length co32, .int .i64 1]) au4_14 ?_; (with_reducible refine (F13.calls kj16 _ _ t579 1 t580 _ ?s1 ?s2 A46.out).mono ?_); (case s1 => exact au4_7); (case s2 => exact au4_12); rintro e w79 ⟨rfl, hb⟩; (try clear A46); replace HO_4 := am_ (Kd.S_below au4_0 hb); replace HO_6 := am_ (Kd.S_below au4_3 hb); replace BK546 := bb_ BK546 hb; replace BK563 := bb_ BK563 hb; replace HB := hs_ w hb; (try clear hb); (try clear hb2); (try clear hk); (try clear hi); have hnb80 := NB546_563.out; have hnc80 := NB563_546.out; obtain ⟨hcz81_0, hcz81_1, hcz81_2, hcz81_3, hfz81_0, hfz81_1, hfz81_2, hfz81_3⟩ := cellsF4 BK546.out) | (go_at_call 7; (with_reducible refine (F7.calls kj16 a0_0 a0_1 a0_2 _ _ l0_3 t581 t582 t583 t584 _ ?s1 ?s2 A51.out).mono ?_); (case s1 => exact au4_2); (case s2 => exact HC0_3.out); rintro e w82 ⟨v585, rfl, ho0, hb⟩; (try clear A51); obtain ⟨b9_10, hb9_10, ho9_10⟩ := nb9_ ho0; have HO586 := am_ (Kd.S_lower (Kd.S_new' (Kd.S_new' ho9_10 (Kd.S_lt au4_0)) (Kd.S_lt au4_3)) (below_size bl_)); replace HO_4 := am_ (Kd.S_below (Kd.S_mono (Kd.S_bound (ok := fun k_ => (some k_ ≠ (.slice Ao32 t564.length co32 : Value).ownBlock ∧ (k_ < b9_5 ∧ (k_ < b9_4 ∧ (k_ < b9_3 ∧ b9_2 ≤ k_))))) au4_0) (fun k_ hk_ => (⟨hb9_10 _ hk_.2.2.1, hk_.1⟩ : k_ < b9_10 ∧ _))) hb); replace HO_6 := am_ (Kd.S_below (Kd.S_mono (Kd.S_bound (ok := fun k_ => some k_ ≠ (.slice Ao33 t554.length co33 : Value).ownBlock) au4_3) (fun k_ hk_ => (⟨hb9_10 _ hk_.2.2.1, hk_.1⟩ : k_ < b9_10 ∧ _))) hb); replace BK546 := bb_ BK546 hb; replace BK563 := bb_ BK563 hb; replace HB := hs_ w hb; (try clear hb); (try clear hb2); (try clear hk); (try clear hi); (try clear ho0); obtain ⟨Ao83, co83, eo83⟩ := Kd.S_slice HO586.out; subst eo83) | (go_at_call 8; (with_reducible refine (F8.calls kj16 t581 t582 t583 _ _ t584 t587 _ ?s1 ?s2 ?s3 A52.out).mono ?_); (case s1 => exact au4_20); (case s2 => exact au4_53); (case s3 => exact au4_31); rintro e w84 ⟨v588, rfl, ho0, hb⟩; (try clear A52); obtain ⟨b9_11, hb9_11, ho9_11⟩ := nb9_ ho0; replace HO586 := am_ (Kd.S_elder' (Kd.S_mono (Kd.S_bound (ok := fun k_ => ((b9_10 ≤ k_ ∧ some k_ ≠ (.slice Ao33 t554.length co33 : Value).ownBlock) ∧ some k_ ≠ (.slice Ao32 t564.length co32 : Value).ownBlock)) au4_11) (fun k_ hk_ => (⟨hb9_11 _ hk_.2.2.1, hk_.1⟩ : k_ < b9_11 ∧ _))) (Kd.S_base ho0) hb); have HO589 := am_ (Kd.S_lower (Kd.S_new' (Kd.S_new' ho9_11 (Kd.S_lt au4_0)) (Kd.S_lt au4_3)) (below_size bl_)); replace HO_4 := am_ (Kd.S_elder' (Kd.S_mono (Kd.S_bound (ok := fun k_ => (k_ < b9_10 ∧ (some k_ ≠ (.slice Ao32 t564.length co32 : Value).ownBlock ∧ (k_ < b9_5 ∧ (k_ < b9_4 ∧ (k_ < b9_3 ∧ b9_2 ≤ k_)))))) au4_0) (fun k_ hk_ => (⟨hb9_11 _ hk_.2.2.1, hk_.1⟩ : k_ < b9_11 ∧ _))) (Kd.S_base ho0) hb); replace HO_6 := am_ (Kd.S_elder' (Kd.S_mono (Kd.S_bound (ok := fun k_ => (k_ < b9_10 ∧ some k_ ≠ (.slice Ao33 t554.length co33 : Value).ownBlock)) au4_3) (fun k_ hk_ => (⟨hb9_11 _ hk_.2.2.1, hk_.1⟩ : k_ < b9_11 ∧ _))) (Kd.S_base ho0) hb); replace BK546 := bb_ BK546 hb; replace BK563 := bb_ BK563 hb; replace HB := hs_ w hb; (try clear hb); (try clear hb2); (try clear hk); (try clear hi); (try clear ho0); obtain ⟨Ao85, co85, eo85⟩ := Kd.S_slice HO589.out; subst eo85) | (go_at_call 9; (with_reducible refine (F9.calls kj16 _ _ t587 _ _ t554 true _ ?s1 ?s2 ?s3 ?s4 A53.out).mono ?_); (case s1 => exact au4_21); (case s2 => exact au4_54); (case s3 => exact au4_22); (case s4 => exact au4_55); rintro e w86 ⟨rfl, hb⟩; (try clear A53); replace HO_4 := am_ (Kd.S_below au4_0 hb); replace HO_6 := am_ (Kd.S_below au4_3 hb); replace HO586 := am_ (Kd.S_below au4_11 hb); replace HO589 := am_ (Kd.S_below au4_16 hb); replace BK546 := bb_ BK546 hb; replace BK563 := bb_ BK563 hb; replace HB := hs_ w hb; (try clear hb); (try clear hb2); (try clear hk); (try clear hi)) | (go_at_call 13; refine calls_of_args (args' := #[.slice Ao32 t579.length co32, .int .i64 1]) au4_14 ?_; (with_reducible refine (F13.calls kj16 _ _ t579 1 t591 _ ?s1 ?s2 A55.out).mono ?_); (case s1 => exact au4_7); (case s2 => exact au4_12); rintro e w87 ⟨rfl, hb⟩; (try clear A55); replace HO_4 := am_ (Kd.S_below au4_0 hb); replace HO_6 := am_ (Kd.S_below au4_3 hb); replace HO586 := am_ (Kd.S_below au4_11 hb); replace HO589 := am_ (Kd.S_below au4_16 hb); replace BK546 := bb_ BK546 hb; replace BK563 := bb_ BK563 hb; replace HB := hs_ w hb; (try clear hb); (try clear hb2); (try clear hk); (try clear hi)))
    go_ret
    exact ⟨au4_1, bl_⟩
   rw [if_pos c67] at H
   have c67b0 : (t591 == t578) = true := beq_iff_eq.mpr c67
   have c67b1 : (t591 != t578) = false := bne_eq_false_iff_eq.mpr c67
   clear c67
   obtain rfl := Option.some.inj H
   go_wp2_with (first | (go_at_call 12; obtain ⟨P9_, HP9_, HQ9_⟩ := pp9_ HO_6; (with_reducible refine (F12.calls kj16 P9_ (.slice Ao32 t564.length co32) t564 1 t578 t579 w _ ?s1 ?s2 A45.out).mono ?_); (case s1 => exact au4_9); (case s2 => exact au4_17); rintro e w68 ⟨rfl, hy0, hb, hkp⟩; (try clear A45); have n0_ := am_ (Kd.S_mono (Kd.S_keptB (ok := fun k_ => (some k_ ≠ (.slice Ao32 t564.length co32 : Value).ownBlock ∧ (k_ < b9_5 ∧ (k_ < b9_4 ∧ (k_ < b9_3 ∧ b9_2 ≤ k_))))) au4_0 hkp (fun k_ hk_ hs_ => Nat.not_le.2 (hk_.2.2.1) ((HQ9_.out _ hs_).1.2.2))) (fun k_ hk_ => hk_.1)); have n1_ := am_ (Kd.S_mono (ok' := fun k_ => some k_ ≠ (.slice Ao33 t554.length co33 : Value).ownBlock) hy0 (fun k_ h_ => h_.elim (fun p_ => (HQ9_.out _ p_).1.1) (fun n_ => Kd.fresh' (Kd.S_lt au4_0) k_ n_))); have n2_ := am_ (blk_kept (bk_ BK546) hkp (fun hs_ => nt9_ (HQ9_.out _ hs_).2 (bk_ BK546) (by decide))); have n3_ := am_ (blk_kept (bk_ BK563) hkp (fun hs_ => nt9_ (HQ9_.out _ hs_).2 (bk_ BK563) (by decide))); have n4_ := am_ (hb); clear HO_4; clear HO_6; clear BK546; clear BK563; clear HB; clear HO_564003; have HO_4 := n0_; have HO_6 := n1_; have BK546 := n2_; have BK563 := n3_; have HB := n4_; clear n0_ n1_ n2_ n3_ n4_; (try clear hb); (try clear hkp); (try clear hy0)) | (go_at_call 13; refine calls_of_args (args' := #[.slice Ao32 t579.length co32, .int .i64 1]) au4_14 ?_; (with_reducible refine (F13.calls kj16 _ _ t579 1 t580 _ ?s1 ?s2 A46.out).mono ?_); (case s1 => exact au4_7); (case s2 => exact au4_12); rintro e w69 ⟨rfl, hb⟩; (try clear A46); replace HO_4 := am_ (Kd.S_below au4_0 hb); replace HO_6 := am_ (Kd.S_below au4_3 hb); replace BK546 := bb_ BK546 hb; replace BK563 := bb_ BK563 hb; replace HB := hs_ w hb; (try clear hb); (try clear hb2); (try clear hk); (try clear hi); have hnb70 := NB546_563.out; have hnc70 := NB563_546.out; obtain ⟨hcz71_0, hcz71_1, hcz71_2, hcz71_3, hfz71_0, hfz71_1, hfz71_2, hfz71_3⟩ := cellsF4 BK546.out) | (go_at_call 7; (with_reducible refine (F7.calls kj16 a0_0 a0_1 a0_2 _ _ l0_3 t581 t582 t583 t584 _ ?s1 ?s2 A51.out).mono ?_); (case s1 => exact au4_2); (case s2 => exact HC0_3.out); rintro e w72 ⟨v585, rfl, ho0, hb⟩; (try clear A51); obtain ⟨b9_8, hb9_8, ho9_8⟩ := nb9_ ho0; have HO586 := am_ (Kd.S_lower (Kd.S_new' (Kd.S_new' ho9_8 (Kd.S_lt au4_0)) (Kd.S_lt au4_3)) (below_size bl_)); replace HO_4 := am_ (Kd.S_below (Kd.S_mono (Kd.S_bound (ok := fun k_ => (some k_ ≠ (.slice Ao32 t564.length co32 : Value).ownBlock ∧ (k_ < b9_5 ∧ (k_ < b9_4 ∧ (k_ < b9_3 ∧ b9_2 ≤ k_))))) au4_0) (fun k_ hk_ => (⟨hb9_8 _ hk_.2.2.1, hk_.1⟩ : k_ < b9_8 ∧ _))) hb); replace HO_6 := am_ (Kd.S_below (Kd.S_mono (Kd.S_bound (ok := fun k_ => some k_ ≠ (.slice Ao33 t554.length co33 : Value).ownBlock) au4_3) (fun k_ hk_ => (⟨hb9_8 _ hk_.2.2.1, hk_.1⟩ : k_ < b9_8 ∧ _))) hb); replace BK546 := bb_ BK546 hb; replace BK563 := bb_ BK563 hb; replace HB := hs_ w hb; (try clear hb); (try clear hb2); (try clear hk); (try clear hi); (try clear ho0); obtain ⟨Ao73, co73, eo73⟩ := Kd.S_slice HO586.out; subst eo73) | (go_at_call 8; (with_reducible refine (F8.calls kj16 t581 t582 t583 _ _ t584 t587 _ ?s1 ?s2 ?s3 A52.out).mono ?_); (case s1 => exact au4_20); (case s2 => exact au4_53); (case s3 => exact au4_31); rintro e w74 ⟨v588, rfl, ho0, hb⟩; (try clear A52); obtain ⟨b9_9, hb9_9, ho9_9⟩ := nb9_ ho0; replace HO586 := am_ (Kd.S_elder' (Kd.S_mono (Kd.S_bound (ok := fun k_ => ((b9_8 ≤ k_ ∧ some k_ ≠ (.slice Ao33 t554.length co33 : Value).ownBlock) ∧ some k_ ≠ (.slice Ao32 t564.length co32 : Value).ownBlock)) au4_11) (fun k_ hk_ => (⟨hb9_9 _ hk_.2.2.1, hk_.1⟩ : k_ < b9_9 ∧ _))) (Kd.S_base ho0) hb); have HO589 := am_ (Kd.S_lower (Kd.S_new' (Kd.S_new' ho9_9 (Kd.S_lt au4_0)) (Kd.S_lt au4_3)) (below_size bl_)); replace HO_4 := am_ (Kd.S_elder' (Kd.S_mono (Kd.S_bound (ok := fun k_ => (k_ < b9_8 ∧ (some k_ ≠ (.slice Ao32 t564.length co32 : Value).ownBlock ∧ (k_ < b9_5 ∧ (k_ < b9_4 ∧ (k_ < b9_3 ∧ b9_2 ≤ k_)))))) au4_0) (fun k_ hk_ => (⟨hb9_9 _ hk_.2.2.1, hk_.1⟩ : k_ < b9_9 ∧ _))) (Kd.S_base ho0) hb); replace HO_6 := am_ (Kd.S_elder' (Kd.S_mono (Kd.S_bound (ok := fun k_ => (k_ < b9_8 ∧ some k_ ≠ (.slice Ao33 t554.length co33 : Value).ownBlock)) au4_3) (fun k_ hk_ => (⟨hb9_9 _ hk_.2.2.1, hk_.1⟩ : k_ < b9_9 ∧ _))) (Kd.S_base ho0) hb); replace BK546 := bb_ BK546 hb; replace BK563 := bb_ BK563 hb; replace HB := hs_ w hb; (try clear hb); (try clear hb2); (try clear hk); (try clear hi); (try clear ho0); obtain ⟨Ao75, co75, eo75⟩ := Kd.S_slice HO589.out; subst eo75) | (go_at_call 9; (with_reducible refine (F9.calls kj16 _ _ t587 _ _ t554 true _ ?s1 ?s2 ?s3 ?s4 A53.out).mono ?_); (case s1 => exact au4_21); (case s2 => exact au4_54); (case s3 => exact au4_22); (case s4 => exact au4_55); rintro e w76 ⟨rfl, hb⟩; (try clear A53); replace HO_4 := am_ (Kd.S_below au4_0 hb); replace HO_6 := am_ (Kd.S_below au4_3 hb); replace HO586 := am_ (Kd.S_below au4_11 hb); replace HO589 := am_ (Kd.S_below au4_16 hb); replace BK546 := bb_ BK546 hb; replace BK563 := bb_ BK563 hb; replace HB := hs_ w hb; (try clear hb); (try clear hb2); (try clear hk); (try clear hi)) | (go_at_call 13; refine calls_of_args (args' := #[.slice Ao32 t579.length co32, .int .i64 1]) au4_14 ?_; (with_reducible refine (F13.calls kj16 _ _ t579 1 t591 _ ?s1 ?s2 A55.out).mono ?_); (case s1 => exact au4_7); (case s2 => exact au4_12); rintro e w77 ⟨rfl, hb⟩; (try clear A55); replace HO_4 := am_ (Kd.S_below au4_0 hb); replace HO_6 := am_ (Kd.S_below au4_3 hb); replace HO586 := am_ (Kd.S_below au4_11 hb); replace HO589 := am_ (Kd.S_below au4_16 hb); replace BK546 := bb_ BK546 hb; replace BK563 := bb_ BK563 hb; replace HB := hs_ w hb; (try clear hb); (try clear hb2); (try clear hk); (try clear hi)))
   go_ret
   exact ⟨au4_1, bl_⟩
/-- THE ONE PURE STATEMENT of F3: yours. -/
def F3.Pure : Prop := ∀ (a0_0 : ByteArray) (a0_1 : ByteArray) (a0_2 : Int) (l0_3 : List (S89)), (fun s_ : ByteArray => s_.size ≤ maxLen) a0_0 → (fun s_ : ByteArray => s_.size ≤ maxLen) a0_1 → (fun n_ : Int => (Lit.int .i64 n_).wf = true) a0_2 → (fun xs_ : List (S89) => xs_.length ≤ maxLen ∧ ∀ x_ ∈ xs_, q89 x_) l0_3 → ∃ k, F3.f k a0_0 a0_1 a0_2 l0_3 = some true
end Go.Proofs.YtlghcbmkhdibdaaGreatDoor.PFnExactIxSegments
