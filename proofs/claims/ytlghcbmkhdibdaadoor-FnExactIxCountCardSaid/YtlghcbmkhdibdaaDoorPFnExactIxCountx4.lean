-- printed by a program of this session (wip/xp/xprint.py) out of the translation; Lean checks it
import Derived.Test.YtlghcbmkhdibdaaDoorPFnExactIxCountx0
import Derived.Test.YtlghcbmkhdibdaaDoorPFnExactIxCountx1
import Derived.Test.YtlghcbmkhdibdaaDoorPFnExactIxCountx2
import Derived.Test.YtlghcbmkhdibdaaDoorPFnExactIxCountx3
namespace Go.Proofs.YtlghcbmkhdibdaaDoor.PFnExactIxCount
open Go.RowKit Go.Proofs.YtlghcbmkhdibdaaDoorW.PrintWords Go.Proofs.YtlghcbmkhdibdaaDoorW.PrintLast Go.Proofs.YtlghcbmkhdibdaaDoorW.PrintMore
attribute [local go_sem] max2_int min2_int max_two min_two max_three min_three max_four min_four   -- for this text's walks alone
set_option linter.unusedVariables false
set_option linter.unusedSimpArgs false
set_option maxHeartbeats 8000000
set_option maxRecDepth 100000

theorem au4_0 {p : Prop} (h : p := by repeat (first | exact (Kd.C_below HR0_3.out HB.out) | (with_reducible refine Kd.C_alloc ?_ _) | (with_reducible refine Kd.C_drewN ?_ _) | (with_reducible refine Kd.C_drew ?_))) : p := h
theorem au4_1 {p : Prop} (h : p := by first | rfl | (simp [errW_none, errW_some] <;> rfl) | (simp [*, errW_none, errW_some] <;> rfl)) : p := h
theorem au4_2 {p : Prop} (h : p := by (with_reducible repeat (first | apply Kd.R_alloc | apply Kd.R_drewN | apply Kd.R_drew)); exact (Kd.R_mono (Kd.R_far (p := ⟨gb556, 3, none⟩) (Kd.R_far (p := ⟨gb556, 2, none⟩) (Kd.R_far (p := ⟨gb556, 1, none⟩) (Kd.R_far (p := ⟨gb556, 0, none⟩) (Kd.R_types HO555.out BK556.out (by decide)) (fun _ hk => hk.2) (.string t550)) (fun _ hk => hk.2) (.string t551)) (fun _ hk => hk.2) (.int .i64 t552)) (fun _ hk => hk.2) (.slice Ao27 t553.length co27)) (fun _ h_ => h_.1))) : p := h
theorem au4_3 {p : Prop} (h : p := by (with_reducible repeat (first | apply Kd.R_alloc | apply Kd.R_drewN | apply Kd.R_drew)); exact (Kd.R_mono (Kd.R_far (p := ⟨gb556, 3, none⟩) (Kd.R_far (p := ⟨gb556, 2, none⟩) (Kd.R_far (p := ⟨gb556, 1, none⟩) (Kd.R_far (p := ⟨gb556, 0, none⟩) (Kd.R_types HO555.out BK556.out (by decide)) (fun _ hk => hk.2) (.string t550)) (fun _ hk => hk.2) (.string t551)) (fun _ hk => hk.2) (.int .i64 t552)) (fun _ hk => hk.2) (.slice Ao45 t553.length co45)) (fun _ h_ => h_.1))) : p := h
theorem au4_4 {p : Prop} (h : p := by (with_reducible repeat (first | apply Kd.R_alloc | apply Kd.R_drewN | apply Kd.R_drew)); exact (Kd.R_mono (Kd.R_far (p := ⟨gb556, 3, none⟩) (Kd.R_far (p := ⟨gb556, 2, none⟩) (Kd.R_far (p := ⟨gb556, 1, none⟩) (Kd.R_far (p := ⟨gb556, 0, none⟩) (Kd.R_types HO555.out BK556.out (by decide)) (fun _ hk => hk.2) (.string t550)) (fun _ hk => hk.2) (.string t551)) (fun _ hk => hk.2) (.int .i64 t552)) (fun _ hk => hk.2) (.slice Ao63 t553.length co63)) (fun _ h_ => h_.1))) : p := h
theorem au4_5 {p : Prop} (h : p := by repeat (first | exact (Kd.R_reads' HO548.out).2.2 | (with_reducible refine Kd.C_alloc ?_ _) | (with_reducible refine Kd.C_drewN ?_ _) | (with_reducible refine Kd.C_drew ?_))) : p := h
theorem au4_6 {p : Prop} (h : p := by rintro w' ⟨s0, s1, s2, s3, s4, s5⟩; go_simp; with_reducible rfl) : p := h
theorem au4_7 {p : Prop} (h : p := by repeat (first | exact (Kd.C_below HR535_2.out HB.out) | (with_reducible refine Kd.C_alloc ?_ _) | (with_reducible refine Kd.C_drewN ?_ _) | (with_reducible refine Kd.C_drew ?_))) : p := h
theorem au4_8 {p : Prop} (h : p := by repeat (first | exact (Kd.C_below HR536_2.out HB.out) | (with_reducible refine Kd.C_alloc ?_ _) | (with_reducible refine Kd.C_drewN ?_ _) | (with_reducible refine Kd.C_drew ?_))) : p := h
theorem au4_9 {p : Prop} (h : p := by repeat (first | exact (Kd.C_below HR0_2.out HB.out) | (with_reducible refine Kd.C_alloc ?_ _) | (with_reducible refine Kd.C_drewN ?_ _) | (with_reducible refine Kd.C_drew ?_))) : p := h
theorem au4_10 {p : Prop} (h : p := by repeat (first | exact (Kd.C_below HR1_2.out HB.out) | (with_reducible refine Kd.C_alloc ?_ _) | (with_reducible refine Kd.C_drewN ?_ _) | (with_reducible refine Kd.C_drew ?_))) : p := h
theorem au4_11 {p : Prop} (h : p := by repeat (first | exact (Kd.C_below HR1_3.out HB.out) | (with_reducible refine Kd.C_alloc ?_ _) | (with_reducible refine Kd.C_drewN ?_ _) | (with_reducible refine Kd.C_drew ?_))) : p := h
theorem au4_12 {p : Prop} (h : p := by repeat (first | exact (Kd.R_reads' HO555.out).2.2 | (with_reducible refine Kd.C_alloc ?_ _) | (with_reducible refine Kd.C_drewN ?_ _) | (with_reducible refine Kd.C_drew ?_))) : p := h
theorem au4_13 {p : Prop} (h : p := by repeat (first | exact (Kd.R_reads' HO563.out).2.2 | (with_reducible refine Kd.C_alloc ?_ _) | (with_reducible refine Kd.C_drewN ?_ _) | (with_reducible refine Kd.C_drew ?_))) : p := h
theorem au4_14 {p : Prop} (h : p := by first | (with_reducible exact HZT.out) | exact HZT.out.below bl_) : p := h
theorem au4_15 {p : Prop} (h : p := by exact (Kd.R_reads' HO555.out).2.1) : p := h

/-! ### F57: function 57 -/
def F57.f (k : Nat) (a0_0 : Int) (a0_1 : Int) (l0_2 : List (S85)) (a1_0 : Int) (a1_1 : Int) (l1_2 : List (S85)) : Option (Bool) := if a0_0 = a1_0 then (if a0_1 = a1_1 then ((F90.f k l0_2 l1_2).bind fun t534 => (if t534 = true then (some true) else (some false))) else (some false)) else (some false)
theorem F57.mono : ∀ a0 a1 a2 a3 a4 a5 k, LeO (F57.f k a0 a1 a2 a3 a4 a5) (F57.f (k + 1) a0 a1 a2 a3 a4 a5) := by
 intro a0 a1 a2 a3 a4 a5 k
 unfold F57.f
 repeat' with_reducible first | exact F90.mono _ _ _ | exact LeO.refl _ | exact LeO.none _ | refine LeO.ite ?_ ?_ | refine LeO.bind ?_ (fun _ => ?_)
theorem F57.calls (k : Nat) (a0_0 : Int) (a0_1 : Int) (A0_2 : Option Addr) (c0_2 : Nat) (l0_2 : List (S85)) (a1_0 : Int) (a1_1 : Int) (A1_2 : Option Addr) (c1_2 : Nat) (l1_2 : List (S85)) (r : Bool) (w : World) (hr0_2 : Kd.C k85 w A0_2 l0_2.length l0_2) (hc0_2 : l0_2.length ≤ c0_2) (hr1_2 : Kd.C k85 w A1_2 l1_2.length l1_2) (hc1_2 : l1_2.length ≤ c1_2) (h : F57.f k a0_0 a0_1 l0_2 a1_0 a1_1 l1_2 = some r) :
  Calls Tryd.prog 57 #[.agg #[.int .i64 a0_0, .int .i64 a0_1, .slice A0_2 l0_2.length c0_2], .agg #[.int .i64 a1_0, .int .i64 a1_1, .slice A1_2 l1_2.length c1_2]] w fun e w' => e = .returned (.bool r) ∧ Below w.heap.size w w' := by
 have hu83 := Tryd.underlying83
 have HR0_2 := am_ hr0_2
 have HC0_2 := am_ hc0_2
 clear hr0_2 hc0_2
 have HR1_2 := am_ hr1_2
 have HC1_2 := am_ hc1_2
 clear hr1_2 hc1_2
 have HB := am_ (Below.refl w.heap.size w)
 have H : (if a0_0 = a1_0 then (if a0_1 = a1_1 then ((F90.f k l0_2 l1_2).bind fun t534 => (if t534 = true then (some true) else (some false))) else (some false)) else (some false)) = some r := h
 clear h
 by_cases c3 : a0_0 = a1_0
 rotate_left
 ·rw [if_neg c3] at H
  have c3b0 : (a0_0 == a1_0) = false := beq_eq_false_iff_ne.mpr c3
  have c3b1 : (a0_0 != a1_0) = true := bne_iff_ne.mpr c3
  obtain rfl := Option.some.inj H
  go_enter Tryd.func57, Tryd.ntmps57
  go_wp2_with (first | ((with_reducible refine gate_dst (N := 2) rfl ?_); refine be_ 2 #[.int .i64 a0_0, .int .i64 a0_1, .slice A0_2 l0_2.length c0_2] 83 ?_; intro gb532 hg w24 hbox hb; have BK532 := am_ (hbox); have GW532 := am_ (gw_ hg bl_); have GE532 := GW532; replace HB := hs_ w hb; clear hb hbox hg) | ((with_reducible refine gate_dst (N := 3) rfl ?_); refine be_ 3 #[.int .i64 a1_0, .int .i64 a1_1, .slice A1_2 l1_2.length c1_2] 83 ?_; intro gb533 hg w25 hbox hb; have BK533 := am_ (hbox); have GW533 := am_ (gw_ hg bl_); have GE533 := GW533; replace HB := hs_ w hb; have NB532_533 := am_ (gn_ hg (blkl_ BK532)); have NB533_532 := am_ (gm_ hg (blkl_ BK532)); replace BK532 := bb_ BK532 hb; clear hb hbox hg; have hnb26 := NB532_533.out; have hnc26 := NB533_532.out; obtain ⟨hcz27_0, hcz27_1, hcz27_2, hfz27_0, hfz27_1, hfz27_2⟩ := cellsF3 BK532.out; obtain ⟨hcz28_0, hcz28_1, hcz28_2, hfz28_0, hfz28_1, hfz28_2⟩ := cellsF3 BK533.out))
  go_ret
  exact ⟨au4_1, bl_⟩

 rw [if_pos c3] at H
 have c3b0 : (a0_0 == a1_0) = true := beq_iff_eq.mpr c3
 have c3b1 : (a0_0 != a1_0) = false := bne_eq_false_iff_eq.mpr c3
 clear c3
 by_cases c4 : a0_1 = a1_1
 rotate_left
 ·rw [if_neg c4] at H
  have c4b0 : (a0_1 == a1_1) = false := beq_eq_false_iff_ne.mpr c4
  have c4b1 : (a0_1 != a1_1) = true := bne_iff_ne.mpr c4
  obtain rfl := Option.some.inj H
  go_enter Tryd.func57, Tryd.ntmps57
  go_wp2_with (first | ((with_reducible refine gate_dst (N := 2) rfl ?_); refine be_ 2 #[.int .i64 a0_0, .int .i64 a0_1, .slice A0_2 l0_2.length c0_2] 83 ?_; intro gb532 hg w19 hbox hb; have BK532 := am_ (hbox); have GW532 := am_ (gw_ hg bl_); have GE532 := GW532; replace HB := hs_ w hb; clear hb hbox hg) | ((with_reducible refine gate_dst (N := 3) rfl ?_); refine be_ 3 #[.int .i64 a1_0, .int .i64 a1_1, .slice A1_2 l1_2.length c1_2] 83 ?_; intro gb533 hg w20 hbox hb; have BK533 := am_ (hbox); have GW533 := am_ (gw_ hg bl_); have GE533 := GW533; replace HB := hs_ w hb; have NB532_533 := am_ (gn_ hg (blkl_ BK532)); have NB533_532 := am_ (gm_ hg (blkl_ BK532)); replace BK532 := bb_ BK532 hb; clear hb hbox hg; have hnb21 := NB532_533.out; have hnc21 := NB533_532.out; obtain ⟨hcz22_0, hcz22_1, hcz22_2, hfz22_0, hfz22_1, hfz22_2⟩ := cellsF3 BK532.out; obtain ⟨hcz23_0, hcz23_1, hcz23_2, hfz23_0, hfz23_1, hfz23_2⟩ := cellsF3 BK533.out))
  go_ret
  exact ⟨au4_1, bl_⟩
 rw [if_pos c4] at H
 have c4b0 : (a0_1 == a1_1) = true := beq_iff_eq.mpr c4
 have c4b1 : (a0_1 != a1_1) = false := bne_eq_false_iff_eq.mpr c4
 clear c4
 replace H := bi_ H; rcases H with ⟨t534, A5, H⟩
 replace H := ib_ H; rcases H with ⟨rfl, H⟩ | ⟨rfl, H⟩
 rotate_left
 ·obtain rfl := Option.some.inj H
  go_enter Tryd.func57, Tryd.ntmps57
  go_wp2_with (first | ((with_reducible refine gate_dst (N := 2) rfl ?_); refine be_ 2 #[.int .i64 a0_0, .int .i64 a0_1, .slice A0_2 l0_2.length c0_2] 83 ?_; intro gb532 hg w13 hbox hb; have BK532 := am_ (hbox); have GW532 := am_ (gw_ hg bl_); have GE532 := GW532; replace HB := hs_ w hb; clear hb hbox hg) | ((with_reducible refine gate_dst (N := 3) rfl ?_); refine be_ 3 #[.int .i64 a1_0, .int .i64 a1_1, .slice A1_2 l1_2.length c1_2] 83 ?_; intro gb533 hg w14 hbox hb; have BK533 := am_ (hbox); have GW533 := am_ (gw_ hg bl_); have GE533 := GW533; replace HB := hs_ w hb; have NB532_533 := am_ (gn_ hg (blkl_ BK532)); have NB533_532 := am_ (gm_ hg (blkl_ BK532)); replace BK532 := bb_ BK532 hb; clear hb hbox hg; have hnb15 := NB532_533.out; have hnc15 := NB533_532.out; obtain ⟨hcz16_0, hcz16_1, hcz16_2, hfz16_0, hfz16_1, hfz16_2⟩ := cellsF3 BK532.out; obtain ⟨hcz17_0, hcz17_1, hcz17_2, hfz17_0, hfz17_1, hfz17_2⟩ := cellsF3 BK533.out) | ((with_reducible refine gate_callee (f := 90) rfl ?_); refine gl_ 19 Tryd.func90 #[.slice A0_2 l0_2.length c0_2, .slice A1_2 l1_2.length c1_2] ?_ rfl rfl rfl rfl; (with_reducible refine (F90.calls k _ _ l0_2 _ _ l1_2 false _ ?s1 ?s2 ?s3 ?s4 A5.out).mono ?_); (case s1 => exact au4_9); (case s2 => exact HC0_2.out); (case s3 => exact au4_10); (case s4 => exact HC1_2.out); rintro e w18 ⟨rfl, hb⟩; refine ⟨_, rfl, ?_⟩; replace BK532 := bb_ BK532 hb; replace BK533 := bb_ BK533 hb; replace HB := hs_ w hb; (try clear hb)))
  go_ret
  exact ⟨au4_1, bl_⟩
 obtain rfl := Option.some.inj H
 go_enter Tryd.func57, Tryd.ntmps57
 go_wp2_with (first | ((with_reducible refine gate_dst (N := 2) rfl ?_); refine be_ 2 #[.int .i64 a0_0, .int .i64 a0_1, .slice A0_2 l0_2.length c0_2] 83 ?_; intro gb532 hg w7 hbox hb; have BK532 := am_ (hbox); have GW532 := am_ (gw_ hg bl_); have GE532 := GW532; replace HB := hs_ w hb; clear hb hbox hg) | ((with_reducible refine gate_dst (N := 3) rfl ?_); refine be_ 3 #[.int .i64 a1_0, .int .i64 a1_1, .slice A1_2 l1_2.length c1_2] 83 ?_; intro gb533 hg w8 hbox hb; have BK533 := am_ (hbox); have GW533 := am_ (gw_ hg bl_); have GE533 := GW533; replace HB := hs_ w hb; have NB532_533 := am_ (gn_ hg (blkl_ BK532)); have NB533_532 := am_ (gm_ hg (blkl_ BK532)); replace BK532 := bb_ BK532 hb; clear hb hbox hg; have hnb9 := NB532_533.out; have hnc9 := NB533_532.out; obtain ⟨hcz10_0, hcz10_1, hcz10_2, hfz10_0, hfz10_1, hfz10_2⟩ := cellsF3 BK532.out; obtain ⟨hcz11_0, hcz11_1, hcz11_2, hfz11_0, hfz11_1, hfz11_2⟩ := cellsF3 BK533.out) | ((with_reducible refine gate_callee (f := 90) rfl ?_); refine gl_ 19 Tryd.func90 #[.slice A0_2 l0_2.length c0_2, .slice A1_2 l1_2.length c1_2] ?_ rfl rfl rfl rfl; (with_reducible refine (F90.calls k _ _ l0_2 _ _ l1_2 true _ ?s1 ?s2 ?s3 ?s4 A5.out).mono ?_); (case s1 => exact au4_9); (case s2 => exact HC0_2.out); (case s3 => exact au4_10); (case s4 => exact HC1_2.out); rintro e w12 ⟨rfl, hb⟩; refine ⟨_, rfl, ?_⟩; replace BK532 := bb_ BK532 hb; replace BK533 := bb_ BK533 hb; replace HB := hs_ w hb; (try clear hb)))
 go_ret
 exact ⟨au4_1, bl_⟩
/-! ### F28: function 28 -/
def F28.l0 : Nat → List (S83) → List (S83) → Int → Option (Bool)
  | 0, _, _, _ => none
  | k + 1, x0, x1, x5 => if x5 < (x0.length : Int) then (if 0 ≤ x5 then (if x5 < (x1.length : Int) then ((F57.f k ((rd_T83 x0 x5).f0) ((rd_T83 x0 x5).f1) ((rd_T83 x0 x5).f2) ((rd_T83 x1 x5).f0) ((rd_T83 x1 x5).f1) ((rd_T83 x1 x5).f2)).bind fun t537 => (if t537 = true then (F28.l0 k x0 x1 (wrap64 (x5 + 1))) else (some false))) else (none)) else (none)) else (some true)
def F28.f (k : Nat) (l0 : List (S83)) (l1 : List (S83)) : Option (Bool) := if (l0.length : Int) = (l1.length : Int) then (F28.l0 k l0 l1 0) else (some false)
theorem F28.mono_l : ∀ k, (∀ y0 y1 y2, LeO (F28.l0 k y0 y1 y2) (F28.l0 (k + 1) y0 y1 y2))
 | 0 => fun _ _ _ r h => by simp [F28.l0] at h
 | k + 1 => by
  have ih0 := F28.mono_l k
  intro y0 y1 y2
  unfold F28.l0
  repeat' with_reducible first | exact ih0 _ _ _ | exact F57.mono _ _ _ _ _ _ _ | exact LeO.refl _ | exact LeO.none _ | refine LeO.ite ?_ ?_ | refine LeO.bind ?_ (fun _ => ?_)
theorem F28.mono : ∀ a0 a1 k, LeO (F28.f k a0 a1) (F28.f (k + 1) a0 a1) := by
 intro a0 a1 k
 have ih0 := F28.mono_l k
 unfold F28.f
 repeat' with_reducible first | exact ih0 _ _ _ | exact F57.mono _ _ _ _ _ _ _ | exact LeO.refl _ | exact LeO.none _ | refine LeO.ite ?_ ?_ | refine LeO.bind ?_ (fun _ => ?_)
def F28.T6 : Bool × List (List Nat × List Nat) := (true, [([], []), ([], []), ([0, 1], [0, 1]), ([2], [2]), ([], []), ([], []), ([4, 5], [4, 5]), ([6], [6]), ([3, 7], [3, 7]), ([8], [8])])
def F28.B6 : List Nat := [0, 0, 3, 7, 0, 0, 48, 112, 255, 511]
theorem F28.tab6 : rtab .any (opsOf Tryd.f28 6) = F28.T6 := by kernel_rfl
theorem F28.bits6 : waitsOk F28.T6.2 F28.B6 = true := by kernel_rfl
theorem F28.calls (k : Nat) (A0 : Option Addr) (c0 : Nat) (l0 : List (S83)) (A1 : Option Addr) (c1 : Nat) (l1 : List (S83)) (r : Bool) (w : World) (hr0 : Kd.C k83 w A0 l0.length l0) (hc0 : l0.length ≤ c0) (hr1 : Kd.C k83 w A1 l1.length l1) (hc1 : l1.length ≤ c1) (h : F28.f k l0 l1 = some r) :
  Calls Tryd.prog 28 #[.slice A0 l0.length c0, .slice A1 l1.length c1] w fun e w' => e = .returned (.bool r) ∧ Below w.heap.size w w' := by
 have hu83 := Tryd.underlying83
 have HR0 := am_ hr0
 have HC0 := am_ hc0
 clear hr0 hc0
 have HR1 := am_ hr1
 have HC1 := am_ hc1
 clear hr1 hc1
 have HB := am_ (Below.refl w.heap.size w)
 have H : (if (l0.length : Int) = (l1.length : Int) then (F28.l0 k l0 l1 0) else (some false)) = some r := h
 clear h
 by_cases c3 : (l0.length : Int) = (l1.length : Int)
 rotate_left
 ·rw [if_neg c3] at H
  have c3b0 : ((l0.length : Int) == (l1.length : Int)) = false := beq_eq_false_iff_ne.mpr c3
  have c3b1 : ((l0.length : Int) != (l1.length : Int)) = true := bne_iff_ne.mpr c3
  have c3b2 : (l0.length == l1.length) = false := by first | simpa using c3 | (simp at c3 ⊢; omega)
  obtain rfl := Option.some.inj H
  go_enter Tryd.func28, Tryd.ntmps28
  go_wp2
  go_ret
  exact ⟨au4_1, bl_⟩

 rw [if_pos c3] at H
 have c3b0 : ((l0.length : Int) == (l1.length : Int)) = true := beq_iff_eq.mpr c3
 have c3b1 : ((l0.length : Int) != (l1.length : Int)) = false := bne_eq_false_iff_eq.mpr c3
 have c3b2 : (l0.length == l1.length) = true := by first | simpa using c3 | (simp at c3 ⊢; omega)
 clear c3
 have H' := am_ H
 clear H
 go_enter Tryd.func28, Tryd.ntmps28
 go_wp2
 go_loopg [5] k (fun kq v5 w' => ∃ (x5_1 : Int), v5 = .int .i64 x5_1 ∧ Aside0 (F28.l0 kq l0 l1 x5_1 = some r) ∧ Aside0 (kq ≤ k) ∧ Aside0 (Below w.heap.size w w'))
 case atStart => exact ⟨(0), er_, H', ⟨Nat.le_refl _⟩, ⟨bl_⟩⟩
 case round =>
  clear H'
  try clear c1
  try clear c3
  try clear c3b0
  try clear c3b1
  try clear c3b2
  obtain ⟨x5_1, rfl, HA, HK1, HB⟩ := hrel
  cases gk with
  | zero => exact absurd HA.out (by simp [F28.l0])
  | succ k1 =>
   have H := HA.out
   clear HA
   simp only [F28.l0] at H
   replace H := it_ H; rcases H with ⟨c4b0, H⟩ | ⟨c4b0, H⟩
   rotate_left
   ·obtain rfl := Option.some.inj H
    go_wp2
    go_ret
    exact ⟨au4_1, bl_⟩
   replace H := itn_ H; rcases H with ⟨c5b0, H⟩
   replace H := itn_ H; rcases H with ⟨c6b0, H⟩
   replace H := bi_ H; rcases H with ⟨t537, A7, H⟩
   replace H := ib_ H; rcases H with ⟨rfl, H⟩ | ⟨rfl, H⟩
   rotate_left
   ·obtain rfl := Option.some.inj H
    try go_wp2
    replace HB := am_ (below_drew1 HB.out)
    have p535 : 0 ≤ (x5_1 : Int) := od_
    have q535 : x5_1 < (l0.length : Int) := od_
    obtain ⟨ad535, A535_2, c535_2, e535, hx535_0, hx535_1, hx535_2, hl535_2, hi535_2⟩ := at_T83 HR0.out x5_1 p535 q535
    have hw535_2 := hx535_2
    have hw535_1 := hx535_1
    have hw535_0 := hx535_0
    cases e535
    replace hx535_0 := (HB.out.cell (World.block_lt_of_cell? _ _ hx535_0)).trans hx535_0
    replace hx535_1 := (HB.out.cell (World.block_lt_of_cell? _ _ hx535_1)).trans hx535_1
    replace hx535_2 := (HB.out.cell (World.block_lt_of_cell? _ _ hx535_2)).trans hx535_2
    have HR535_2 := am_ hi535_2
    have HC535_2 := am_ hl535_2
    clear hi535_2 hl535_2
    replace p535 := eq_true p535
    replace q535 := eq_true q535
    have p536 : 0 ≤ (x5_1 : Int) := od_
    have q536 : x5_1 < (l1.length : Int) := od_
    obtain ⟨ad536, A536_2, c536_2, e536, hx536_0, hx536_1, hx536_2, hl536_2, hi536_2⟩ := at_T83 HR1.out x5_1 p536 q536
    have hw536_2 := hx536_2
    have hw536_1 := hx536_1
    have hw536_0 := hx536_0
    cases e536
    replace hx536_0 := (HB.out.cell (World.block_lt_of_cell? _ _ hx536_0)).trans hx536_0
    replace hx536_1 := (HB.out.cell (World.block_lt_of_cell? _ _ hx536_1)).trans hx536_1
    replace hx536_2 := (HB.out.cell (World.block_lt_of_cell? _ _ hx536_2)).trans hx536_2
    have HR536_2 := am_ hi536_2
    have HC536_2 := am_ hl536_2
    clear hi536_2 hl536_2
    replace p536 := eq_true p536
    replace q536 := eq_true q536
    refine start_ (n := 10) (S := fun w' => w'.cell? (ad535.add ((x5_1).toNat * 3)) = some (.int .i64 ((rd_T83 l0 x5_1).f0)) ∧ w'.cell? ⟨(ad535.add ((x5_1).toNat * 3)).block, (ad535.add ((x5_1).toNat * 3)).off + 1, none⟩ = some (.int .i64 ((rd_T83 l0 x5_1).f1)) ∧ w'.cell? ⟨(ad535.add ((x5_1).toNat * 3)).block, (ad535.add ((x5_1).toNat * 3)).off + 2, none⟩ = some (.slice A535_2 ((rd_T83 l0 x5_1).f2).length c535_2) ∧ w'.cell? (ad536.add ((x5_1).toNat * 3)) = some (.int .i64 ((rd_T83 l1 x5_1).f0)) ∧ w'.cell? ⟨(ad536.add ((x5_1).toNat * 3)).block, (ad536.add ((x5_1).toNat * 3)).off + 1, none⟩ = some (.int .i64 ((rd_T83 l1 x5_1).f1)) ∧ w'.cell? ⟨(ad536.add ((x5_1).toNat * 3)).block, (ad536.add ((x5_1).toNat * 3)).off + 2, none⟩ = some (.slice A536_2 ((rd_T83 l1 x5_1).f2).length c536_2)) (ds := []) (bs 10 0) (by kernel_rfl) rfl rfl ⟨((HB.out.cell (World.block_lt_of_cell? _ _ hw535_0)).trans hw535_0), ((HB.out.cell (World.block_lt_of_cell? _ _ hw535_1)).trans hw535_1), ((HB.out.cell (World.block_lt_of_cell? _ _ hw535_2)).trans hw535_2), ((HB.out.cell (World.block_lt_of_cell? _ _ hw536_0)).trans hw536_0), ((HB.out.cell (World.block_lt_of_cell? _ _ hw536_1)).trans hw536_1), ((HB.out.cell (World.block_lt_of_cell? _ _ hw536_2)).trans hw536_2)⟩ (fun hHeld => ?_); refine with_tabW F28.tab6 F28.bits6 (fun HT_ HW_ => ?_)
    generalize wr.drew = w11 at HB HR535_2 HR536_2 hx535_0 hx535_1 hx535_2 hx536_0 hx536_1 hx536_2 hHeld ⊢
    refine pu_ 0 17 (bs 10 1) HT_ ?_ rfl rfl
    refine pu_ 1 18 (bs 10 3) HT_ ?_ rfl rfl
    refine pu_ 2 19 (bs 10 7) HT_ ?_ rfl rfl
    refine pu_ 4 21 (bs 10 23) HT_ ?_ rfl rfl
    refine pu_ 5 22 (bs 10 55) HT_ ?_ rfl rfl
    refine pu_ 6 23 (bs 10 119) HT_ ?_ rfl rfl
    refine tk_ 3 20 (bs 10 127) HT_ HW_ hHeld au4_6 ?_ rfl rfl
    refine tk_ 7 24 (bs 10 255) HT_ HW_ hHeld au4_6 ?_ rfl rfl
    refine one_ (i := 8) (N := some 25) (bs 10 511) rfl rfl (one_of HT_.out (by kernel_rfl)) (by decide) (fun K hK => ?_)
    refine gr_ Tryd.func57 #[.agg #[.int .i64 ((rd_T83 l0 x5_1).f0), .int .i64 ((rd_T83 l0 x5_1).f1), .slice A535_2 ((rd_T83 l0 x5_1).f2).length c535_2], .agg #[.int .i64 ((rd_T83 l1 x5_1).f0), .int .i64 ((rd_T83 l1 x5_1).f1), .slice A536_2 ((rd_T83 l1 x5_1).f2).length c536_2]] (by rfl) ?_ rfl rfl rfl
    with_reducible refine (F57.calls k1 ((rd_T83 l0 x5_1).f0) ((rd_T83 l0 x5_1).f1) _ _ ((rd_T83 l0 x5_1).f2) ((rd_T83 l1 x5_1).f0) ((rd_T83 l1 x5_1).f1) _ _ ((rd_T83 l1 x5_1).f2) false _ ?s1 ?s2 ?s3 ?s4 A7.out).mono ?_
    (case s1 => exact au4_7)
    (case s2 => exact HC535_2.out)
    (case s3 => exact au4_8)
    (case s4 => exact HC536_2.out)
    rintro e w12 ⟨rfl, hb⟩
    refine ⟨_, rfl, ?_⟩
    replace HB := hs_ w hb
    (try clear hb)
    (try clear hb2)
    (try clear hk)
    (try clear hi)
    refine hK.out _ _ ⟨((HB.out.cell (World.block_lt_of_cell? _ _ hw535_0)).trans hw535_0), ((HB.out.cell (World.block_lt_of_cell? _ _ hw535_1)).trans hw535_1), ((HB.out.cell (World.block_lt_of_cell? _ _ hw535_2)).trans hw535_2), ((HB.out.cell (World.block_lt_of_cell? _ _ hw536_0)).trans hw536_0), ((HB.out.cell (World.block_lt_of_cell? _ _ hw536_1)).trans hw536_1), ((HB.out.cell (World.block_lt_of_cell? _ _ hw536_2)).trans hw536_2)⟩ (fun hHeld => ?_)
    clear hK K
    refine no_ 25 ?_
    refine pu_ 9 26 (bs 10 1023) HT_ ?_ rfl rfl
    refine done_ (done_of HT_.out (by kernel_rfl)) ?_
    try go_wp2
    go_ret
    exact ⟨au4_1, bl_⟩
   have H' := am_ H
   clear H
   try go_wp2
   replace HB := am_ (below_drew1 HB.out)
   have p535 : 0 ≤ (x5_1 : Int) := od_
   have q535 : x5_1 < (l0.length : Int) := od_
   obtain ⟨ad535, A535_2, c535_2, e535, hx535_0, hx535_1, hx535_2, hl535_2, hi535_2⟩ := at_T83 HR0.out x5_1 p535 q535
   have hw535_2 := hx535_2
   have hw535_1 := hx535_1
   have hw535_0 := hx535_0
   cases e535
   replace hx535_0 := (HB.out.cell (World.block_lt_of_cell? _ _ hx535_0)).trans hx535_0
   replace hx535_1 := (HB.out.cell (World.block_lt_of_cell? _ _ hx535_1)).trans hx535_1
   replace hx535_2 := (HB.out.cell (World.block_lt_of_cell? _ _ hx535_2)).trans hx535_2
   have HR535_2 := am_ hi535_2
   have HC535_2 := am_ hl535_2
   clear hi535_2 hl535_2
   replace p535 := eq_true p535
   replace q535 := eq_true q535
   have p536 : 0 ≤ (x5_1 : Int) := od_
   have q536 : x5_1 < (l1.length : Int) := od_
   obtain ⟨ad536, A536_2, c536_2, e536, hx536_0, hx536_1, hx536_2, hl536_2, hi536_2⟩ := at_T83 HR1.out x5_1 p536 q536
   have hw536_2 := hx536_2
   have hw536_1 := hx536_1
   have hw536_0 := hx536_0
   cases e536
   replace hx536_0 := (HB.out.cell (World.block_lt_of_cell? _ _ hx536_0)).trans hx536_0
   replace hx536_1 := (HB.out.cell (World.block_lt_of_cell? _ _ hx536_1)).trans hx536_1
   replace hx536_2 := (HB.out.cell (World.block_lt_of_cell? _ _ hx536_2)).trans hx536_2
   have HR536_2 := am_ hi536_2
   have HC536_2 := am_ hl536_2
   clear hi536_2 hl536_2
   replace p536 := eq_true p536
   replace q536 := eq_true q536
   refine start_ (n := 10) (S := fun w' => w'.cell? (ad535.add ((x5_1).toNat * 3)) = some (.int .i64 ((rd_T83 l0 x5_1).f0)) ∧ w'.cell? ⟨(ad535.add ((x5_1).toNat * 3)).block, (ad535.add ((x5_1).toNat * 3)).off + 1, none⟩ = some (.int .i64 ((rd_T83 l0 x5_1).f1)) ∧ w'.cell? ⟨(ad535.add ((x5_1).toNat * 3)).block, (ad535.add ((x5_1).toNat * 3)).off + 2, none⟩ = some (.slice A535_2 ((rd_T83 l0 x5_1).f2).length c535_2) ∧ w'.cell? (ad536.add ((x5_1).toNat * 3)) = some (.int .i64 ((rd_T83 l1 x5_1).f0)) ∧ w'.cell? ⟨(ad536.add ((x5_1).toNat * 3)).block, (ad536.add ((x5_1).toNat * 3)).off + 1, none⟩ = some (.int .i64 ((rd_T83 l1 x5_1).f1)) ∧ w'.cell? ⟨(ad536.add ((x5_1).toNat * 3)).block, (ad536.add ((x5_1).toNat * 3)).off + 2, none⟩ = some (.slice A536_2 ((rd_T83 l1 x5_1).f2).length c536_2)) (ds := []) (bs 10 0) (by kernel_rfl) rfl rfl ⟨((HB.out.cell (World.block_lt_of_cell? _ _ hw535_0)).trans hw535_0), ((HB.out.cell (World.block_lt_of_cell? _ _ hw535_1)).trans hw535_1), ((HB.out.cell (World.block_lt_of_cell? _ _ hw535_2)).trans hw535_2), ((HB.out.cell (World.block_lt_of_cell? _ _ hw536_0)).trans hw536_0), ((HB.out.cell (World.block_lt_of_cell? _ _ hw536_1)).trans hw536_1), ((HB.out.cell (World.block_lt_of_cell? _ _ hw536_2)).trans hw536_2)⟩ (fun hHeld => ?_); refine with_tabW F28.tab6 F28.bits6 (fun HT_ HW_ => ?_)
   generalize wr.drew = w9 at HB HR535_2 HR536_2 hx535_0 hx535_1 hx535_2 hx536_0 hx536_1 hx536_2 hHeld ⊢
   refine pu_ 0 17 (bs 10 1) HT_ ?_ rfl rfl
   refine pu_ 1 18 (bs 10 3) HT_ ?_ rfl rfl
   refine pu_ 2 19 (bs 10 7) HT_ ?_ rfl rfl
   refine pu_ 4 21 (bs 10 23) HT_ ?_ rfl rfl
   refine pu_ 5 22 (bs 10 55) HT_ ?_ rfl rfl
   refine pu_ 6 23 (bs 10 119) HT_ ?_ rfl rfl
   refine tk_ 3 20 (bs 10 127) HT_ HW_ hHeld au4_6 ?_ rfl rfl
   refine tk_ 7 24 (bs 10 255) HT_ HW_ hHeld au4_6 ?_ rfl rfl
   refine one_ (i := 8) (N := some 25) (bs 10 511) rfl rfl (one_of HT_.out (by kernel_rfl)) (by decide) (fun K hK => ?_)
   refine gr_ Tryd.func57 #[.agg #[.int .i64 ((rd_T83 l0 x5_1).f0), .int .i64 ((rd_T83 l0 x5_1).f1), .slice A535_2 ((rd_T83 l0 x5_1).f2).length c535_2], .agg #[.int .i64 ((rd_T83 l1 x5_1).f0), .int .i64 ((rd_T83 l1 x5_1).f1), .slice A536_2 ((rd_T83 l1 x5_1).f2).length c536_2]] (by rfl) ?_ rfl rfl rfl
   with_reducible refine (F57.calls k1 ((rd_T83 l0 x5_1).f0) ((rd_T83 l0 x5_1).f1) _ _ ((rd_T83 l0 x5_1).f2) ((rd_T83 l1 x5_1).f0) ((rd_T83 l1 x5_1).f1) _ _ ((rd_T83 l1 x5_1).f2) true _ ?s1 ?s2 ?s3 ?s4 A7.out).mono ?_
   (case s1 => exact au4_7)
   (case s2 => exact HC535_2.out)
   (case s3 => exact au4_8)
   (case s4 => exact HC536_2.out)
   rintro e w10 ⟨rfl, hb⟩
   refine ⟨_, rfl, ?_⟩
   replace HB := hs_ w hb
   (try clear hb)
   (try clear hb2)
   (try clear hk)
   (try clear hi)
   refine hK.out _ _ ⟨((HB.out.cell (World.block_lt_of_cell? _ _ hw535_0)).trans hw535_0), ((HB.out.cell (World.block_lt_of_cell? _ _ hw535_1)).trans hw535_1), ((HB.out.cell (World.block_lt_of_cell? _ _ hw535_2)).trans hw535_2), ((HB.out.cell (World.block_lt_of_cell? _ _ hw536_0)).trans hw536_0), ((HB.out.cell (World.block_lt_of_cell? _ _ hw536_1)).trans hw536_1), ((HB.out.cell (World.block_lt_of_cell? _ _ hw536_2)).trans hw536_2)⟩ (fun hHeld => ?_)
   clear hK K
   refine no_ 25 ?_
   refine pu_ 9 26 (bs 10 1023) HT_ ?_ rfl rfl
   refine done_ (done_of HT_.out (by kernel_rfl)) ?_
   try go_wp2
   go_roundg k1
   case measure => have := HK1.out; omega
   case rel => exact ⟨(wrap64 (x5_1 + 1)), er_, H', ⟨by have := HK1.out; omega⟩, ⟨bl_⟩⟩
/-! ### F10: function 10 -/
def F10.f (k : Nat) (a0_0 : ByteArray) (a0_1 : ByteArray) (a0_2 : Int) (l0_3 : List (S83)) (a1_0 : ByteArray) (a1_1 : ByteArray) (a1_2 : Int) (l1_3 : List (S83)) : Option (Bool) := if a0_0.toList = a1_0.toList then (if a0_1.toList = a1_1.toList then (if a0_2 = a1_2 then ((F28.f k l0_3 l1_3).bind fun t540 => (if t540 = true then (some true) else (some false))) else (some false)) else (some false)) else (some false)
theorem F10.mono : ∀ a0 a1 a2 a3 a4 a5 a6 a7 k, LeO (F10.f k a0 a1 a2 a3 a4 a5 a6 a7) (F10.f (k + 1) a0 a1 a2 a3 a4 a5 a6 a7) := by
 intro a0 a1 a2 a3 a4 a5 a6 a7 k
 unfold F10.f
 repeat' with_reducible first | exact F28.mono _ _ _ | exact LeO.refl _ | exact LeO.none _ | refine LeO.ite ?_ ?_ | refine LeO.bind ?_ (fun _ => ?_)
theorem F10.calls (k : Nat) (a0_0 : ByteArray) (a0_1 : ByteArray) (a0_2 : Int) (A0_3 : Option Addr) (c0_3 : Nat) (l0_3 : List (S83)) (a1_0 : ByteArray) (a1_1 : ByteArray) (a1_2 : Int) (A1_3 : Option Addr) (c1_3 : Nat) (l1_3 : List (S83)) (r : Bool) (w : World) (hr0_3 : Kd.C k83 w A0_3 l0_3.length l0_3) (hc0_3 : l0_3.length ≤ c0_3) (hr1_3 : Kd.C k83 w A1_3 l1_3.length l1_3) (hc1_3 : l1_3.length ≤ c1_3) (h : F10.f k a0_0 a0_1 a0_2 l0_3 a1_0 a1_1 a1_2 l1_3 = some r) :
  Calls Tryd.prog 10 #[.agg #[.string a0_0, .string a0_1, .int .i64 a0_2, .slice A0_3 l0_3.length c0_3], .agg #[.string a1_0, .string a1_1, .int .i64 a1_2, .slice A1_3 l1_3.length c1_3]] w fun e w' => e = .returned (.bool r) ∧ Below w.heap.size w w' := by
 have hu29 := Tryd.underlying29
 have HR0_3 := am_ hr0_3
 have HC0_3 := am_ hc0_3
 clear hr0_3 hc0_3
 have HR1_3 := am_ hr1_3
 have HC1_3 := am_ hc1_3
 clear hr1_3 hc1_3
 have HB := am_ (Below.refl w.heap.size w)
 have H : (if a0_0.toList = a1_0.toList then (if a0_1.toList = a1_1.toList then (if a0_2 = a1_2 then ((F28.f k l0_3 l1_3).bind fun t540 => (if t540 = true then (some true) else (some false))) else (some false)) else (some false)) else (some false)) = some r := h
 clear h
 by_cases c3 : a0_0.toList = a1_0.toList
 rotate_left
 ·rw [if_neg c3] at H
  have c3b0 : (a0_0.toList == a1_0.toList) = false := beq_eq_false_iff_ne.mpr c3
  have c3b1 : (a0_0.toList != a1_0.toList) = true := bne_iff_ne.mpr c3
  obtain rfl := Option.some.inj H
  go_enter Tryd.func10, Tryd.ntmps10
  go_wp2_with (first | ((with_reducible refine gate_dst (N := 2) rfl ?_); refine be_ 2 #[.string a0_0, .string a0_1, .int .i64 a0_2, .slice A0_3 l0_3.length c0_3] 29 ?_; intro gb538 hg w30 hbox hb; have BK538 := am_ (hbox); have GW538 := am_ (gw_ hg bl_); have GE538 := GW538; replace HB := hs_ w hb; clear hb hbox hg) | ((with_reducible refine gate_dst (N := 3) rfl ?_); refine be_ 3 #[.string a1_0, .string a1_1, .int .i64 a1_2, .slice A1_3 l1_3.length c1_3] 29 ?_; intro gb539 hg w31 hbox hb; have BK539 := am_ (hbox); have GW539 := am_ (gw_ hg bl_); have GE539 := GW539; replace HB := hs_ w hb; have NB538_539 := am_ (gn_ hg (blkl_ BK538)); have NB539_538 := am_ (gm_ hg (blkl_ BK538)); replace BK538 := bb_ BK538 hb; clear hb hbox hg; have hnb32 := NB538_539.out; have hnc32 := NB539_538.out; obtain ⟨hcz33_0, hcz33_1, hcz33_2, hcz33_3, hfz33_0, hfz33_1, hfz33_2, hfz33_3⟩ := cellsF4 BK538.out; obtain ⟨hcz34_0, hcz34_1, hcz34_2, hcz34_3, hfz34_0, hfz34_1, hfz34_2, hfz34_3⟩ := cellsF4 BK539.out))
  go_ret
  exact ⟨au4_1, bl_⟩

 rw [if_pos c3] at H
 have c3b0 : (a0_0.toList == a1_0.toList) = true := beq_iff_eq.mpr c3
 have c3b1 : (a0_0.toList != a1_0.toList) = false := bne_eq_false_iff_eq.mpr c3
 clear c3
 by_cases c4 : a0_1.toList = a1_1.toList
 rotate_left
 ·rw [if_neg c4] at H
  have c4b0 : (a0_1.toList == a1_1.toList) = false := beq_eq_false_iff_ne.mpr c4
  have c4b1 : (a0_1.toList != a1_1.toList) = true := bne_iff_ne.mpr c4
  obtain rfl := Option.some.inj H
  go_enter Tryd.func10, Tryd.ntmps10
  go_wp2_with (first | ((with_reducible refine gate_dst (N := 2) rfl ?_); refine be_ 2 #[.string a0_0, .string a0_1, .int .i64 a0_2, .slice A0_3 l0_3.length c0_3] 29 ?_; intro gb538 hg w25 hbox hb; have BK538 := am_ (hbox); have GW538 := am_ (gw_ hg bl_); have GE538 := GW538; replace HB := hs_ w hb; clear hb hbox hg) | ((with_reducible refine gate_dst (N := 3) rfl ?_); refine be_ 3 #[.string a1_0, .string a1_1, .int .i64 a1_2, .slice A1_3 l1_3.length c1_3] 29 ?_; intro gb539 hg w26 hbox hb; have BK539 := am_ (hbox); have GW539 := am_ (gw_ hg bl_); have GE539 := GW539; replace HB := hs_ w hb; have NB538_539 := am_ (gn_ hg (blkl_ BK538)); have NB539_538 := am_ (gm_ hg (blkl_ BK538)); replace BK538 := bb_ BK538 hb; clear hb hbox hg; have hnb27 := NB538_539.out; have hnc27 := NB539_538.out; obtain ⟨hcz28_0, hcz28_1, hcz28_2, hcz28_3, hfz28_0, hfz28_1, hfz28_2, hfz28_3⟩ := cellsF4 BK538.out; obtain ⟨hcz29_0, hcz29_1, hcz29_2, hcz29_3, hfz29_0, hfz29_1, hfz29_2, hfz29_3⟩ := cellsF4 BK539.out))
  go_ret
  exact ⟨au4_1, bl_⟩
 rw [if_pos c4] at H
 have c4b0 : (a0_1.toList == a1_1.toList) = true := beq_iff_eq.mpr c4
 have c4b1 : (a0_1.toList != a1_1.toList) = false := bne_eq_false_iff_eq.mpr c4
 clear c4
 by_cases c5 : a0_2 = a1_2
 rotate_left
 ·rw [if_neg c5] at H
  have c5b0 : (a0_2 == a1_2) = false := beq_eq_false_iff_ne.mpr c5
  have c5b1 : (a0_2 != a1_2) = true := bne_iff_ne.mpr c5
  obtain rfl := Option.some.inj H
  go_enter Tryd.func10, Tryd.ntmps10
  go_wp2_with (first | ((with_reducible refine gate_dst (N := 2) rfl ?_); refine be_ 2 #[.string a0_0, .string a0_1, .int .i64 a0_2, .slice A0_3 l0_3.length c0_3] 29 ?_; intro gb538 hg w20 hbox hb; have BK538 := am_ (hbox); have GW538 := am_ (gw_ hg bl_); have GE538 := GW538; replace HB := hs_ w hb; clear hb hbox hg) | ((with_reducible refine gate_dst (N := 3) rfl ?_); refine be_ 3 #[.string a1_0, .string a1_1, .int .i64 a1_2, .slice A1_3 l1_3.length c1_3] 29 ?_; intro gb539 hg w21 hbox hb; have BK539 := am_ (hbox); have GW539 := am_ (gw_ hg bl_); have GE539 := GW539; replace HB := hs_ w hb; have NB538_539 := am_ (gn_ hg (blkl_ BK538)); have NB539_538 := am_ (gm_ hg (blkl_ BK538)); replace BK538 := bb_ BK538 hb; clear hb hbox hg; have hnb22 := NB538_539.out; have hnc22 := NB539_538.out; obtain ⟨hcz23_0, hcz23_1, hcz23_2, hcz23_3, hfz23_0, hfz23_1, hfz23_2, hfz23_3⟩ := cellsF4 BK538.out; obtain ⟨hcz24_0, hcz24_1, hcz24_2, hcz24_3, hfz24_0, hfz24_1, hfz24_2, hfz24_3⟩ := cellsF4 BK539.out))
  go_ret
  exact ⟨au4_1, bl_⟩
 rw [if_pos c5] at H
 have c5b0 : (a0_2 == a1_2) = true := beq_iff_eq.mpr c5
 have c5b1 : (a0_2 != a1_2) = false := bne_eq_false_iff_eq.mpr c5
 clear c5
 replace H := bi_ H; rcases H with ⟨t540, A6, H⟩
 replace H := ib_ H; rcases H with ⟨rfl, H⟩ | ⟨rfl, H⟩
 rotate_left
 ·obtain rfl := Option.some.inj H
  go_enter Tryd.func10, Tryd.ntmps10
  go_wp2_with (first | ((with_reducible refine gate_dst (N := 2) rfl ?_); refine be_ 2 #[.string a0_0, .string a0_1, .int .i64 a0_2, .slice A0_3 l0_3.length c0_3] 29 ?_; intro gb538 hg w14 hbox hb; have BK538 := am_ (hbox); have GW538 := am_ (gw_ hg bl_); have GE538 := GW538; replace HB := hs_ w hb; clear hb hbox hg) | ((with_reducible refine gate_dst (N := 3) rfl ?_); refine be_ 3 #[.string a1_0, .string a1_1, .int .i64 a1_2, .slice A1_3 l1_3.length c1_3] 29 ?_; intro gb539 hg w15 hbox hb; have BK539 := am_ (hbox); have GW539 := am_ (gw_ hg bl_); have GE539 := GW539; replace HB := hs_ w hb; have NB538_539 := am_ (gn_ hg (blkl_ BK538)); have NB539_538 := am_ (gm_ hg (blkl_ BK538)); replace BK538 := bb_ BK538 hb; clear hb hbox hg; have hnb16 := NB538_539.out; have hnc16 := NB539_538.out; obtain ⟨hcz17_0, hcz17_1, hcz17_2, hcz17_3, hfz17_0, hfz17_1, hfz17_2, hfz17_3⟩ := cellsF4 BK538.out; obtain ⟨hcz18_0, hcz18_1, hcz18_2, hcz18_3, hfz18_0, hfz18_1, hfz18_2, hfz18_3⟩ := cellsF4 BK539.out) | ((with_reducible refine gate_callee (f := 28) rfl ?_); refine gl_ 24 Tryd.func28 #[.slice A0_3 l0_3.length c0_3, .slice A1_3 l1_3.length c1_3] ?_ rfl rfl rfl rfl; (with_reducible refine (F28.calls k _ _ l0_3 _ _ l1_3 false _ ?s1 ?s2 ?s3 ?s4 A6.out).mono ?_); (case s1 => exact au4_0); (case s2 => exact HC0_3.out); (case s3 => exact au4_11); (case s4 => exact HC1_3.out); rintro e w19 ⟨rfl, hb⟩; refine ⟨_, rfl, ?_⟩; replace BK538 := bb_ BK538 hb; replace BK539 := bb_ BK539 hb; replace HB := hs_ w hb; (try clear hb)))
  go_ret
  exact ⟨au4_1, bl_⟩
 obtain rfl := Option.some.inj H
 go_enter Tryd.func10, Tryd.ntmps10
 go_wp2_with (first | ((with_reducible refine gate_dst (N := 2) rfl ?_); refine be_ 2 #[.string a0_0, .string a0_1, .int .i64 a0_2, .slice A0_3 l0_3.length c0_3] 29 ?_; intro gb538 hg w8 hbox hb; have BK538 := am_ (hbox); have GW538 := am_ (gw_ hg bl_); have GE538 := GW538; replace HB := hs_ w hb; clear hb hbox hg) | ((with_reducible refine gate_dst (N := 3) rfl ?_); refine be_ 3 #[.string a1_0, .string a1_1, .int .i64 a1_2, .slice A1_3 l1_3.length c1_3] 29 ?_; intro gb539 hg w9 hbox hb; have BK539 := am_ (hbox); have GW539 := am_ (gw_ hg bl_); have GE539 := GW539; replace HB := hs_ w hb; have NB538_539 := am_ (gn_ hg (blkl_ BK538)); have NB539_538 := am_ (gm_ hg (blkl_ BK538)); replace BK538 := bb_ BK538 hb; clear hb hbox hg; have hnb10 := NB538_539.out; have hnc10 := NB539_538.out; obtain ⟨hcz11_0, hcz11_1, hcz11_2, hcz11_3, hfz11_0, hfz11_1, hfz11_2, hfz11_3⟩ := cellsF4 BK538.out; obtain ⟨hcz12_0, hcz12_1, hcz12_2, hcz12_3, hfz12_0, hfz12_1, hfz12_2, hfz12_3⟩ := cellsF4 BK539.out) | ((with_reducible refine gate_callee (f := 28) rfl ?_); refine gl_ 24 Tryd.func28 #[.slice A0_3 l0_3.length c0_3, .slice A1_3 l1_3.length c1_3] ?_ rfl rfl rfl rfl; (with_reducible refine (F28.calls k _ _ l0_3 _ _ l1_3 true _ ?s1 ?s2 ?s3 ?s4 A6.out).mono ?_); (case s1 => exact au4_0); (case s2 => exact HC0_3.out); (case s3 => exact au4_11); (case s4 => exact HC1_3.out); rintro e w13 ⟨rfl, hb⟩; refine ⟨_, rfl, ?_⟩; replace BK538 := bb_ BK538 hb; replace BK539 := bb_ BK539 hb; replace HB := hs_ w hb; (try clear hb)))
 go_ret
 exact ⟨au4_1, bl_⟩
/-! ### F3: function 3 -/
def F3.f (k : Nat) (a0_0 : ByteArray) (a0_1 : ByteArray) (a0_2 : Int) (l0_3 : List (S98)) : Option (Bool) := (F6.f k a0_0 a0_1 a0_2 l0_3 1048576).bind fun t542 => (if t542 < 0 then (some true) else ((F8.f k a0_0 a0_1 a0_2 l0_3).bind fun bt543 => ((F7.f k bt543.1 bt543.2.1 bt543.2.2.1 bt543.2.2.2).bind fun t549 => ((F8.f k a0_0 a0_1 a0_2 l0_3).bind fun bt550 => ((F9.f k bt550.1 bt550.2.1 bt550.2.2.1 bt550.2.2.2).bind fun t557 => (if t557 = t549 then ((F8.f k a0_0 a0_1 a0_2 l0_3).bind fun bt558 => ((F10.f k bt550.1 bt550.2.1 bt550.2.2.1 bt550.2.2.2 bt558.1 bt558.2.1 bt558.2.2.1 bt558.2.2.2).bind fun t564 => (if t564 = true then (some true) else (some false)))) else (some false)))))))
theorem F3.mono : ∀ a0 a1 a2 a3 k, LeO (F3.f k a0 a1 a2 a3) (F3.f (k + 1) a0 a1 a2 a3) := by
 intro a0 a1 a2 a3 k
 unfold F3.f
 repeat' with_reducible first | exact F9.mono _ _ _ _ _ | exact F10.mono _ _ _ _ _ _ _ _ _ | exact F6.mono _ _ _ _ _ _ | exact F8.mono _ _ _ _ _ | exact F7.mono _ _ _ _ _ | exact LeO.refl _ | exact LeO.none _ | refine LeO.ite ?_ ?_ | refine LeO.bind ?_ (fun _ => ?_)
theorem F3.calls (k : Nat) (a0_0 : ByteArray) (a0_1 : ByteArray) (a0_2 : Int) (A0_3 : Option Addr) (c0_3 : Nat) (l0_3 : List (S98)) (r : Bool) (w : World) (hr0_3 : Kd.C k98 w A0_3 l0_3.length l0_3) (hc0_3 : l0_3.length ≤ c0_3) (hT : LaidT false Tryd.prog w) (h : F3.f k a0_0 a0_1 a0_2 l0_3 = some r) :
  Calls Tryd.prog 3 #[.agg #[.string a0_0, .string a0_1, .int .i64 a0_2, .slice A0_3 l0_3.length c0_3]] w fun e w' => e = .returned (.bool r) ∧ Below w.heap.size w w' := by
 have hu24 := Tryd.underlying24
 have hu29 := Tryd.underlying29
 have HR0_3 := am_ hr0_3
 have HC0_3 := am_ hc0_3
 clear hr0_3 hc0_3
 have HZT := am_ hT
 clear hT
 have HB := am_ (Below.refl w.heap.size w)
 have H : ((F6.f k a0_0 a0_1 a0_2 l0_3 1048576).bind fun t542 => (if t542 < 0 then (some true) else ((F8.f k a0_0 a0_1 a0_2 l0_3).bind fun bt543 => ((F7.f k bt543.1 bt543.2.1 bt543.2.2.1 bt543.2.2.2).bind fun t549 => ((F8.f k a0_0 a0_1 a0_2 l0_3).bind fun bt550 => ((F9.f k bt550.1 bt550.2.1 bt550.2.2.1 bt550.2.2.2).bind fun t557 => (if t557 = t549 then ((F8.f k a0_0 a0_1 a0_2 l0_3).bind fun bt558 => ((F10.f k bt550.1 bt550.2.1 bt550.2.2.1 bt550.2.2.2 bt558.1 bt558.2.1 bt558.2.2.1 bt558.2.2.2).bind fun t564 => (if t564 = true then (some true) else (some false)))) else (some false)))))))) = some r := h
 clear h
 replace H := bi_ H; rcases H with ⟨t542, A2, H⟩
 replace H := it_ H; rcases H with ⟨c3b0, H⟩ | ⟨c3b0, H⟩
 ·obtain rfl := Option.some.inj H
  go_enter Tryd.func3, Tryd.ntmps3
  go_wp2_with (first | ((with_reducible refine gate_dst (N := 1) rfl ?_); refine be_ 1 #[.string a0_0, .string a0_1, .int .i64 a0_2, .slice A0_3 l0_3.length c0_3] 24 ?_; intro gb541 hg w4 hbox hb; have BK541 := am_ (hbox); have GW541 := am_ (gw_ hg bl_); have GE541 := GW541; replace HB := hs_ w hb; clear hb hbox hg; obtain ⟨hcz5_0, hcz5_1, hcz5_2, hcz5_3, hfz5_0, hfz5_1, hfz5_2, hfz5_3⟩ := cellsF4 BK541.out) | ((with_reducible refine gate_callee (f := 6) rfl ?_); refine gl_ 9 Tryd.func6 #[.agg #[.string a0_0, .string a0_1, .int .i64 a0_2, .slice A0_3 l0_3.length c0_3], .int .i64 1048576] ?_ rfl rfl rfl rfl; (with_reducible refine (F6.calls k a0_0 a0_1 a0_2 _ _ l0_3 1048576 t542 _ ?s1 ?s2 A2.out).mono ?_); (case s1 => exact au4_0); (case s2 => exact HC0_3.out); rintro e w6 ⟨rfl, hb⟩; refine ⟨_, rfl, ?_⟩; replace BK541 := bb_ BK541 hb; replace HB := hs_ w hb; (try clear hb)))
  go_ret
  exact ⟨au4_1, bl_⟩
 replace H := bi_ H; rcases H with ⟨⟨t543, t544, t545, t546⟩, A7, H⟩
 replace H := bi_ H; rcases H with ⟨t549, A8, H⟩
 replace H := bi_ H; rcases H with ⟨⟨t550, t551, t552, t553⟩, A9, H⟩
 replace H := bi_ H; rcases H with ⟨t557, A10, H⟩
 by_cases c11 : t557 = t549
 rotate_left
 ·rw [if_neg c11] at H
  have c11b0 : (t557 == t549) = false := beq_eq_false_iff_ne.mpr c11
  have c11b1 : (t557 != t549) = true := bne_iff_ne.mpr c11
  obtain rfl := Option.some.inj H
  go_enter Tryd.func3, Tryd.ntmps3
  go_wp2_with (first | ((with_reducible refine gate_dst (N := 1) rfl ?_); refine be_ 1 #[.string a0_0, .string a0_1, .int .i64 a0_2, .slice A0_3 l0_3.length c0_3] 24 ?_; intro gb541 hg w51 hbox hb; have BK541 := am_ (hbox); have GW541 := am_ (gw_ hg bl_); have GE541 := GW541; replace HB := hs_ w hb; clear hb hbox hg; obtain ⟨hcz52_0, hcz52_1, hcz52_2, hcz52_3, hfz52_0, hfz52_1, hfz52_2, hfz52_3⟩ := cellsF4 BK541.out) | ((with_reducible refine gate_callee (f := 6) rfl ?_); refine gl_ 9 Tryd.func6 #[.agg #[.string a0_0, .string a0_1, .int .i64 a0_2, .slice A0_3 l0_3.length c0_3], .int .i64 1048576] ?_ rfl rfl rfl rfl; (with_reducible refine (F6.calls k a0_0 a0_1 a0_2 _ _ l0_3 1048576 t542 _ ?s1 ?s2 A2.out).mono ?_); (case s1 => exact au4_0); (case s2 => exact HC0_3.out); rintro e w53 ⟨rfl, hb⟩; refine ⟨_, rfl, ?_⟩; replace BK541 := bb_ BK541 hb; replace HB := hs_ w hb; (try clear hb); obtain ⟨hcz54_0, hcz54_1, hcz54_2, hcz54_3, hfz54_0, hfz54_1, hfz54_2, hfz54_3⟩ := cellsF4 BK541.out) | ((with_reducible refine gate_callee (f := 8) rfl ?_); refine gl_ 13 Tryd.func8 #[.agg #[.string a0_0, .string a0_1, .int .i64 a0_2, .slice A0_3 l0_3.length c0_3]] ?_ rfl rfl rfl rfl; (with_reducible refine (F8.calls k a0_0 a0_1 a0_2 _ _ l0_3 t543 t544 t545 t546 _ ?s1 ?s2 A7.out).mono ?_); (case s1 => exact au4_0); (case s2 => exact HC0_3.out); rintro e w55 ⟨v547, rfl, ho0, hb⟩; refine ⟨_, rfl, ?_⟩; have HO548 := am_ (Kd.R_lower ho0 (below_size bl_)); replace BK541 := bb_ BK541 hb; replace HB := hs_ w hb; (try clear hb); (try clear ho0); obtain ⟨Ao56, co56, eo56⟩ := Kd.R_slice HO548.out; subst eo56) | ((with_reducible refine gate_callee (f := 7) rfl ?_); refine gl_ 14 Tryd.func7 #[.agg #[.string t543, .string t544, .int .i64 t545, .slice Ao56 t546.length co56]] ?_ rfl rfl rfl rfl; (with_reducible refine (F7.calls k t543 t544 t545 _ _ t546 t549 _ ?s1 ?s2 A8.out).mono ?_); (case s1 => exact au4_5); (case s2 => exact (Kd.R_reads' HO548.out).2.1); rintro e w57 ⟨rfl, hb⟩; refine ⟨_, rfl, ?_⟩; replace HO548 := am_ (Kd.R_below (rk_ HO548) hb); replace BK541 := bb_ BK541 hb; replace HB := hs_ w hb; (try clear hb); obtain ⟨hcz58_0, hcz58_1, hcz58_2, hcz58_3, hfz58_0, hfz58_1, hfz58_2, hfz58_3⟩ := cellsF4 BK541.out) | ((with_reducible refine gate_callee (f := 8) rfl ?_); refine gl_ 16 Tryd.func8 #[.agg #[.string a0_0, .string a0_1, .int .i64 a0_2, .slice A0_3 l0_3.length c0_3]] ?_ rfl rfl rfl rfl; (with_reducible refine (F8.calls k a0_0 a0_1 a0_2 _ _ l0_3 t550 t551 t552 t553 _ ?s1 ?s2 A9.out).mono ?_); (case s1 => exact au4_0); (case s2 => exact HC0_3.out); rintro e w59 ⟨v554, rfl, ho0, hb⟩; refine ⟨_, rfl, ?_⟩; have HO555 := am_ (Kd.R_lower (Kd.R_new' ho0 (Kd.R_lt (rk_ HO548))) (below_size bl_)); replace HO548 := am_ (Kd.R_elder' (rk_ HO548) (Kd.R_base ho0) hb); replace BK541 := bb_ BK541 hb; replace HB := hs_ w hb; (try clear hb); (try clear ho0)) | ((with_reducible refine gate_dst (N := 5) rfl ?_); refine be_ 5 #[.string (⟨#[]⟩ : ByteArray), .string (⟨#[]⟩ : ByteArray), .int .i64 0, .slice none 0 0] 29 ?_; intro gb556 hg w60 hbox hb; replace HO548 := am_ (Kd.R_below (rk_ HO548) hb); replace HO555 := am_ (Kd.R_below (rk_ HO555) hb); have BK556 := am_ (hbox); have GW556 := am_ (gw_ hg bl_); have GE556 := GW556; replace HB := hs_ w hb; have NB541_556 := am_ (gn_ hg (blkl_ BK541)); have NB556_541 := am_ (gm_ hg (blkl_ BK541)); replace BK541 := bb_ BK541 hb; clear hb hbox hg; have hnb61 := NB556_541.out; have hnc61 := NB541_556.out; obtain ⟨hcz62_0, hcz62_1, hcz62_2, hcz62_3, hfz62_0, hfz62_1, hfz62_2, hfz62_3⟩ := cellsF4 BK556.out; obtain ⟨Ao63, co63, eo63⟩ := Kd.R_slice HO555.out; subst eo63) | ((with_reducible refine gate_callee (f := 9) rfl ?_); refine gl_ 18 Tryd.func9 #[.agg #[.string t550, .string t551, .int .i64 t552, .slice Ao63 t553.length co63]] ?_ rfl rfl rfl rfl; (with_reducible refine (F9.calls k t550 t551 t552 _ _ t553 t557 _ ?s1 ?s2 ?s3 A10.out).mono ?_); (case s1 => refine (Kd.R_reads' (e := 83) (base := w.heap.size) (ok := fun k_ => (True ∧ some k_ ≠ (.slice Ao56 t546.length co56 : Value).ownBlock)) (n := t553.length) (c := co63) ?_).2.2; exact au4_4); (case s2 => exact au4_15); (case s3 => exact au4_14); rintro e w64 ⟨rfl, hb⟩; refine ⟨_, rfl, ?_⟩; replace HO548 := am_ (Kd.R_below (by (with_reducible repeat (first | apply Kd.R_alloc | apply Kd.R_drewN | apply Kd.R_drew)); exact (Kd.R_mono (Kd.R_far (p := ⟨gb556, 3, none⟩) (Kd.R_far (p := ⟨gb556, 2, none⟩) (Kd.R_far (p := ⟨gb556, 1, none⟩) (Kd.R_far (p := ⟨gb556, 0, none⟩) (Kd.R_types HO548.out BK556.out (by decide)) (fun _ hk => hk.2) (.string t550)) (fun _ hk => hk.2) (.string t551)) (fun _ hk => hk.2) (.int .i64 t552)) (fun _ hk => hk.2) (.slice Ao63 t553.length co63)) (fun _ h_ => h_.1))) hb); replace HO555 := am_ (Kd.R_below au4_4 hb); replace BK541 := am_ (blk_below (g := gb541) (o := .cells #[.string a0_0, .string a0_1, .int .i64 a0_2, .slice A0_3 l0_3.length c0_3] 24 (0, 0)) (bf_ BK541) hb); replace BK556 := am_ (blk_below (g := gb556) (o := .cells #[.string t550, .string t551, .int .i64 t552, .slice Ao63 t553.length co63] 29 (0, 0)) (bq_ BK556) hb); replace HB := hs_ w hb; (try clear hb); (try clear hb2); (try clear hk); (try clear hi)))
  go_ret
  exact ⟨au4_1, bl_⟩

 rw [if_pos c11] at H
 have c11b0 : (t557 == t549) = true := beq_iff_eq.mpr c11
 have c11b1 : (t557 != t549) = false := bne_eq_false_iff_eq.mpr c11
 clear c11
 replace H := bi_ H; rcases H with ⟨⟨t558, t559, t560, t561⟩, A12, H⟩
 replace H := bi_ H; rcases H with ⟨t564, A13, H⟩
 replace H := ib_ H; rcases H with ⟨rfl, H⟩ | ⟨rfl, H⟩
 rotate_left
 ·obtain rfl := Option.some.inj H
  go_enter Tryd.func3, Tryd.ntmps3
  try go_wp2_with (first | ((with_reducible refine gate_dst (N := 1) rfl ?_); refine be_ 1 #[.string a0_0, .string a0_1, .int .i64 a0_2, .slice A0_3 l0_3.length c0_3] 24 ?_; intro gb541 hg w33 hbox hb; have BK541 := am_ (hbox); have GW541 := am_ (gw_ hg bl_); have GE541 := GW541; replace HB := hs_ w hb; clear hb hbox hg; obtain ⟨hcz34_0, hcz34_1, hcz34_2, hcz34_3, hfz34_0, hfz34_1, hfz34_2, hfz34_3⟩ := cellsF4 BK541.out) | ((with_reducible refine gate_callee (f := 6) rfl ?_); refine gl_ 9 Tryd.func6 #[.agg #[.string a0_0, .string a0_1, .int .i64 a0_2, .slice A0_3 l0_3.length c0_3], .int .i64 1048576] ?_ rfl rfl rfl rfl; (with_reducible refine (F6.calls k a0_0 a0_1 a0_2 _ _ l0_3 1048576 t542 _ ?s1 ?s2 A2.out).mono ?_); (case s1 => exact au4_0); (case s2 => exact HC0_3.out); rintro e w35 ⟨rfl, hb⟩; refine ⟨_, rfl, ?_⟩; replace BK541 := bb_ BK541 hb; replace HB := hs_ w hb; (try clear hb); obtain ⟨hcz36_0, hcz36_1, hcz36_2, hcz36_3, hfz36_0, hfz36_1, hfz36_2, hfz36_3⟩ := cellsF4 BK541.out) | ((with_reducible refine gate_callee (f := 8) rfl ?_); refine gl_ 13 Tryd.func8 #[.agg #[.string a0_0, .string a0_1, .int .i64 a0_2, .slice A0_3 l0_3.length c0_3]] ?_ rfl rfl rfl rfl; (with_reducible refine (F8.calls k a0_0 a0_1 a0_2 _ _ l0_3 t543 t544 t545 t546 _ ?s1 ?s2 A7.out).mono ?_); (case s1 => exact au4_0); (case s2 => exact HC0_3.out); rintro e w37 ⟨v547, rfl, ho0, hb⟩; refine ⟨_, rfl, ?_⟩; have HO548 := am_ (Kd.R_lower ho0 (below_size bl_)); replace BK541 := bb_ BK541 hb; replace HB := hs_ w hb; (try clear hb); (try clear ho0); obtain ⟨Ao38, co38, eo38⟩ := Kd.R_slice HO548.out; subst eo38) | ((with_reducible refine gate_callee (f := 7) rfl ?_); refine gl_ 14 Tryd.func7 #[.agg #[.string t543, .string t544, .int .i64 t545, .slice Ao38 t546.length co38]] ?_ rfl rfl rfl rfl; (with_reducible refine (F7.calls k t543 t544 t545 _ _ t546 t549 _ ?s1 ?s2 A8.out).mono ?_); (case s1 => exact au4_5); (case s2 => exact (Kd.R_reads' HO548.out).2.1); rintro e w39 ⟨rfl, hb⟩; refine ⟨_, rfl, ?_⟩; replace HO548 := am_ (Kd.R_below (rk_ HO548) hb); replace BK541 := bb_ BK541 hb; replace HB := hs_ w hb; (try clear hb); obtain ⟨hcz40_0, hcz40_1, hcz40_2, hcz40_3, hfz40_0, hfz40_1, hfz40_2, hfz40_3⟩ := cellsF4 BK541.out) | ((with_reducible refine gate_callee (f := 8) rfl ?_); refine gl_ 16 Tryd.func8 #[.agg #[.string a0_0, .string a0_1, .int .i64 a0_2, .slice A0_3 l0_3.length c0_3]] ?_ rfl rfl rfl rfl; (with_reducible refine (F8.calls k a0_0 a0_1 a0_2 _ _ l0_3 t550 t551 t552 t553 _ ?s1 ?s2 A9.out).mono ?_); (case s1 => exact au4_0); (case s2 => exact HC0_3.out); rintro e w41 ⟨v554, rfl, ho0, hb⟩; refine ⟨_, rfl, ?_⟩; have HO555 := am_ (Kd.R_lower (Kd.R_new' ho0 (Kd.R_lt (rk_ HO548))) (below_size bl_)); replace HO548 := am_ (Kd.R_elder' (rk_ HO548) (Kd.R_base ho0) hb); replace BK541 := bb_ BK541 hb; replace HB := hs_ w hb; (try clear hb); (try clear ho0)) | ((with_reducible refine gate_dst (N := 5) rfl ?_); refine be_ 5 #[.string (⟨#[]⟩ : ByteArray), .string (⟨#[]⟩ : ByteArray), .int .i64 0, .slice none 0 0] 29 ?_; intro gb556 hg w42 hbox hb; replace HO548 := am_ (Kd.R_below (rk_ HO548) hb); replace HO555 := am_ (Kd.R_below (rk_ HO555) hb); have BK556 := am_ (hbox); have GW556 := am_ (gw_ hg bl_); have GE556 := GW556; replace HB := hs_ w hb; have NB541_556 := am_ (gn_ hg (blkl_ BK541)); have NB556_541 := am_ (gm_ hg (blkl_ BK541)); replace BK541 := bb_ BK541 hb; clear hb hbox hg; have hnb43 := NB556_541.out; have hnc43 := NB541_556.out; obtain ⟨hcz44_0, hcz44_1, hcz44_2, hcz44_3, hfz44_0, hfz44_1, hfz44_2, hfz44_3⟩ := cellsF4 BK556.out; obtain ⟨Ao45, co45, eo45⟩ := Kd.R_slice HO555.out; subst eo45) | ((with_reducible refine gate_callee (f := 9) rfl ?_); refine gl_ 18 Tryd.func9 #[.agg #[.string t550, .string t551, .int .i64 t552, .slice Ao45 t553.length co45]] ?_ rfl rfl rfl rfl; (with_reducible refine (F9.calls k t550 t551 t552 _ _ t553 t557 _ ?s1 ?s2 ?s3 A10.out).mono ?_); (case s1 => refine (Kd.R_reads' (e := 83) (base := w.heap.size) (ok := fun k_ => (True ∧ some k_ ≠ (.slice Ao38 t546.length co38 : Value).ownBlock)) (n := t553.length) (c := co45) ?_).2.2; exact au4_3); (case s2 => exact au4_15); (case s3 => exact au4_14); rintro e w46 ⟨rfl, hb⟩; refine ⟨_, rfl, ?_⟩; replace HO548 := am_ (Kd.R_below (by (with_reducible repeat (first | apply Kd.R_alloc | apply Kd.R_drewN | apply Kd.R_drew)); exact (Kd.R_mono (Kd.R_far (p := ⟨gb556, 3, none⟩) (Kd.R_far (p := ⟨gb556, 2, none⟩) (Kd.R_far (p := ⟨gb556, 1, none⟩) (Kd.R_far (p := ⟨gb556, 0, none⟩) (Kd.R_types HO548.out BK556.out (by decide)) (fun _ hk => hk.2) (.string t550)) (fun _ hk => hk.2) (.string t551)) (fun _ hk => hk.2) (.int .i64 t552)) (fun _ hk => hk.2) (.slice Ao45 t553.length co45)) (fun _ h_ => h_.1))) hb); replace HO555 := am_ (Kd.R_below au4_3 hb); replace BK541 := am_ (blk_below (g := gb541) (o := .cells #[.string a0_0, .string a0_1, .int .i64 a0_2, .slice A0_3 l0_3.length c0_3] 24 (0, 0)) (bf_ BK541) hb); replace BK556 := am_ (blk_below (g := gb556) (o := .cells #[.string t550, .string t551, .int .i64 t552, .slice Ao45 t553.length co45] 29 (0, 0)) (bq_ BK556) hb); replace HB := hs_ w hb; (try clear hb); (try clear hb2); (try clear hk); (try clear hi)))
  replace HO548 := am_ (Kd.R_drew HO548.out)
  replace HO555 := am_ (Kd.R_drew HO555.out)
  replace BK541 := bd_ BK541
  replace BK556 := bd_ BK556
  replace HB := am_ (below_drew1 HB.out)
  refine start_ (n := 5) (S := fun w' => w'.cell? ⟨gb556, 0, none⟩ = some (.string t550) ∧ w'.cell? ⟨gb556, 1, none⟩ = some (.string t551) ∧ w'.cell? ⟨gb556, 2, none⟩ = some (.int .i64 t552) ∧ w'.cell? ⟨gb556, 3, none⟩ = some (.slice Ao45 t553.length co45) ∧ w'.cell? ⟨gb541, 0, none⟩ = some (.string a0_0) ∧ w'.cell? ⟨gb541, 1, none⟩ = some (.string a0_1) ∧ w'.cell? ⟨gb541, 2, none⟩ = some (.int .i64 a0_2) ∧ w'.cell? ⟨gb541, 3, none⟩ = some (.slice A0_3 l0_3.length c0_3)) (ds := []) #[false, false, false, false, false] (by kernel_rfl) rfl rfl ⟨(blk_cell BK556.out 0).trans rfl, (blk_cell BK556.out 1).trans rfl, (blk_cell BK556.out 2).trans rfl, (blk_cell BK556.out 3).trans rfl, (blk_cell BK541.out 0).trans rfl, (blk_cell BK541.out 1).trans rfl, (blk_cell BK541.out 2).trans rfl, (blk_cell BK541.out 3).trans rfl⟩ (fun hHeld => ?_)
  generalize w46.drew = w47 at HO548 HO555 BK541 BK556 HB hHeld ⊢
  refine take_ (i := 0) (N := some 22) (v := ?_) (a' := ?_) #[true, false, false, false, false] rfl rfl (by kernel_rfl) (fun _ _ _ h => h) (Or.inl ⟨by rfl, ?_⟩) hHeld ?_ ?_
  rotate_left
  ·rintro w' ⟨s0, s1, s2, s3, s4, s5, s6, s7⟩
   go_simp
   with_reducible rfl
  rotate_left
  ·simp only [Act.put, List.setIfInBounds_toArray, List.set_cons_zero, List.set_cons_succ, i64_w, i32_w]
   rfl
  refine take_ (i := 1) (N := some 23) (v := ?_) (a' := ?_) #[true, true, false, false, false] rfl rfl (by kernel_rfl) (fun _ _ _ h => h) (Or.inl ⟨by rfl, ?_⟩) hHeld ?_ ?_
  rotate_left
  ·rintro w' ⟨s0, s1, s2, s3, s4, s5, s6, s7⟩
   go_simp
   with_reducible rfl
  rotate_left
  ·simp only [Act.put, List.setIfInBounds_toArray, List.set_cons_zero, List.set_cons_succ, i64_w, i32_w]
   rfl
  refine one_ (i := 2) (N := some 24) #[true, true, true, false, false] rfl rfl (by kernel_rfl) (by decide) (fun K hK => ?_)
  refine gr_ Tryd.func8 #[.agg #[.string a0_0, .string a0_1, .int .i64 a0_2, .slice A0_3 l0_3.length c0_3]] (by rfl) ?_ rfl rfl rfl
  with_reducible refine (F8.calls k a0_0 a0_1 a0_2 _ _ l0_3 t558 t559 t560 t561 _ ?s1 ?s2 A12.out).mono ?_
  (case s1 => exact au4_0)
  (case s2 => exact HC0_3.out)
  rintro e w48 ⟨v562, rfl, ho0, hb⟩
  refine ⟨_, rfl, ?_⟩
  have HO563 := am_ (Kd.R_lower (Kd.R_new' (Kd.R_new' ho0 (Kd.R_lt (rk_ HO548))) (Kd.R_lt (rk_ HO555))) (below_size bl_))
  replace HO548 := am_ (Kd.R_elder' (rk_ HO548) (Kd.R_base ho0) hb)
  replace HO555 := am_ (Kd.R_elder' (rk_ HO555) (Kd.R_base ho0) hb)
  replace BK541 := bb_ BK541 hb
  replace BK556 := bb_ BK556 hb
  replace HB := hs_ w hb
  (try clear hb)
  (try clear hb2)
  (try clear hk)
  (try clear hi)
  (try clear ho0)
  obtain ⟨Ao49, co49, eo49⟩ := Kd.R_slice HO563.out
  (first | subst eo49 | (injection eo49 with f1_ f2_ f3_; have f4_ := f1_.symm; have f5_ := f3_.symm; clear f1_ f2_ f3_; subst f4_; subst f5_))
  refine hK.out _ _ ⟨(blk_cell BK556.out 0).trans rfl, (blk_cell BK556.out 1).trans rfl, (blk_cell BK556.out 2).trans rfl, (blk_cell BK556.out 3).trans rfl, (blk_cell BK541.out 0).trans rfl, (blk_cell BK541.out 1).trans rfl, (blk_cell BK541.out 2).trans rfl, (blk_cell BK541.out 3).trans rfl⟩ (fun hHeld => ?_)
  clear hK K
  refine no_ 24 ?_
  refine one_ (i := 3) (N := some 25) #[true, true, true, true, false] rfl rfl (by kernel_rfl) (by decide) (fun K hK => ?_)
  refine gr_ Tryd.func10 #[.agg #[.string t550, .string t551, .int .i64 t552, .slice Ao45 t553.length co45], .agg #[.string t558, .string t559, .int .i64 t560, .slice Ao49 t561.length co49]] (by rfl) ?_ rfl rfl rfl
  with_reducible refine (F10.calls k t550 t551 t552 _ _ t553 t558 t559 t560 _ _ t561 false _ ?s1 ?s2 ?s3 ?s4 A13.out).mono ?_
  (case s1 => exact au4_12)
  (case s2 => exact au4_15)
  (case s3 => exact au4_13)
  (case s4 => exact (Kd.R_reads' HO563.out).2.1)
  rintro e w50 ⟨rfl, hb⟩
  refine ⟨_, rfl, ?_⟩
  replace HO548 := am_ (Kd.R_below (rk_ HO548) hb)
  replace HO555 := am_ (Kd.R_below (rk_ HO555) hb)
  replace HO563 := am_ (Kd.R_below (rk_ HO563) hb)
  replace BK541 := bb_ BK541 hb
  replace BK556 := bb_ BK556 hb
  replace HB := hs_ w hb
  (try clear hb)
  (try clear hb2)
  (try clear hk)
  (try clear hi)
  refine hK.out _ _ ⟨(blk_cell BK556.out 0).trans rfl, (blk_cell BK556.out 1).trans rfl, (blk_cell BK556.out 2).trans rfl, (blk_cell BK556.out 3).trans rfl, (blk_cell BK541.out 0).trans rfl, (blk_cell BK541.out 1).trans rfl, (blk_cell BK541.out 2).trans rfl, (blk_cell BK541.out 3).trans rfl⟩ (fun hHeld => ?_)
  clear hK K
  refine no_ 25 ?_
  refine pk_ 4 26 #[true, true, true, true, true] ?_ rfl rfl
  refine done_ (by kernel_rfl) ?_
  try go_wp2
  go_ret
  exact ⟨au4_1, bl_⟩
 obtain rfl := Option.some.inj H
 go_enter Tryd.func3, Tryd.ntmps3
 try go_wp2_with (first | ((with_reducible refine gate_dst (N := 1) rfl ?_); refine be_ 1 #[.string a0_0, .string a0_1, .int .i64 a0_2, .slice A0_3 l0_3.length c0_3] 24 ?_; intro gb541 hg w15 hbox hb; have BK541 := am_ (hbox); have GW541 := am_ (gw_ hg bl_); have GE541 := GW541; replace HB := hs_ w hb; clear hb hbox hg; obtain ⟨hcz16_0, hcz16_1, hcz16_2, hcz16_3, hfz16_0, hfz16_1, hfz16_2, hfz16_3⟩ := cellsF4 BK541.out) | ((with_reducible refine gate_callee (f := 6) rfl ?_); refine gl_ 9 Tryd.func6 #[.agg #[.string a0_0, .string a0_1, .int .i64 a0_2, .slice A0_3 l0_3.length c0_3], .int .i64 1048576] ?_ rfl rfl rfl rfl; (with_reducible refine (F6.calls k a0_0 a0_1 a0_2 _ _ l0_3 1048576 t542 _ ?s1 ?s2 A2.out).mono ?_); (case s1 => exact au4_0); (case s2 => exact HC0_3.out); rintro e w17 ⟨rfl, hb⟩; refine ⟨_, rfl, ?_⟩; replace BK541 := bb_ BK541 hb; replace HB := hs_ w hb; (try clear hb); obtain ⟨hcz18_0, hcz18_1, hcz18_2, hcz18_3, hfz18_0, hfz18_1, hfz18_2, hfz18_3⟩ := cellsF4 BK541.out) | ((with_reducible refine gate_callee (f := 8) rfl ?_); refine gl_ 13 Tryd.func8 #[.agg #[.string a0_0, .string a0_1, .int .i64 a0_2, .slice A0_3 l0_3.length c0_3]] ?_ rfl rfl rfl rfl; (with_reducible refine (F8.calls k a0_0 a0_1 a0_2 _ _ l0_3 t543 t544 t545 t546 _ ?s1 ?s2 A7.out).mono ?_); (case s1 => exact au4_0); (case s2 => exact HC0_3.out); rintro e w19 ⟨v547, rfl, ho0, hb⟩; refine ⟨_, rfl, ?_⟩; have HO548 := am_ (Kd.R_lower ho0 (below_size bl_)); replace BK541 := bb_ BK541 hb; replace HB := hs_ w hb; (try clear hb); (try clear ho0); obtain ⟨Ao20, co20, eo20⟩ := Kd.R_slice HO548.out; subst eo20) | ((with_reducible refine gate_callee (f := 7) rfl ?_); refine gl_ 14 Tryd.func7 #[.agg #[.string t543, .string t544, .int .i64 t545, .slice Ao20 t546.length co20]] ?_ rfl rfl rfl rfl; (with_reducible refine (F7.calls k t543 t544 t545 _ _ t546 t549 _ ?s1 ?s2 A8.out).mono ?_); (case s1 => exact au4_5); (case s2 => exact (Kd.R_reads' HO548.out).2.1); rintro e w21 ⟨rfl, hb⟩; refine ⟨_, rfl, ?_⟩; replace HO548 := am_ (Kd.R_below (rk_ HO548) hb); replace BK541 := bb_ BK541 hb; replace HB := hs_ w hb; (try clear hb); obtain ⟨hcz22_0, hcz22_1, hcz22_2, hcz22_3, hfz22_0, hfz22_1, hfz22_2, hfz22_3⟩ := cellsF4 BK541.out) | ((with_reducible refine gate_callee (f := 8) rfl ?_); refine gl_ 16 Tryd.func8 #[.agg #[.string a0_0, .string a0_1, .int .i64 a0_2, .slice A0_3 l0_3.length c0_3]] ?_ rfl rfl rfl rfl; (with_reducible refine (F8.calls k a0_0 a0_1 a0_2 _ _ l0_3 t550 t551 t552 t553 _ ?s1 ?s2 A9.out).mono ?_); (case s1 => exact au4_0); (case s2 => exact HC0_3.out); rintro e w23 ⟨v554, rfl, ho0, hb⟩; refine ⟨_, rfl, ?_⟩; have HO555 := am_ (Kd.R_lower (Kd.R_new' ho0 (Kd.R_lt (rk_ HO548))) (below_size bl_)); replace HO548 := am_ (Kd.R_elder' (rk_ HO548) (Kd.R_base ho0) hb); replace BK541 := bb_ BK541 hb; replace HB := hs_ w hb; (try clear hb); (try clear ho0)) | ((with_reducible refine gate_dst (N := 5) rfl ?_); refine be_ 5 #[.string (⟨#[]⟩ : ByteArray), .string (⟨#[]⟩ : ByteArray), .int .i64 0, .slice none 0 0] 29 ?_; intro gb556 hg w24 hbox hb; replace HO548 := am_ (Kd.R_below (rk_ HO548) hb); replace HO555 := am_ (Kd.R_below (rk_ HO555) hb); have BK556 := am_ (hbox); have GW556 := am_ (gw_ hg bl_); have GE556 := GW556; replace HB := hs_ w hb; have NB541_556 := am_ (gn_ hg (blkl_ BK541)); have NB556_541 := am_ (gm_ hg (blkl_ BK541)); replace BK541 := bb_ BK541 hb; clear hb hbox hg; have hnb25 := NB556_541.out; have hnc25 := NB541_556.out; obtain ⟨hcz26_0, hcz26_1, hcz26_2, hcz26_3, hfz26_0, hfz26_1, hfz26_2, hfz26_3⟩ := cellsF4 BK556.out; obtain ⟨Ao27, co27, eo27⟩ := Kd.R_slice HO555.out; subst eo27) | ((with_reducible refine gate_callee (f := 9) rfl ?_); refine gl_ 18 Tryd.func9 #[.agg #[.string t550, .string t551, .int .i64 t552, .slice Ao27 t553.length co27]] ?_ rfl rfl rfl rfl; (with_reducible refine (F9.calls k t550 t551 t552 _ _ t553 t557 _ ?s1 ?s2 ?s3 A10.out).mono ?_); (case s1 => refine (Kd.R_reads' (e := 83) (base := w.heap.size) (ok := fun k_ => (True ∧ some k_ ≠ (.slice Ao20 t546.length co20 : Value).ownBlock)) (n := t553.length) (c := co27) ?_).2.2; exact au4_2); (case s2 => exact au4_15); (case s3 => exact au4_14); rintro e w28 ⟨rfl, hb⟩; refine ⟨_, rfl, ?_⟩; replace HO548 := am_ (Kd.R_below (by (with_reducible repeat (first | apply Kd.R_alloc | apply Kd.R_drewN | apply Kd.R_drew)); exact (Kd.R_mono (Kd.R_far (p := ⟨gb556, 3, none⟩) (Kd.R_far (p := ⟨gb556, 2, none⟩) (Kd.R_far (p := ⟨gb556, 1, none⟩) (Kd.R_far (p := ⟨gb556, 0, none⟩) (Kd.R_types HO548.out BK556.out (by decide)) (fun _ hk => hk.2) (.string t550)) (fun _ hk => hk.2) (.string t551)) (fun _ hk => hk.2) (.int .i64 t552)) (fun _ hk => hk.2) (.slice Ao27 t553.length co27)) (fun _ h_ => h_.1))) hb); replace HO555 := am_ (Kd.R_below au4_2 hb); replace BK541 := am_ (blk_below (g := gb541) (o := .cells #[.string a0_0, .string a0_1, .int .i64 a0_2, .slice A0_3 l0_3.length c0_3] 24 (0, 0)) (bf_ BK541) hb); replace BK556 := am_ (blk_below (g := gb556) (o := .cells #[.string t550, .string t551, .int .i64 t552, .slice Ao27 t553.length co27] 29 (0, 0)) (bq_ BK556) hb); replace HB := hs_ w hb; (try clear hb); (try clear hb2); (try clear hk); (try clear hi)))
 replace HO548 := am_ (Kd.R_drew HO548.out)
 replace HO555 := am_ (Kd.R_drew HO555.out)
 replace BK541 := bd_ BK541
 replace BK556 := bd_ BK556
 replace HB := am_ (below_drew1 HB.out)
 refine start_ (n := 5) (S := fun w' => w'.cell? ⟨gb556, 0, none⟩ = some (.string t550) ∧ w'.cell? ⟨gb556, 1, none⟩ = some (.string t551) ∧ w'.cell? ⟨gb556, 2, none⟩ = some (.int .i64 t552) ∧ w'.cell? ⟨gb556, 3, none⟩ = some (.slice Ao27 t553.length co27) ∧ w'.cell? ⟨gb541, 0, none⟩ = some (.string a0_0) ∧ w'.cell? ⟨gb541, 1, none⟩ = some (.string a0_1) ∧ w'.cell? ⟨gb541, 2, none⟩ = some (.int .i64 a0_2) ∧ w'.cell? ⟨gb541, 3, none⟩ = some (.slice A0_3 l0_3.length c0_3)) (ds := []) #[false, false, false, false, false] (by kernel_rfl) rfl rfl ⟨(blk_cell BK556.out 0).trans rfl, (blk_cell BK556.out 1).trans rfl, (blk_cell BK556.out 2).trans rfl, (blk_cell BK556.out 3).trans rfl, (blk_cell BK541.out 0).trans rfl, (blk_cell BK541.out 1).trans rfl, (blk_cell BK541.out 2).trans rfl, (blk_cell BK541.out 3).trans rfl⟩ (fun hHeld => ?_)
 generalize w28.drew = w29 at HO548 HO555 BK541 BK556 HB hHeld ⊢
 refine take_ (i := 0) (N := some 22) (v := ?_) (a' := ?_) #[true, false, false, false, false] rfl rfl (by kernel_rfl) (fun _ _ _ h => h) (Or.inl ⟨by rfl, ?_⟩) hHeld ?_ ?_
 rotate_left
 ·rintro w' ⟨s0, s1, s2, s3, s4, s5, s6, s7⟩
  go_simp
  with_reducible rfl
 rotate_left
 ·simp only [Act.put, List.setIfInBounds_toArray, List.set_cons_zero, List.set_cons_succ, i64_w, i32_w]
  rfl
 refine take_ (i := 1) (N := some 23) (v := ?_) (a' := ?_) #[true, true, false, false, false] rfl rfl (by kernel_rfl) (fun _ _ _ h => h) (Or.inl ⟨by rfl, ?_⟩) hHeld ?_ ?_
 rotate_left
 ·rintro w' ⟨s0, s1, s2, s3, s4, s5, s6, s7⟩
  go_simp
  with_reducible rfl
 rotate_left
 ·simp only [Act.put, List.setIfInBounds_toArray, List.set_cons_zero, List.set_cons_succ, i64_w, i32_w]
  rfl
 refine one_ (i := 2) (N := some 24) #[true, true, true, false, false] rfl rfl (by kernel_rfl) (by decide) (fun K hK => ?_)
 refine gr_ Tryd.func8 #[.agg #[.string a0_0, .string a0_1, .int .i64 a0_2, .slice A0_3 l0_3.length c0_3]] (by rfl) ?_ rfl rfl rfl
 with_reducible refine (F8.calls k a0_0 a0_1 a0_2 _ _ l0_3 t558 t559 t560 t561 _ ?s1 ?s2 A12.out).mono ?_
 (case s1 => exact au4_0)
 (case s2 => exact HC0_3.out)
 rintro e w30 ⟨v562, rfl, ho0, hb⟩
 refine ⟨_, rfl, ?_⟩
 have HO563 := am_ (Kd.R_lower (Kd.R_new' (Kd.R_new' ho0 (Kd.R_lt (rk_ HO548))) (Kd.R_lt (rk_ HO555))) (below_size bl_))
 replace HO548 := am_ (Kd.R_elder' (rk_ HO548) (Kd.R_base ho0) hb)
 replace HO555 := am_ (Kd.R_elder' (rk_ HO555) (Kd.R_base ho0) hb)
 replace BK541 := bb_ BK541 hb
 replace BK556 := bb_ BK556 hb
 replace HB := hs_ w hb
 (try clear hb)
 (try clear hb2)
 (try clear hk)
 (try clear hi)
 (try clear ho0)
 obtain ⟨Ao31, co31, eo31⟩ := Kd.R_slice HO563.out
 (first | subst eo31 | (injection eo31 with f1_ f2_ f3_; have f4_ := f1_.symm; have f5_ := f3_.symm; clear f1_ f2_ f3_; subst f4_; subst f5_))
 refine hK.out _ _ ⟨(blk_cell BK556.out 0).trans rfl, (blk_cell BK556.out 1).trans rfl, (blk_cell BK556.out 2).trans rfl, (blk_cell BK556.out 3).trans rfl, (blk_cell BK541.out 0).trans rfl, (blk_cell BK541.out 1).trans rfl, (blk_cell BK541.out 2).trans rfl, (blk_cell BK541.out 3).trans rfl⟩ (fun hHeld => ?_)
 clear hK K
 refine no_ 24 ?_
 refine one_ (i := 3) (N := some 25) #[true, true, true, true, false] rfl rfl (by kernel_rfl) (by decide) (fun K hK => ?_)
 refine gr_ Tryd.func10 #[.agg #[.string t550, .string t551, .int .i64 t552, .slice Ao27 t553.length co27], .agg #[.string t558, .string t559, .int .i64 t560, .slice Ao31 t561.length co31]] (by rfl) ?_ rfl rfl rfl
 with_reducible refine (F10.calls k t550 t551 t552 _ _ t553 t558 t559 t560 _ _ t561 true _ ?s1 ?s2 ?s3 ?s4 A13.out).mono ?_
 (case s1 => exact au4_12)
 (case s2 => exact au4_15)
 (case s3 => exact au4_13)
 (case s4 => exact (Kd.R_reads' HO563.out).2.1)
 rintro e w32 ⟨rfl, hb⟩
 refine ⟨_, rfl, ?_⟩
 replace HO548 := am_ (Kd.R_below (rk_ HO548) hb)
 replace HO555 := am_ (Kd.R_below (rk_ HO555) hb)
 replace HO563 := am_ (Kd.R_below (rk_ HO563) hb)
 replace BK541 := bb_ BK541 hb
 replace BK556 := bb_ BK556 hb
 replace HB := hs_ w hb
 (try clear hb)
 (try clear hb2)
 (try clear hk)
 (try clear hi)
 refine hK.out _ _ ⟨(blk_cell BK556.out 0).trans rfl, (blk_cell BK556.out 1).trans rfl, (blk_cell BK556.out 2).trans rfl, (blk_cell BK556.out 3).trans rfl, (blk_cell BK541.out 0).trans rfl, (blk_cell BK541.out 1).trans rfl, (blk_cell BK541.out 2).trans rfl, (blk_cell BK541.out 3).trans rfl⟩ (fun hHeld => ?_)
 clear hK K
 refine no_ 25 ?_
 refine pk_ 4 26 #[true, true, true, true, true] ?_ rfl rfl
 refine done_ (by kernel_rfl) ?_
 try go_wp2
 go_ret
 exact ⟨au4_1, bl_⟩
/-- THE ONE PURE STATEMENT of F3: yours. -/
def F3.Pure : Prop := ∀ (a0_0 : ByteArray) (a0_1 : ByteArray) (a0_2 : Int) (l0_3 : List (S98)), (fun s_ : ByteArray => s_.size ≤ maxLen) a0_0 → (fun s_ : ByteArray => s_.size ≤ maxLen) a0_1 → (fun n_ : Int => (Lit.int .i64 n_).wf = true) a0_2 → (fun xs_ : List (S98) => xs_.length ≤ maxLen ∧ ∀ x_ ∈ xs_, q98 x_) l0_3 → ∃ k, F3.f k a0_0 a0_1 a0_2 l0_3 = some true
end Go.Proofs.YtlghcbmkhdibdaaDoor.PFnExactIxCount
