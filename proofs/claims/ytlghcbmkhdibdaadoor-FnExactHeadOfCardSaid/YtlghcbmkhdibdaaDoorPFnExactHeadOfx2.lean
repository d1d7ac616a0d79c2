-- printed by a program of this session (wip/xp/xprint.py) out of the translation; Lean checks it
import Derived.Test.YtlghcbmkhdibdaaDoorPFnExactHeadOfx0
import Derived.Test.YtlghcbmkhdibdaaDoorPFnExactHeadOfx1
namespace Go.Proofs.YtlghcbmkhdibdaaDoor.PFnExactHeadOf
open Go.RowKit Go.Proofs.YtlghcbmkhdibdaaDoorW.PrintWords Go.Proofs.YtlghcbmkhdibdaaDoorW.PrintLast Go.Proofs.YtlghcbmkhdibdaaDoorW.PrintMore
attribute [local go_sem] max2_int min2_int max_two min_two max_three min_three max_four min_four   -- for this text's walks alone
set_option linter.unusedVariables false
set_option linter.unusedSimpArgs false
set_option maxHeartbeats 8000000
set_option maxRecDepth 100000

theorem au2_0 {p : Prop} (h : p := by repeat (first | exact (Kd.C_below HR151_1.out HB.out) | (with_reducible refine Kd.C_alloc ?_ _) | (with_reducible refine Kd.C_drewN ?_ _) | (with_reducible refine Kd.C_drew ?_))) : p := h
theorem au2_1 {p : Prop} (h : p := by simp only [putAll, Act.put, List.setIfInBounds_toArray, List.set_cons_zero, List.set_cons_succ]) : p := h
theorem au2_2 {p : Prop} (h : p := by first | rfl | (simp [errW_none, errW_some] <;> rfl) | (simp [*, errW_none, errW_some] <;> rfl)) : p := h
theorem au2_3 {p : Prop} (h : p := by first | exact Kd.S_nil _ _ _ _ _ | exact Kd.N_nil _ _ _ _ _ | exact Kd.V_nil _ _ _ _ _ | exact Kd.Q_nil _ _ _ _ _ | exact Kd.R_nil _ _ _ _ _) : p := h
theorem au2_4 {p : Prop} (h : p := by rintro w' ⟨s0, s1, s2, s3, s4, s5⟩; go_simp; with_reducible rfl) : p := h
theorem au2_5 {p : Prop} (h : p := by rintro w' ⟨s0, s1⟩; go_simp; with_reducible rfl) : p := h
theorem au2_6 {p : Prop} (h : p := by (with_reducible repeat (first | apply Kd.S_alloc | apply Kd.S_drewN | apply Kd.S_drew)); exact HO_3.out) : p := h
theorem au2_7 {p : Prop} (h : p := by rintro w' ⟨s0, s1, s2, s3⟩; go_simp; with_reducible rfl) : p := h
theorem au2_8 {p : Prop} (h : p := by repeat (first | exact (Kd.S_reads' HO165.out).2.2 | (with_reducible refine Kd.C_alloc ?_ _) | (with_reducible refine Kd.C_drewN ?_ _) | (with_reducible refine Kd.C_drew ?_))) : p := h
theorem au2_9 {p : Prop} (h : p := by (with_reducible repeat (first | apply Kd.S_alloc | apply Kd.S_drewN | apply Kd.S_drew)); exact HO165.out) : p := h
theorem au2_10 {p : Prop} (h : p := by (with_reducible repeat (first | apply Kd.S_alloc | apply Kd.S_drewN | apply Kd.S_drew)); exact HO_3.out) : p := h
theorem au2_11 {p : Prop} (h : p := by exact Kd.C_below HR151_1.out bl_) : p := h

/-! ### F12: function 12 -/
def F12.f (k : Nat) (l0 : List (S52)) : Option (ByteArray × ByteArray × Int × (List (S83)) × Bool × Int × Int) := if (l0.length : Int) > 400 then (some ((⟨#[]⟩ : ByteArray), (⟨#[]⟩ : ByteArray), 0, ([] : List (S83)), false, 0, 2)) else (if (l0.length : Int) = 0 then (some ((⟨#[]⟩ : ByteArray), (⟨#[]⟩ : ByteArray), 0, ([] : List (S83)), false, 0, 6)) else (if 0 < (l0.length : Int) then ((F31.f ((rd_T52 l0 0).f0) ((rd_T52 l0 0).f1) 2 0).bind fun t153 => ((F30.f k t153).bind fun bt154 => ((F31.f ((rd_T52 l0 0).f0) ((rd_T52 l0 0).f1) 0 0).bind fun t156 => ((F31.f ((rd_T52 l0 0).f0) ((rd_T52 l0 0).f1) 1 0).bind fun t157 => ((F32.f k t156).bind fun t159 => (if t159 = true then ((F32.f k t157).bind fun t160 => (if t160 = true then ((F33.f bt154.1).bind fun t161 => (if t161 = true then ((F35.f k t156 t157 bt154.1 ([] : List (S83))).bind fun bt162 => ((F34.f k ((rd_T52 l0 0).f0) ((rd_T52 l0 0).f1) bt162.1 bt162.2).bind fun t166 => (if t166 = true then (some (t156, t157, bt154.1, ([] : List (S83)), true, 0, 0)) else (some ((⟨#[]⟩ : ByteArray), (⟨#[]⟩ : ByteArray), 0, ([] : List (S83)), false, 0, 3))))) else (some ((⟨#[]⟩ : ByteArray), (⟨#[]⟩ : ByteArray), 0, ([] : List (S83)), false, 0, 3)))) else (some ((⟨#[]⟩ : ByteArray), (⟨#[]⟩ : ByteArray), 0, ([] : List (S83)), false, 0, 3)))) else (some ((⟨#[]⟩ : ByteArray), (⟨#[]⟩ : ByteArray), 0, ([] : List (S83)), false, 0, 3)))))))) else (none)))
theorem F12.mono : ∀ a0 k, LeO (F12.f k a0) (F12.f (k + 1) a0) := by
 intro a0 k
 unfold F12.f
 repeat' with_reducible first | exact F32.mono _ _ | exact F30.mono _ _ | exact F35.mono _ _ _ _ _ | exact F34.mono _ _ _ _ _ | exact LeO.refl _ | exact LeO.none _ | refine LeO.ite ?_ ?_ | refine LeO.bind ?_ (fun _ => ?_)
def F12.T7 : Bool × List (List Nat × List Nat) := (true, [([], []), ([0], [0]), ([], []), ([2, 1], [2]), ([], []), ([1, 3, 4], [1, 3, 4]), ([], []), ([6, 5, 3, 0, 1, 2, 3, 4, 5, 6], [5, 6])])
def F12.B7 : List Nat := [0, 1, 0, 7, 0, 31, 0, 127]
theorem F12.tab7 : rtab .any (opsOf Tryd.f12 7) = F12.T7 := by kernel_rfl
theorem F12.bits7 : waitsOk F12.T7.2 F12.B7 = true := by kernel_rfl
def F12.T8 : Bool × List (List Nat × List Nat) := (true, [([], []), ([0], [0]), ([1], [1]), ([2], [2]), ([3, 2], [3]), ([4], [4]), ([5, 4], [4, 5]), ([6, 4, 4], [4, 6]), ([7, 4], [4, 7]), ([4, 8], [4, 8]), ([9, 7], [9]), ([10], [10]), ([11, 10, 10], [10, 11]), ([12, 10], [10, 12]), ([10, 13], [10, 13]), ([14, 12], [14]), ([15], [15]), ([15], [15]), ([17, 15, 15], [15, 17]), ([16, 18, 18, 15], [15, 16, 18]), ([19, 15], [15, 19]), ([15, 20], [15, 20])])
def F12.B8 : List Nat := [0, 1, 3, 7, 15, 31, 63, 127, 255, 511, 1023, 2047, 4095, 8191, 16383, 32767, 65535, 65535, 196607, 524287, 1048575, 2097151]
theorem F12.tab8 : rtab .any (opsOf Tryd.f12 8) = F12.T8 := by kernel_rfl
theorem F12.bits8 : waitsOk F12.T8.2 F12.B8 = true := by kernel_rfl
theorem F12.calls (k : Nat) (A0 : Option Addr) (c0 : Nat) (l0 : List (S52)) (r1 : ByteArray) (r2 : ByteArray) (r3 : Int) (r4 : List (S83)) (r5 : Bool) (r6 : Int) (r7 : Int) (w : World) (hr0 : Kd.C k52 w A0 l0.length l0) (hc0 : l0.length ≤ c0) (h : F12.f k l0 = some (r1, r2, r3, r4, r5, r6, r7)) :
  Calls Tryd.prog 12 #[.slice A0 l0.length c0] w fun e w' => ∃ v3_ : Value, e = .returned (.agg #[.string r1, .string r2, .int .i64 r3, v3_, .bool r5, .int .i64 r6, .int .i64 r7]) ∧ Kd.S k83 83 w' w.heap.size (fun _ => True) v3_ r4 ∧ Below w.heap.size w w' := by
 have hu36 := Tryd.underlying36
 have hu52 := Tryd.underlying52
 have hu29 := Tryd.underlying29
 have HR0 := am_ hr0
 have HC0 := am_ hc0
 clear hr0 hc0
 have HB := am_ (Below.refl w.heap.size w)
 have H : (if (l0.length : Int) > 400 then (some ((⟨#[]⟩ : ByteArray), (⟨#[]⟩ : ByteArray), 0, ([] : List (S83)), false, 0, 2)) else (if (l0.length : Int) = 0 then (some ((⟨#[]⟩ : ByteArray), (⟨#[]⟩ : ByteArray), 0, ([] : List (S83)), false, 0, 6)) else (if 0 < (l0.length : Int) then ((F31.f ((rd_T52 l0 0).f0) ((rd_T52 l0 0).f1) 2 0).bind fun t153 => ((F30.f k t153).bind fun bt154 => ((F31.f ((rd_T52 l0 0).f0) ((rd_T52 l0 0).f1) 0 0).bind fun t156 => ((F31.f ((rd_T52 l0 0).f0) ((rd_T52 l0 0).f1) 1 0).bind fun t157 => ((F32.f k t156).bind fun t159 => (if t159 = true then ((F32.f k t157).bind fun t160 => (if t160 = true then ((F33.f bt154.1).bind fun t161 => (if t161 = true then ((F35.f k t156 t157 bt154.1 ([] : List (S83))).bind fun bt162 => ((F34.f k ((rd_T52 l0 0).f0) ((rd_T52 l0 0).f1) bt162.1 bt162.2).bind fun t166 => (if t166 = true then (some (t156, t157, bt154.1, ([] : List (S83)), true, 0, 0)) else (some ((⟨#[]⟩ : ByteArray), (⟨#[]⟩ : ByteArray), 0, ([] : List (S83)), false, 0, 3))))) else (some ((⟨#[]⟩ : ByteArray), (⟨#[]⟩ : ByteArray), 0, ([] : List (S83)), false, 0, 3)))) else (some ((⟨#[]⟩ : ByteArray), (⟨#[]⟩ : ByteArray), 0, ([] : List (S83)), false, 0, 3)))) else (some ((⟨#[]⟩ : ByteArray), (⟨#[]⟩ : ByteArray), 0, ([] : List (S83)), false, 0, 3)))))))) else (none)))) = some (r1, r2, r3, r4, r5, r6, r7) := h
 clear h
 replace H := it_ H; rcases H with ⟨(c2b0 : decide (400 < (l0.length : Int)) = true), H⟩ | ⟨(c2b0 : decide (400 < (l0.length : Int)) = false), H⟩
 ·have c2b1 : decide (400 < l0.length) = true := n2_ c2b0
  simp only [Option.some.injEq, Prod.mk.injEq] at H
  obtain ⟨rfl, rfl, rfl, rfl, rfl, rfl, rfl⟩ := H
  go_enter Tryd.func12, Tryd.ntmps12
  go_wp2_with (first | ((with_reducible refine gate_dst (N := 2) rfl ?_); refine be_ 2 #[.string (⟨#[]⟩ : ByteArray), .string (⟨#[]⟩ : ByteArray), .int .i64 0, .slice none 0 0, .bool false, .int .i64 0, .int .i64 0] 36 ?_; intro gb150 hg w3 hbox hb; have BK150 := am_ (hbox); have GW150 := am_ (gw_ hg bl_); have GE150 := GW150; replace HB := hs_ w hb; clear hb hbox hg; obtain ⟨hcz4_0, hcz4_1, hcz4_2, hcz4_3, hcz4_4, hcz4_5, hcz4_6, hfz4_0, hfz4_1, hfz4_2, hfz4_3, hfz4_4, hfz4_5, hfz4_6⟩ := cellsF7 BK150.out))
  refine bodyPost_ret (results_cell_row rfl _ _ gb150 36 #[.string (⟨#[]⟩ : ByteArray), .string (⟨#[]⟩ : ByteArray), .int .i64 0, .slice none 0 0, .bool false, .int .i64 0, .int .i64 2] (0, 0) _ rfl (bq_ BK150) Tryd.underlying36 rfl (by kernel_rfl)) rfl ?_
  exact ⟨_, au2_2, au2_3, bl_⟩
 have c2b1 : decide (400 < l0.length) = false := n2_ c2b0
 by_cases c5 : (l0.length : Int) = 0
 ·rw [if_pos c5] at H
  have c5b0 : ((l0.length : Int) == 0) = true := beq_iff_eq.mpr c5
  have c5b1 : ((l0.length : Int) != 0) = false := bne_eq_false_iff_eq.mpr c5
  clear c5
  simp only [Option.some.injEq, Prod.mk.injEq] at H
  obtain ⟨rfl, rfl, rfl, rfl, rfl, rfl, rfl⟩ := H
  go_enter Tryd.func12, Tryd.ntmps12
  go_wp2_with (first | ((with_reducible refine gate_dst (N := 2) rfl ?_); refine be_ 2 #[.string (⟨#[]⟩ : ByteArray), .string (⟨#[]⟩ : ByteArray), .int .i64 0, .slice none 0 0, .bool false, .int .i64 0, .int .i64 0] 36 ?_; intro gb150 hg w6 hbox hb; have BK150 := am_ (hbox); have GW150 := am_ (gw_ hg bl_); have GE150 := GW150; replace HB := hs_ w hb; clear hb hbox hg; obtain ⟨hcz7_0, hcz7_1, hcz7_2, hcz7_3, hcz7_4, hcz7_5, hcz7_6, hfz7_0, hfz7_1, hfz7_2, hfz7_3, hfz7_4, hfz7_5, hfz7_6⟩ := cellsF7 BK150.out))
  refine bodyPost_ret (results_cell_row rfl _ _ gb150 36 #[.string (⟨#[]⟩ : ByteArray), .string (⟨#[]⟩ : ByteArray), .int .i64 0, .slice none 0 0, .bool false, .int .i64 0, .int .i64 6] (0, 0) _ rfl (bq_ BK150) Tryd.underlying36 rfl (by kernel_rfl)) rfl ?_
  exact ⟨_, au2_2, au2_3, bl_⟩
 rw [if_neg c5] at H
 have c5b0 : ((l0.length : Int) == 0) = false := beq_eq_false_iff_ne.mpr c5
 have c5b1 : ((l0.length : Int) != 0) = true := bne_iff_ne.mpr c5
 have c5b2 : ¬ (l0 = []) := fun h_ => c5 (by rw [h_]; rfl)
 by_cases c8 : 0 < (l0.length : Int)
 rotate_left
 ·rw [if_neg c8] at H
  exact absurd H (by simp)

 rw [if_pos c8] at H
 have c8b0 : decide (0 < (l0.length : Int)) = true := decide_eq_true c8
 have c8b1 : decide (0 < l0.length) = true := decide_eq_true (by omega)
 clear c8
 replace H := bi_ H; rcases H with ⟨t153, A9, H⟩
 replace H := bi_ H; rcases H with ⟨⟨t154, t155⟩, A10, H⟩
 replace H := bi_ H; rcases H with ⟨t156, A11, H⟩
 replace H := bi_ H; rcases H with ⟨t157, A12, H⟩
 replace H := bi_ H; rcases H with ⟨t159, A13, H⟩
 replace H := ib_ H; rcases H with ⟨rfl, H⟩ | ⟨rfl, H⟩
 rotate_left
 ·simp only [Option.some.injEq, Prod.mk.injEq] at H
  obtain ⟨rfl, rfl, rfl, rfl, rfl, rfl, rfl⟩ := H
  go_enter Tryd.func12, Tryd.ntmps12
  try go_wp2_with (first | ((with_reducible refine gate_dst (N := 2) rfl ?_); refine be_ 2 #[.string (⟨#[]⟩ : ByteArray), .string (⟨#[]⟩ : ByteArray), .int .i64 0, .slice none 0 0, .bool false, .int .i64 0, .int .i64 0] 36 ?_; intro gb150 hg w106 hbox hb; have BK150 := am_ (hbox); have GW150 := am_ (gw_ hg bl_); have GE150 := GW150; replace HB := hs_ w hb; clear hb hbox hg; have p151 : 0 ≤ (0 : Int) := (by omega); have q151 : 0 < (l0.length : Int) := od_; obtain ⟨ad151, A151_1, c151_1, e151, hx151_0, hx151_1, hl151_1, hi151_1⟩ := at_T52 HR0.out 0 p151 q151; cases e151; have qi151 : (0 < l0.length) = True := eq_true (by omega); (try rw [show ((0 : Int)).toNat = 0 from rfl] at hx151_0); (try rw [show 0 * 2 = 0 from rfl] at hx151_0); (try rw [Addr.add_zero'] at hx151_0); (try rw [show ((0 : Int)).toNat = 0 from rfl] at hx151_1); (try rw [show 0 * 2 = 0 from rfl] at hx151_1); (try rw [Addr.add_zero'] at hx151_1); replace hx151_0 := (HB.out.cell (World.block_lt_of_cell? _ _ hx151_0)).trans hx151_0; replace hx151_1 := (HB.out.cell (World.block_lt_of_cell? _ _ hx151_1)).trans hx151_1; have HR151_1 := am_ hi151_1; have HC151_1 := am_ hl151_1; clear hi151_1 hl151_1; replace p151 := eq_true p151; replace q151 := eq_true q151) | ((with_reducible refine gate_dst (N := 3) rfl ?_); refine be_ 3 #[.string (⟨#[]⟩ : ByteArray), .slice none 0 0] 52 ?_; intro gb152 hg w107 hbox hb; have BK152 := am_ (hbox); have GW152 := am_ (gw_ hg bl_); have GE152 := GW152; replace HB := hs_ w hb; have NB150_152 := am_ (gn_ hg (blkl_ BK150)); have NB152_150 := am_ (gm_ hg (blkl_ BK150)); replace BK150 := bb_ BK150 hb; clear hb hbox hg; have hnb108 := NB152_150.out; have hnc108 := NB150_152.out; obtain ⟨hcz109_0, hcz109_1, hfz109_0, hfz109_1⟩ := cellsF2 BK152.out) | ((with_reducible refine gate_callee (f := 31) rfl ?_); refine gl_ 20 Tryd.func31 #[.agg #[.string ((rd_T52 l0 0).f0), .slice A151_1 ((rd_T52 l0 0).f1).length c151_1], .int .i64 2, .int .i64 0] ?_ rfl rfl rfl rfl; (with_reducible refine (F31.calls ((rd_T52 l0 0).f0) _ _ ((rd_T52 l0 0).f1) 2 0 t153 _ ?s1 ?s2 A9.out).mono ?_); (case s1 => exact au2_11); (case s2 => exact HC151_1.out); rintro e w110 ⟨rfl, hb⟩; refine ⟨_, rfl, ?_⟩; replace BK150 := am_ (blk_below (g := gb150) (o := .cells #[.string (⟨#[]⟩ : ByteArray), .string (⟨#[]⟩ : ByteArray), .int .i64 0, .slice none 0 0, .bool false, .int .i64 0, .int .i64 0] 36 (0, 0)) (bf_ BK150) hb); replace BK152 := am_ (blk_below (g := gb152) (o := .cells #[.string ((rd_T52 l0 0).f0), .slice A151_1 ((rd_T52 l0 0).f1).length c151_1] 52 (0, 0)) (bq_ BK152) hb); replace HB := hs_ w hb; (try clear hb)) | ((with_reducible refine gate_callee (f := 30) rfl ?_); refine gl_ 21 Tryd.func30 #[.string t153] ?_ rfl rfl rfl rfl; (with_reducible refine (F30.calls k t153 t154 t155 _ A10.out).mono ?_); rintro e w111 ⟨rfl, hb⟩; refine ⟨_, rfl, ?_⟩; replace BK150 := bb_ BK150 hb; replace BK152 := bb_ BK152 hb; replace HB := hs_ w hb; (try clear hb)))
  replace BK150 := bd_ BK150
  replace BK152 := bd_ BK152
  replace HB := am_ (below_drew1 HB.out)
  refine start_ (n := 8) (S := fun w' => w'.cell? ⟨gb152, 0, none⟩ = some (.string ((rd_T52 l0 0).f0)) ∧ w'.cell? ⟨gb152, 1, none⟩ = some (.slice A151_1 ((rd_T52 l0 0).f1).length c151_1)) (ds := []) (bs 8 0) (by kernel_rfl) rfl rfl ⟨(blk_cell BK152.out 0).trans rfl, (blk_cell BK152.out 1).trans rfl⟩ (fun hHeld => ?_); refine with_tabW F12.tab7 F12.bits7 (fun HT_ HW_ => ?_)
  generalize w111.drew = w112 at BK150 BK152 HB hHeld ⊢
  refine pu_ 4 28 (bs 8 16) HT_ ?_ rfl rfl
  refine tk_ 0 24 (bs 8 17) HT_ HW_ hHeld au2_5 ?_ rfl rfl
  refine tk_ 2 26 (bs 8 21) HT_ HW_ hHeld au2_5 ?_ rfl rfl
  refine join_ (σ := Nat) 1 (bs 8 127) (fun s_ => [(25, .string t156), (27, .string t157), (6, .pointer (some ⟨s_, 0, none⟩)), (29, .agg #[.string t156, .string t157, .int .i64 t154, .slice none 0 0])]) (fun s_ w' => (w'.cell? ⟨gb152, 0, none⟩ = some (.string ((rd_T52 l0 0).f0)) ∧ w'.cell? ⟨gb152, 1, none⟩ = some (.slice A151_1 ((rd_T52 l0 0).f1).length c151_1)) ∧ (w'.heap[gb150]? = some (.cells #[.string (⟨#[]⟩ : ByteArray), .string (⟨#[]⟩ : ByteArray), .int .i64 0, .slice none 0 0, .bool false, .int .i64 0, .int .i64 0] 36 (0, 0))) ∧ (w'.heap[gb152]? = some (.cells #[.string ((rd_T52 l0 0).f0), .slice A151_1 ((rd_T52 l0 0).f1).length c151_1] 52 (0, 0))) ∧ (w'.heap[s_]? = some (.cells #[.string (⟨#[]⟩ : ByteArray), .string (⟨#[]⟩ : ByteArray), .int .i64 0, .slice none 0 0] 29 (0, 0))) ∧ (w.heap.size ≤ s_) ∧ (w.heap.size ≤ s_) ∧ (gb150 ≠ s_) ∧ (s_ ≠ gb150) ∧ (gb152 ≠ s_) ∧ (s_ ≠ gb152) ∧ (Below w.heap.size w w')) ?_ ?_
  rotate_left
  ·intro hCont
   refine two_ (i := 1) (j := 6) (Ni := some 25) (Nj := some 6) (bs 8 23) (bs 8 85) rfl rfl rfl rfl (two_of HT_.out (by kernel_rfl)) (by decide) (by decide) (fun K hK => ?_) (fun K hK => ?_)
   rotate_left
   ·skip
    refine box_step ?hg (N := 6) ?hd (cs := #[.string (⟨#[]⟩ : ByteArray), .string (⟨#[]⟩ : ByteArray), .int .i64 0, .slice none 0 0]) (t := 29) ?hr ?_; (case hd => rfl); (case hg => rfl); (case hr => exact hr_)
    intro gb158 hg w113 hbox hb
    have BK158 := am_ (hbox)
    have GW158 := am_ (gw_ hg bl_)
    have GE158 := am_ (gw_ hg bl_)
    replace HB := hs_ w hb
    have NB150_158 := am_ (gn_ hg (blkl_ BK150))
    have NB158_150 := am_ (gm_ hg (blkl_ BK150))
    replace BK150 := bb_ BK150 hb
    have NB152_158 := am_ (gn_ hg (blkl_ BK152))
    have NB158_152 := am_ (gm_ hg (blkl_ BK152))
    replace BK152 := bb_ BK152 hb
    clear hb hbox hg
    refine hK.out _ _ ⟨(blk_cell BK152.out 0).trans rfl, (blk_cell BK152.out 1).trans rfl⟩ (fun hHeld => ?_)
    clear hK K
    refine no_ 6 ?_
    refine one_ (i := 1) (N := some 25) (bs 8 87) rfl rfl (one_of HT_.out (by kernel_rfl)) (by decide) (fun K hK => ?_)
    refine gr_ Tryd.func31 #[.agg #[.string ((rd_T52 l0 0).f0), .slice A151_1 ((rd_T52 l0 0).f1).length c151_1], .int .i64 0, .int .i64 0] (by rfl) ?_ rfl rfl rfl
    with_reducible refine (F31.calls ((rd_T52 l0 0).f0) _ _ ((rd_T52 l0 0).f1) 0 0 t156 _ ?s1 ?s2 A11.out).mono ?_
    (case s1 => exact au2_0)
    (case s2 => exact HC151_1.out)
    rintro e w114 ⟨rfl, hb⟩
    refine ⟨_, rfl, ?_⟩
    replace BK150 := bb_ BK150 hb
    replace BK152 := bb_ BK152 hb
    replace BK158 := bb_ BK158 hb
    replace HB := hs_ w hb
    (try clear hb)
    (try clear hb2)
    (try clear hk)
    (try clear hi)
    refine hK.out _ _ ⟨(blk_cell BK152.out 0).trans rfl, (blk_cell BK152.out 1).trans rfl⟩ (fun hHeld => ?_)
    clear hK K
    refine no_ 25 ?_
    refine one_ (i := 3) (N := some 27) (bs 8 95) rfl rfl (one_of HT_.out (by kernel_rfl)) (by decide) (fun K hK => ?_)
    refine gr_ Tryd.func31 #[.agg #[.string ((rd_T52 l0 0).f0), .slice A151_1 ((rd_T52 l0 0).f1).length c151_1], .int .i64 1, .int .i64 0] (by rfl) ?_ rfl rfl rfl
    with_reducible refine (F31.calls ((rd_T52 l0 0).f0) _ _ ((rd_T52 l0 0).f1) 1 0 t157 _ ?s1 ?s2 A12.out).mono ?_
    (case s1 => exact au2_0)
    (case s2 => exact HC151_1.out)
    rintro e w115 ⟨rfl, hb⟩
    refine ⟨_, rfl, ?_⟩
    replace BK150 := bb_ BK150 hb
    replace BK152 := bb_ BK152 hb
    replace BK158 := bb_ BK158 hb
    replace HB := hs_ w hb
    (try clear hb)
    (try clear hb2)
    (try clear hk)
    (try clear hi)
    refine hK.out _ _ ⟨(blk_cell BK152.out 0).trans rfl, (blk_cell BK152.out 1).trans rfl⟩ (fun hHeld => ?_)
    clear hK K
    refine no_ 27 ?_
    refine pu_ 5 29 (bs 8 127) HT_ ?_ rfl rfl
    exact norm_ au2_1 (hCont (gb158) _ ⟨hHeld, (bk_ BK150), (bk_ BK152), (bk_ BK158), GW158.out, GE158.out, NB150_158.out, NB158_150.out, NB152_158.out, NB158_152.out, bl_⟩)
   skip
   refine gr_ Tryd.func31 #[.agg #[.string ((rd_T52 l0 0).f0), .slice A151_1 ((rd_T52 l0 0).f1).length c151_1], .int .i64 0, .int .i64 0] (by rfl) ?_ rfl rfl rfl
   with_reducible refine (F31.calls ((rd_T52 l0 0).f0) _ _ ((rd_T52 l0 0).f1) 0 0 t156 _ ?s1 ?s2 A11.out).mono ?_
   (case s1 => exact au2_0)
   (case s2 => exact HC151_1.out)
   rintro e w113 ⟨rfl, hb⟩
   refine ⟨_, rfl, ?_⟩
   replace BK150 := bb_ BK150 hb
   replace BK152 := bb_ BK152 hb
   replace HB := hs_ w hb
   (try clear hb)
   (try clear hb2)
   (try clear hk)
   (try clear hi)
   refine hK.out _ _ ⟨(blk_cell BK152.out 0).trans rfl, (blk_cell BK152.out 1).trans rfl⟩ (fun hHeld => ?_)
   clear hK K
   refine no_ 25 ?_
   refine two_ (i := 3) (j := 6) (Ni := some 27) (Nj := some 6) (bs 8 31) (bs 8 87) rfl rfl rfl rfl (two_of HT_.out (by kernel_rfl)) (by decide) (by decide) (fun K hK => ?_) (fun K hK => ?_)
   ·skip
    refine gr_ Tryd.func31 #[.agg #[.string ((rd_T52 l0 0).f0), .slice A151_1 ((rd_T52 l0 0).f1).length c151_1], .int .i64 1, .int .i64 0] (by rfl) ?_ rfl rfl rfl
    with_reducible refine (F31.calls ((rd_T52 l0 0).f0) _ _ ((rd_T52 l0 0).f1) 1 0 t157 _ ?s1 ?s2 A12.out).mono ?_
    (case s1 => exact au2_0)
    (case s2 => exact HC151_1.out)
    rintro e w114 ⟨rfl, hb⟩
    refine ⟨_, rfl, ?_⟩
    replace BK150 := bb_ BK150 hb
    replace BK152 := bb_ BK152 hb
    replace HB := hs_ w hb
    (try clear hb)
    (try clear hb2)
    (try clear hk)
    (try clear hi)
    refine hK.out _ _ ⟨(blk_cell BK152.out 0).trans rfl, (blk_cell BK152.out 1).trans rfl⟩ (fun hHeld => ?_)
    clear hK K
    refine no_ 27 ?_
    refine pu_ 5 29 (bs 8 63) HT_ ?_ rfl rfl
    refine one_ (i := 6) (N := some 6) (bs 8 127) rfl rfl (one_of HT_.out (by kernel_rfl)) (by decide) (fun K hK => ?_)
    refine box_step ?hg (N := 6) ?hd (cs := #[.string (⟨#[]⟩ : ByteArray), .string (⟨#[]⟩ : ByteArray), .int .i64 0, .slice none 0 0]) (t := 29) ?hr ?_; (case hd => rfl); (case hg => rfl); (case hr => exact hr_)
    intro gb158 hg w115 hbox hb
    have BK158 := am_ (hbox)
    have GW158 := am_ (gw_ hg bl_)
    have GE158 := am_ (gw_ hg bl_)
    replace HB := hs_ w hb
    have NB150_158 := am_ (gn_ hg (blkl_ BK150))
    have NB158_150 := am_ (gm_ hg (blkl_ BK150))
    replace BK150 := bb_ BK150 hb
    have NB152_158 := am_ (gn_ hg (blkl_ BK152))
    have NB158_152 := am_ (gm_ hg (blkl_ BK152))
    replace BK152 := bb_ BK152 hb
    clear hb hbox hg
    refine hK.out _ _ ⟨(blk_cell BK152.out 0).trans rfl, (blk_cell BK152.out 1).trans rfl⟩ (fun hHeld => ?_)
    clear hK K
    refine no_ 6 ?_
    exact norm_ au2_1 (hCont (gb158) _ ⟨hHeld, (bk_ BK150), (bk_ BK152), (bk_ BK158), GW158.out, GE158.out, NB150_158.out, NB158_150.out, NB152_158.out, NB158_152.out, bl_⟩)
   skip
   refine box_step ?hg (N := 6) ?hd (cs := #[.string (⟨#[]⟩ : ByteArray), .string (⟨#[]⟩ : ByteArray), .int .i64 0, .slice none 0 0]) (t := 29) ?hr ?_; (case hd => rfl); (case hg => rfl); (case hr => exact hr_)
   intro gb158 hg w114 hbox hb
   have BK158 := am_ (hbox)
   have GW158 := am_ (gw_ hg bl_)
   have GE158 := am_ (gw_ hg bl_)
   replace HB := hs_ w hb
   have NB150_158 := am_ (gn_ hg (blkl_ BK150))
   have NB158_150 := am_ (gm_ hg (blkl_ BK150))
   replace BK150 := bb_ BK150 hb
   have NB152_158 := am_ (gn_ hg (blkl_ BK152))
   have NB158_152 := am_ (gm_ hg (blkl_ BK152))
   replace BK152 := bb_ BK152 hb
   clear hb hbox hg
   refine hK.out _ _ ⟨(blk_cell BK152.out 0).trans rfl, (blk_cell BK152.out 1).trans rfl⟩ (fun hHeld => ?_)
   clear hK K
   refine no_ 6 ?_
   refine one_ (i := 3) (N := some 27) (bs 8 95) rfl rfl (one_of HT_.out (by kernel_rfl)) (by decide) (fun K hK => ?_)
   refine gr_ Tryd.func31 #[.agg #[.string ((rd_T52 l0 0).f0), .slice A151_1 ((rd_T52 l0 0).f1).length c151_1], .int .i64 1, .int .i64 0] (by rfl) ?_ rfl rfl rfl
   with_reducible refine (F31.calls ((rd_T52 l0 0).f0) _ _ ((rd_T52 l0 0).f1) 1 0 t157 _ ?s1 ?s2 A12.out).mono ?_
   (case s1 => exact au2_0)
   (case s2 => exact HC151_1.out)
   rintro e w115 ⟨rfl, hb⟩
   refine ⟨_, rfl, ?_⟩
   replace BK150 := bb_ BK150 hb
   replace BK152 := bb_ BK152 hb
   replace BK158 := bb_ BK158 hb
   replace HB := hs_ w hb
   (try clear hb)
   (try clear hb2)
   (try clear hk)
   (try clear hi)
   refine hK.out _ _ ⟨(blk_cell BK152.out 0).trans rfl, (blk_cell BK152.out 1).trans rfl⟩ (fun hHeld => ?_)
   clear hK K
   refine no_ 27 ?_
   refine pu_ 5 29 (bs 8 127) HT_ ?_ rfl rfl
   exact norm_ au2_1 (hCont (gb158) _ ⟨hHeld, (bk_ BK150), (bk_ BK152), (bk_ BK158), GW158.out, GE158.out, NB150_158.out, NB158_150.out, NB152_158.out, NB158_152.out, bl_⟩)
  rintro gb158 w116 ⟨hS_, h0_, h1_, h2_, h3_, h4_, h5_, h6_, h7_, h8_, h9_⟩
  have n0_ : Aside0 (w116.heap[gb150]? = some (.cells #[.string (⟨#[]⟩ : ByteArray), .string (⟨#[]⟩ : ByteArray), .int .i64 0, .slice none 0 0, .bool false, .int .i64 0, .int .i64 0] 36 (0, 0))) := ⟨h0_⟩
  have n1_ : Aside0 (w116.heap[gb152]? = some (.cells #[.string ((rd_T52 l0 0).f0), .slice A151_1 ((rd_T52 l0 0).f1).length c151_1] 52 (0, 0))) := ⟨h1_⟩
  have n2_ : Aside0 (w116.heap[gb158]? = some (.cells #[.string (⟨#[]⟩ : ByteArray), .string (⟨#[]⟩ : ByteArray), .int .i64 0, .slice none 0 0] 29 (0, 0))) := ⟨h2_⟩
  have n3_ : Aside0 (w.heap.size ≤ gb158) := ⟨h3_⟩
  have n4_ : Aside0 (w.heap.size ≤ gb158) := ⟨h4_⟩
  have n5_ : Aside0 (gb150 ≠ gb158) := ⟨h5_⟩
  have n6_ : Aside0 (gb158 ≠ gb150) := ⟨h6_⟩
  have n7_ : Aside0 (gb152 ≠ gb158) := ⟨h7_⟩
  have n8_ : Aside0 (gb158 ≠ gb152) := ⟨h8_⟩
  have n9_ : Aside0 (Below w.heap.size w w116) := ⟨h9_⟩
  clear BK150
  clear BK152
  clear HB
  clear h0_ h1_ h2_ h3_ h4_ h5_ h6_ h7_ h8_ h9_
  have BK150 := n0_
  have BK152 := n1_
  have BK158 := n2_
  have GW158 := n3_
  have GE158 := n4_
  have NB150_158 := n5_
  have NB158_150 := n6_
  have NB152_158 := n7_
  have NB158_152 := n8_
  have HB := n9_
  clear n0_ n1_ n2_ n3_ n4_ n5_ n6_ n7_ n8_ n9_
  have hHeld : w116.cell? ⟨gb152, 0, none⟩ = some (.string ((rd_T52 l0 0).f0)) ∧ w116.cell? ⟨gb152, 1, none⟩ = some (.slice A151_1 ((rd_T52 l0 0).f1).length c151_1) := hS_
  refine norm_ (a' := ?_) ?_ ?_
  rotate_left
  ·simp only [putAll, Act.put, List.setIfInBounds_toArray, List.set_cons_zero, List.set_cons_succ]
   rfl
  refine one_ (i := 7) (N := none) (bs 8 255) rfl rfl (one_of HT_.out (by kernel_rfl)) (by decide) (fun K hK => ?_)
  have hs117 : w116.cell? ⟨gb158, 0, none⟩ = some (.string (⟨#[]⟩ : ByteArray)) := (blk_cell BK158.out 0).trans rfl
  have hfs117 := blk_frozen BK158.out 0
  have hns117_0 := NB150_158.out
  have hns117_1 := NB152_158.out
  have hms117_0 := NB158_150.out
  have hms117_1 := NB158_152.out
  have hs118 : w116.cell? ⟨gb158, 1, none⟩ = some (.string (⟨#[]⟩ : ByteArray)) := (blk_cell BK158.out 1).trans rfl
  have hfs118 := blk_frozen BK158.out 1
  have hns118_0 := NB150_158.out
  have hns118_1 := NB152_158.out
  have hms118_0 := NB158_150.out
  have hms118_1 := NB158_152.out
  have hs119 : w116.cell? ⟨gb158, 2, none⟩ = some (.int .i64 0) := (blk_cell BK158.out 2).trans rfl
  have hfs119 := blk_frozen BK158.out 2
  have hns119_0 := NB150_158.out
  have hns119_1 := NB152_158.out
  have hms119_0 := NB158_150.out
  have hms119_1 := NB158_152.out
  have hs120 : w116.cell? ⟨gb158, 3, none⟩ = some (.slice none 0 0) := (blk_cell BK158.out 3).trans rfl
  have hfs120 := blk_frozen BK158.out 3
  have hns120_0 := NB150_158.out
  have hns120_1 := NB152_158.out
  have hms120_0 := NB158_150.out
  have hms120_1 := NB158_152.out
  refine skip_ (w1 := ?_) (by rfl) rfl ?_ ?_
  rotate_left
  ·go_simp
   rfl
  refine hK.out _ _ ⟨((cell_far (p := ⟨gb158, _, none⟩) NB152_158.out _).trans (((cell_far (p := ⟨gb158, _, none⟩) NB152_158.out _).trans (((cell_far (p := ⟨gb158, _, none⟩) NB152_158.out _).trans (((cell_far (p := ⟨gb158, _, none⟩) NB152_158.out _).trans (hHeld.1)))))))), ((cell_far (p := ⟨gb158, _, none⟩) NB152_158.out _).trans (((cell_far (p := ⟨gb158, _, none⟩) NB152_158.out _).trans (((cell_far (p := ⟨gb158, _, none⟩) NB152_158.out _).trans (((cell_far (p := ⟨gb158, _, none⟩) NB152_158.out _).trans (hHeld.2))))))))⟩ (fun hHeld => ?_)
  clear hK K
  refine done_ (done_of HT_.out (by kernel_rfl)) ?_
  try go_wp2
  have n0_ : Aside0 (((((w116.setCell ⟨gb158, 0, none⟩ (.string t156)).setCell ⟨gb158, 1, none⟩ (.string t157)).setCell ⟨gb158, 2, none⟩ (.int .i64 t154)).setCell ⟨gb158, 3, none⟩ (.slice none 0 0)).heap[gb150]? = some (.cells #[.string (⟨#[]⟩ : ByteArray), .string (⟨#[]⟩ : ByteArray), .int .i64 0, .slice none 0 0, .bool false, .int .i64 0, .int .i64 0] 36 (0, 0))) := ⟨bf_ BK150⟩
  have n1_ : Aside0 (((((w116.setCell ⟨gb158, 0, none⟩ (.string t156)).setCell ⟨gb158, 1, none⟩ (.string t157)).setCell ⟨gb158, 2, none⟩ (.int .i64 t154)).setCell ⟨gb158, 3, none⟩ (.slice none 0 0)).heap[gb152]? = some (.cells #[.string ((rd_T52 l0 0).f0), .slice A151_1 ((rd_T52 l0 0).f1).length c151_1] 52 (0, 0))) := ⟨bf_ BK152⟩
  have n2_ : Aside0 (((((w116.setCell ⟨gb158, 0, none⟩ (.string t156)).setCell ⟨gb158, 1, none⟩ (.string t157)).setCell ⟨gb158, 2, none⟩ (.int .i64 t154)).setCell ⟨gb158, 3, none⟩ (.slice none 0 0)).heap[gb158]? = some (.cells #[.string t156, .string t157, .int .i64 t154, .slice none 0 0] 29 (0, 0))) := ⟨bq_ BK158⟩
  have n3_ : Aside0 (Below w.heap.size w ((((w116.setCell ⟨gb158, 0, none⟩ (.string t156)).setCell ⟨gb158, 1, none⟩ (.string t157)).setCell ⟨gb158, 2, none⟩ (.int .i64 t154)).setCell ⟨gb158, 3, none⟩ (.slice none 0 0))) := ⟨bl_⟩
  (try clear BK150)
  (try clear BK152)
  (try clear BK158)
  (try clear HB)
  generalize ((((w116.setCell ⟨gb158, 0, none⟩ (.string t156)).setCell ⟨gb158, 1, none⟩ (.string t157)).setCell ⟨gb158, 2, none⟩ (.int .i64 t154)).setCell ⟨gb158, 3, none⟩ (.slice none 0 0)) = w121 at n0_ n1_ n2_ n3_ ⊢
  have BK150 := n0_
  have BK152 := n1_
  have BK158 := n2_
  have HB := n3_
  clear n0_ n1_ n2_ n3_
  replace BK150 := bd_ BK150
  replace BK152 := bd_ BK152
  replace BK158 := bd_ BK158
  replace HB := am_ (below_drew1 HB.out)
  refine start_ (n := 22) (S := fun w' => w'.cell? ⟨gb158, 0, none⟩ = some (.string t156) ∧ w'.cell? ⟨gb158, 1, none⟩ = some (.string t157) ∧ w'.cell? ⟨gb158, 2, none⟩ = some (.int .i64 t154) ∧ w'.cell? ⟨gb158, 3, none⟩ = some (.slice none 0 0)) (ds := []) (bs 22 0) (by kernel_rfl) rfl rfl ⟨(blk_cell BK158.out 0).trans rfl, (blk_cell BK158.out 1).trans rfl, (blk_cell BK158.out 2).trans rfl, (blk_cell BK158.out 3).trans rfl⟩ (fun hHeld => ?_); refine with_tabW F12.tab8 F12.bits8 (fun HT_ HW_ => ?_)
  generalize w121.drew = w122 at BK150 BK152 BK158 HB hHeld ⊢
  refine pu_ 0 30 (bs 22 1) HT_ ?_ rfl rfl
  refine tk_ 1 31 (bs 22 3) HT_ HW_ hHeld au2_7 ?_ rfl rfl
  refine one_ (i := 2) (N := some 32) (bs 22 7) rfl rfl (one_of HT_.out (by kernel_rfl)) (by decide) (fun K hK => ?_)
  refine gr_ Tryd.func32 #[.string t156] (by rfl) ?_ rfl rfl rfl
  with_reducible refine (F32.calls k t156 false _ A13.out).mono ?_
  rintro e w' ⟨rfl, ⟨nd, rfl⟩⟩
  refine ⟨_, rfl, ?_⟩
  refine hK.out _ _ ⟨(blk_cell BK158.out 0).trans rfl, (blk_cell BK158.out 1).trans rfl, (blk_cell BK158.out 2).trans rfl, (blk_cell BK158.out 3).trans rfl⟩ (fun hHeld => ?_)
  clear hK K
  refine no_ 32 ?_
  refine pu_ 3 33 (bs 22 15) HT_ ?_ rfl rfl
  refine pu_ 4 34 (bs 22 31) HT_ ?_ rfl rfl
  refine pv_ 5 35 (bs 22 63) HT_ ?_ rfl rfl
  refine pv_ 6 36 (bs 22 127) HT_ ?_ rfl rfl
  refine pv_ 7 37 (bs 22 255) HT_ ?_ rfl rfl
  refine pv_ 8 38 (bs 22 511) HT_ ?_ rfl rfl
  refine pu_ 9 39 (bs 22 1023) HT_ ?_ rfl rfl
  refine pu_ 10 40 (bs 22 2047) HT_ ?_ rfl rfl
  refine pv_ 11 41 (bs 22 4095) HT_ ?_ rfl rfl
  refine pv_ 12 42 (bs 22 8191) HT_ ?_ rfl rfl
  refine pv_ 13 43 (bs 22 16383) HT_ ?_ rfl rfl
  refine pu_ 14 44 (bs 22 32767) HT_ ?_ rfl rfl
  refine pu_ 15 45 (bs 22 65535) HT_ ?_ rfl rfl
  refine pv_ 16 46 (bs 22 131071) HT_ ?_ rfl rfl
  refine pv_ 17 47 (bs 22 262143) HT_ ?_ rfl rfl
  refine pv_ 18 48 (bs 22 524287) HT_ ?_ rfl rfl
  refine pv_ 19 49 (bs 22 1048575) HT_ ?_ rfl rfl
  refine pv_ 20 50 (bs 22 2097151) HT_ ?_ rfl rfl
  refine pu_ 21 51 (bs 22 4194303) HT_ ?_ rfl rfl
  refine done_ (done_of HT_.out (by kernel_rfl)) ?_
  have hnb123 := NB150_158.out
  have hnc123 := NB158_150.out
  obtain ⟨hcz124_0, hcz124_1, hcz124_2, hcz124_3, hcz124_4, hcz124_5, hcz124_6, hfz124_0, hfz124_1, hfz124_2, hfz124_3, hfz124_4, hfz124_5, hfz124_6⟩ := cellsF7 BK150.out
  try go_wp2
  refine bodyPost_ret (results_cell_row rfl _ _ gb150 36 #[.string (⟨#[]⟩ : ByteArray), .string (⟨#[]⟩ : ByteArray), .int .i64 0, .slice none 0 0, .bool false, .int .i64 0, .int .i64 3] (0, 0) _ rfl (bq_ BK150) Tryd.underlying36 rfl (by kernel_rfl)) rfl ?_
  exact ⟨_, au2_2, au2_3, bl_⟩
 replace H := bi_ H; rcases H with ⟨t160, A15, H⟩
 replace H := ib_ H; rcases H with ⟨rfl, H⟩ | ⟨rfl, H⟩
 rotate_left
 ·simp only [Option.some.injEq, Prod.mk.injEq] at H
  obtain ⟨rfl, rfl, rfl, rfl, rfl, rfl, rfl⟩ := H
  go_enter Tryd.func12, Tryd.ntmps12
  try go_wp2_with (first | ((with_reducible refine gate_dst (N := 2) rfl ?_); refine be_ 2 #[.string (⟨#[]⟩ : ByteArray), .string (⟨#[]⟩ : ByteArray), .int .i64 0, .slice none 0 0, .bool false, .int .i64 0, .int .i64 0] 36 ?_; intro gb150 hg w87 hbox hb; have BK150 := am_ (hbox); have GW150 := am_ (gw_ hg bl_); have GE150 := GW150; replace HB := hs_ w hb; clear hb hbox hg; have p151 : 0 ≤ (0 : Int) := (by omega); have q151 : 0 < (l0.length : Int) := od_; obtain ⟨ad151, A151_1, c151_1, e151, hx151_0, hx151_1, hl151_1, hi151_1⟩ := at_T52 HR0.out 0 p151 q151; cases e151; have qi151 : (0 < l0.length) = True := eq_true (by omega); (try rw [show ((0 : Int)).toNat = 0 from rfl] at hx151_0); (try rw [show 0 * 2 = 0 from rfl] at hx151_0); (try rw [Addr.add_zero'] at hx151_0); (try rw [show ((0 : Int)).toNat = 0 from rfl] at hx151_1); (try rw [show 0 * 2 = 0 from rfl] at hx151_1); (try rw [Addr.add_zero'] at hx151_1); replace hx151_0 := (HB.out.cell (World.block_lt_of_cell? _ _ hx151_0)).trans hx151_0; replace hx151_1 := (HB.out.cell (World.block_lt_of_cell? _ _ hx151_1)).trans hx151_1; have HR151_1 := am_ hi151_1; have HC151_1 := am_ hl151_1; clear hi151_1 hl151_1; replace p151 := eq_true p151; replace q151 := eq_true q151) | ((with_reducible refine gate_dst (N := 3) rfl ?_); refine be_ 3 #[.string (⟨#[]⟩ : ByteArray), .slice none 0 0] 52 ?_; intro gb152 hg w88 hbox hb; have BK152 := am_ (hbox); have GW152 := am_ (gw_ hg bl_); have GE152 := GW152; replace HB := hs_ w hb; have NB150_152 := am_ (gn_ hg (blkl_ BK150)); have NB152_150 := am_ (gm_ hg (blkl_ BK150)); replace BK150 := bb_ BK150 hb; clear hb hbox hg; have hnb89 := NB152_150.out; have hnc89 := NB150_152.out; obtain ⟨hcz90_0, hcz90_1, hfz90_0, hfz90_1⟩ := cellsF2 BK152.out) | ((with_reducible refine gate_callee (f := 31) rfl ?_); refine gl_ 20 Tryd.func31 #[.agg #[.string ((rd_T52 l0 0).f0), .slice A151_1 ((rd_T52 l0 0).f1).length c151_1], .int .i64 2, .int .i64 0] ?_ rfl rfl rfl rfl; (with_reducible refine (F31.calls ((rd_T52 l0 0).f0) _ _ ((rd_T52 l0 0).f1) 2 0 t153 _ ?s1 ?s2 A9.out).mono ?_); (case s1 => exact au2_11); (case s2 => exact HC151_1.out); rintro e w91 ⟨rfl, hb⟩; refine ⟨_, rfl, ?_⟩; replace BK150 := am_ (blk_below (g := gb150) (o := .cells #[.string (⟨#[]⟩ : ByteArray), .string (⟨#[]⟩ : ByteArray), .int .i64 0, .slice none 0 0, .bool false, .int .i64 0, .int .i64 0] 36 (0, 0)) (bf_ BK150) hb); replace BK152 := am_ (blk_below (g := gb152) (o := .cells #[.string ((rd_T52 l0 0).f0), .slice A151_1 ((rd_T52 l0 0).f1).length c151_1] 52 (0, 0)) (bq_ BK152) hb); replace HB := hs_ w hb; (try clear hb)) | ((with_reducible refine gate_callee (f := 30) rfl ?_); refine gl_ 21 Tryd.func30 #[.string t153] ?_ rfl rfl rfl rfl; (with_reducible refine (F30.calls k t153 t154 t155 _ A10.out).mono ?_); rintro e w92 ⟨rfl, hb⟩; refine ⟨_, rfl, ?_⟩; replace BK150 := bb_ BK150 hb; replace BK152 := bb_ BK152 hb; replace HB := hs_ w hb; (try clear hb)))
  replace BK150 := bd_ BK150
  replace BK152 := bd_ BK152
  replace HB := am_ (below_drew1 HB.out)
  refine start_ (n := 8) (S := fun w' => w'.cell? ⟨gb152, 0, none⟩ = some (.string ((rd_T52 l0 0).f0)) ∧ w'.cell? ⟨gb152, 1, none⟩ = some (.slice A151_1 ((rd_T52 l0 0).f1).length c151_1)) (ds := []) (bs 8 0) (by kernel_rfl) rfl rfl ⟨(blk_cell BK152.out 0).trans rfl, (blk_cell BK152.out 1).trans rfl⟩ (fun hHeld => ?_); refine with_tabW F12.tab7 F12.bits7 (fun HT_ HW_ => ?_)
  generalize w92.drew = w93 at BK150 BK152 HB hHeld ⊢
  refine pu_ 4 28 (bs 8 16) HT_ ?_ rfl rfl
  refine tk_ 0 24 (bs 8 17) HT_ HW_ hHeld au2_5 ?_ rfl rfl
  refine tk_ 2 26 (bs 8 21) HT_ HW_ hHeld au2_5 ?_ rfl rfl
  refine join_ (σ := Nat) 1 (bs 8 127) (fun s_ => [(25, .string t156), (27, .string t157), (6, .pointer (some ⟨s_, 0, none⟩)), (29, .agg #[.string t156, .string t157, .int .i64 t154, .slice none 0 0])]) (fun s_ w' => (w'.cell? ⟨gb152, 0, none⟩ = some (.string ((rd_T52 l0 0).f0)) ∧ w'.cell? ⟨gb152, 1, none⟩ = some (.slice A151_1 ((rd_T52 l0 0).f1).length c151_1)) ∧ (w'.heap[gb150]? = some (.cells #[.string (⟨#[]⟩ : ByteArray), .string (⟨#[]⟩ : ByteArray), .int .i64 0, .slice none 0 0, .bool false, .int .i64 0, .int .i64 0] 36 (0, 0))) ∧ (w'.heap[gb152]? = some (.cells #[.string ((rd_T52 l0 0).f0), .slice A151_1 ((rd_T52 l0 0).f1).length c151_1] 52 (0, 0))) ∧ (w'.heap[s_]? = some (.cells #[.string (⟨#[]⟩ : ByteArray), .string (⟨#[]⟩ : ByteArray), .int .i64 0, .slice none 0 0] 29 (0, 0))) ∧ (w.heap.size ≤ s_) ∧ (w.heap.size ≤ s_) ∧ (gb150 ≠ s_) ∧ (s_ ≠ gb150) ∧ (gb152 ≠ s_) ∧ (s_ ≠ gb152) ∧ (Below w.heap.size w w')) ?_ ?_
  rotate_left
  ·intro hCont
   refine two_ (i := 1) (j := 6) (Ni := some 25) (Nj := some 6) (bs 8 23) (bs 8 85) rfl rfl rfl rfl (two_of HT_.out (by kernel_rfl)) (by decide) (by decide) (fun K hK => ?_) (fun K hK => ?_)
   rotate_left
   ·skip
    refine box_step ?hg (N := 6) ?hd (cs := #[.string (⟨#[]⟩ : ByteArray), .string (⟨#[]⟩ : ByteArray), .int .i64 0, .slice none 0 0]) (t := 29) ?hr ?_; (case hd => rfl); (case hg => rfl); (case hr => exact hr_)
    intro gb158 hg w94 hbox hb
    have BK158 := am_ (hbox)
    have GW158 := am_ (gw_ hg bl_)
    have GE158 := am_ (gw_ hg bl_)
    replace HB := hs_ w hb
    have NB150_158 := am_ (gn_ hg (blkl_ BK150))
    have NB158_150 := am_ (gm_ hg (blkl_ BK150))
    replace BK150 := bb_ BK150 hb
    have NB152_158 := am_ (gn_ hg (blkl_ BK152))
    have NB158_152 := am_ (gm_ hg (blkl_ BK152))
    replace BK152 := bb_ BK152 hb
    clear hb hbox hg
    refine hK.out _ _ ⟨(blk_cell BK152.out 0).trans rfl, (blk_cell BK152.out 1).trans rfl⟩ (fun hHeld => ?_)
    clear hK K
    refine no_ 6 ?_
    refine one_ (i := 1) (N := some 25) (bs 8 87) rfl rfl (one_of HT_.out (by kernel_rfl)) (by decide) (fun K hK => ?_)
    refine gr_ Tryd.func31 #[.agg #[.string ((rd_T52 l0 0).f0), .slice A151_1 ((rd_T52 l0 0).f1).length c151_1], .int .i64 0, .int .i64 0] (by rfl) ?_ rfl rfl rfl
    with_reducible refine (F31.calls ((rd_T52 l0 0).f0) _ _ ((rd_T52 l0 0).f1) 0 0 t156 _ ?s1 ?s2 A11.out).mono ?_
    (case s1 => exact au2_0)
    (case s2 => exact HC151_1.out)
    rintro e w95 ⟨rfl, hb⟩
    refine ⟨_, rfl, ?_⟩
    replace BK150 := bb_ BK150 hb
    replace BK152 := bb_ BK152 hb
    replace BK158 := bb_ BK158 hb
    replace HB := hs_ w hb
    (try clear hb)
    (try clear hb2)
    (try clear hk)
    (try clear hi)
    refine hK.out _ _ ⟨(blk_cell BK152.out 0).trans rfl, (blk_cell BK152.out 1).trans rfl⟩ (fun hHeld => ?_)
    clear hK K
    refine no_ 25 ?_
    refine one_ (i := 3) (N := some 27) (bs 8 95) rfl rfl (one_of HT_.out (by kernel_rfl)) (by decide) (fun K hK => ?_)
    refine gr_ Tryd.func31 #[.agg #[.string ((rd_T52 l0 0).f0), .slice A151_1 ((rd_T52 l0 0).f1).length c151_1], .int .i64 1, .int .i64 0] (by rfl) ?_ rfl rfl rfl
    with_reducible refine (F31.calls ((rd_T52 l0 0).f0) _ _ ((rd_T52 l0 0).f1) 1 0 t157 _ ?s1 ?s2 A12.out).mono ?_
    (case s1 => exact au2_0)
    (case s2 => exact HC151_1.out)
    rintro e w96 ⟨rfl, hb⟩
    refine ⟨_, rfl, ?_⟩
    replace BK150 := bb_ BK150 hb
    replace BK152 := bb_ BK152 hb
    replace BK158 := bb_ BK158 hb
    replace HB := hs_ w hb
    (try clear hb)
    (try clear hb2)
    (try clear hk)
    (try clear hi)
    refine hK.out _ _ ⟨(blk_cell BK152.out 0).trans rfl, (blk_cell BK152.out 1).trans rfl⟩ (fun hHeld => ?_)
    clear hK K
    refine no_ 27 ?_
    refine pu_ 5 29 (bs 8 127) HT_ ?_ rfl rfl
    exact norm_ au2_1 (hCont (gb158) _ ⟨hHeld, (bk_ BK150), (bk_ BK152), (bk_ BK158), GW158.out, GE158.out, NB150_158.out, NB158_150.out, NB152_158.out, NB158_152.out, bl_⟩)
   skip
   refine gr_ Tryd.func31 #[.agg #[.string ((rd_T52 l0 0).f0), .slice A151_1 ((rd_T52 l0 0).f1).length c151_1], .int .i64 0, .int .i64 0] (by rfl) ?_ rfl rfl rfl
   with_reducible refine (F31.calls ((rd_T52 l0 0).f0) _ _ ((rd_T52 l0 0).f1) 0 0 t156 _ ?s1 ?s2 A11.out).mono ?_
   (case s1 => exact au2_0)
   (case s2 => exact HC151_1.out)
   rintro e w94 ⟨rfl, hb⟩
   refine ⟨_, rfl, ?_⟩
   replace BK150 := bb_ BK150 hb
   replace BK152 := bb_ BK152 hb
   replace HB := hs_ w hb
   (try clear hb)
   (try clear hb2)
   (try clear hk)
   (try clear hi)
   refine hK.out _ _ ⟨(blk_cell BK152.out 0).trans rfl, (blk_cell BK152.out 1).trans rfl⟩ (fun hHeld => ?_)
   clear hK K
   refine no_ 25 ?_
   refine two_ (i := 3) (j := 6) (Ni := some 27) (Nj := some 6) (bs 8 31) (bs 8 87) rfl rfl rfl rfl (two_of HT_.out (by kernel_rfl)) (by decide) (by decide) (fun K hK => ?_) (fun K hK => ?_)
   ·skip
    refine gr_ Tryd.func31 #[.agg #[.string ((rd_T52 l0 0).f0), .slice A151_1 ((rd_T52 l0 0).f1).length c151_1], .int .i64 1, .int .i64 0] (by rfl) ?_ rfl rfl rfl
    with_reducible refine (F31.calls ((rd_T52 l0 0).f0) _ _ ((rd_T52 l0 0).f1) 1 0 t157 _ ?s1 ?s2 A12.out).mono ?_
    (case s1 => exact au2_0)
    (case s2 => exact HC151_1.out)
    rintro e w95 ⟨rfl, hb⟩
    refine ⟨_, rfl, ?_⟩
    replace BK150 := bb_ BK150 hb
    replace BK152 := bb_ BK152 hb
    replace HB := hs_ w hb
    (try clear hb)
    (try clear hb2)
    (try clear hk)
    (try clear hi)
    refine hK.out _ _ ⟨(blk_cell BK152.out 0).trans rfl, (blk_cell BK152.out 1).trans rfl⟩ (fun hHeld => ?_)
    clear hK K
    refine no_ 27 ?_
    refine pu_ 5 29 (bs 8 63) HT_ ?_ rfl rfl
    refine one_ (i := 6) (N := some 6) (bs 8 127) rfl rfl (one_of HT_.out (by kernel_rfl)) (by decide) (fun K hK => ?_)
    refine box_step ?hg (N := 6) ?hd (cs := #[.string (⟨#[]⟩ : ByteArray), .string (⟨#[]⟩ : ByteArray), .int .i64 0, .slice none 0 0]) (t := 29) ?hr ?_; (case hd => rfl); (case hg => rfl); (case hr => exact hr_)
    intro gb158 hg w96 hbox hb
    have BK158 := am_ (hbox)
    have GW158 := am_ (gw_ hg bl_)
    have GE158 := am_ (gw_ hg bl_)
    replace HB := hs_ w hb
    have NB150_158 := am_ (gn_ hg (blkl_ BK150))
    have NB158_150 := am_ (gm_ hg (blkl_ BK150))
    replace BK150 := bb_ BK150 hb
    have NB152_158 := am_ (gn_ hg (blkl_ BK152))
    have NB158_152 := am_ (gm_ hg (blkl_ BK152))
    replace BK152 := bb_ BK152 hb
    clear hb hbox hg
    refine hK.out _ _ ⟨(blk_cell BK152.out 0).trans rfl, (blk_cell BK152.out 1).trans rfl⟩ (fun hHeld => ?_)
    clear hK K
    refine no_ 6 ?_
    exact norm_ au2_1 (hCont (gb158) _ ⟨hHeld, (bk_ BK150), (bk_ BK152), (bk_ BK158), GW158.out, GE158.out, NB150_158.out, NB158_150.out, NB152_158.out, NB158_152.out, bl_⟩)
   skip
   refine box_step ?hg (N := 6) ?hd (cs := #[.string (⟨#[]⟩ : ByteArray), .string (⟨#[]⟩ : ByteArray), .int .i64 0, .slice none 0 0]) (t := 29) ?hr ?_; (case hd => rfl); (case hg => rfl); (case hr => exact hr_)
   intro gb158 hg w95 hbox hb
   have BK158 := am_ (hbox)
   have GW158 := am_ (gw_ hg bl_)
   have GE158 := am_ (gw_ hg bl_)
   replace HB := hs_ w hb
   have NB150_158 := am_ (gn_ hg (blkl_ BK150))
   have NB158_150 := am_ (gm_ hg (blkl_ BK150))
   replace BK150 := bb_ BK150 hb
   have NB152_158 := am_ (gn_ hg (blkl_ BK152))
   have NB158_152 := am_ (gm_ hg (blkl_ BK152))
   replace BK152 := bb_ BK152 hb
   clear hb hbox hg
   refine hK.out _ _ ⟨(blk_cell BK152.out 0).trans rfl, (blk_cell BK152.out 1).trans rfl⟩ (fun hHeld => ?_)
   clear hK K
   refine no_ 6 ?_
   refine one_ (i := 3) (N := some 27) (bs 8 95) rfl rfl (one_of HT_.out (by kernel_rfl)) (by decide) (fun K hK => ?_)
   refine gr_ Tryd.func31 #[.agg #[.string ((rd_T52 l0 0).f0), .slice A151_1 ((rd_T52 l0 0).f1).length c151_1], .int .i64 1, .int .i64 0] (by rfl) ?_ rfl rfl rfl
   with_reducible refine (F31.calls ((rd_T52 l0 0).f0) _ _ ((rd_T52 l0 0).f1) 1 0 t157 _ ?s1 ?s2 A12.out).mono ?_
   (case s1 => exact au2_0)
   (case s2 => exact HC151_1.out)
   rintro e w96 ⟨rfl, hb⟩
   refine ⟨_, rfl, ?_⟩
   replace BK150 := bb_ BK150 hb
   replace BK152 := bb_ BK152 hb
   replace BK158 := bb_ BK158 hb
   replace HB := hs_ w hb
   (try clear hb)
   (try clear hb2)
   (try clear hk)
   (try clear hi)
   refine hK.out _ _ ⟨(blk_cell BK152.out 0).trans rfl, (blk_cell BK152.out 1).trans rfl⟩ (fun hHeld => ?_)
   clear hK K
   refine no_ 27 ?_
   refine pu_ 5 29 (bs 8 127) HT_ ?_ rfl rfl
   exact norm_ au2_1 (hCont (gb158) _ ⟨hHeld, (bk_ BK150), (bk_ BK152), (bk_ BK158), GW158.out, GE158.out, NB150_158.out, NB158_150.out, NB152_158.out, NB158_152.out, bl_⟩)
  rintro gb158 w97 ⟨hS_, h0_, h1_, h2_, h3_, h4_, h5_, h6_, h7_, h8_, h9_⟩
  have n0_ : Aside0 (w97.heap[gb150]? = some (.cells #[.string (⟨#[]⟩ : ByteArray), .string (⟨#[]⟩ : ByteArray), .int .i64 0, .slice none 0 0, .bool false, .int .i64 0, .int .i64 0] 36 (0, 0))) := ⟨h0_⟩
  have n1_ : Aside0 (w97.heap[gb152]? = some (.cells #[.string ((rd_T52 l0 0).f0), .slice A151_1 ((rd_T52 l0 0).f1).length c151_1] 52 (0, 0))) := ⟨h1_⟩
  have n2_ : Aside0 (w97.heap[gb158]? = some (.cells #[.string (⟨#[]⟩ : ByteArray), .string (⟨#[]⟩ : ByteArray), .int .i64 0, .slice none 0 0] 29 (0, 0))) := ⟨h2_⟩
  have n3_ : Aside0 (w.heap.size ≤ gb158) := ⟨h3_⟩
  have n4_ : Aside0 (w.heap.size ≤ gb158) := ⟨h4_⟩
  have n5_ : Aside0 (gb150 ≠ gb158) := ⟨h5_⟩
  have n6_ : Aside0 (gb158 ≠ gb150) := ⟨h6_⟩
  have n7_ : Aside0 (gb152 ≠ gb158) := ⟨h7_⟩
  have n8_ : Aside0 (gb158 ≠ gb152) := ⟨h8_⟩
  have n9_ : Aside0 (Below w.heap.size w w97) := ⟨h9_⟩
  clear BK150
  clear BK152
  clear HB
  clear h0_ h1_ h2_ h3_ h4_ h5_ h6_ h7_ h8_ h9_
  have BK150 := n0_
  have BK152 := n1_
  have BK158 := n2_
  have GW158 := n3_
  have GE158 := n4_
  have NB150_158 := n5_
  have NB158_150 := n6_
  have NB152_158 := n7_
  have NB158_152 := n8_
  have HB := n9_
  clear n0_ n1_ n2_ n3_ n4_ n5_ n6_ n7_ n8_ n9_
  have hHeld : w97.cell? ⟨gb152, 0, none⟩ = some (.string ((rd_T52 l0 0).f0)) ∧ w97.cell? ⟨gb152, 1, none⟩ = some (.slice A151_1 ((rd_T52 l0 0).f1).length c151_1) := hS_
  refine norm_ (a' := ?_) ?_ ?_
  rotate_left
  ·simp only [putAll, Act.put, List.setIfInBounds_toArray, List.set_cons_zero, List.set_cons_succ]
   rfl
  refine one_ (i := 7) (N := none) (bs 8 255) rfl rfl (one_of HT_.out (by kernel_rfl)) (by decide) (fun K hK => ?_)
  have hs98 : w97.cell? ⟨gb158, 0, none⟩ = some (.string (⟨#[]⟩ : ByteArray)) := (blk_cell BK158.out 0).trans rfl
  have hfs98 := blk_frozen BK158.out 0
  have hns98_0 := NB150_158.out
  have hns98_1 := NB152_158.out
  have hms98_0 := NB158_150.out
  have hms98_1 := NB158_152.out
  have hs99 : w97.cell? ⟨gb158, 1, none⟩ = some (.string (⟨#[]⟩ : ByteArray)) := (blk_cell BK158.out 1).trans rfl
  have hfs99 := blk_frozen BK158.out 1
  have hns99_0 := NB150_158.out
  have hns99_1 := NB152_158.out
  have hms99_0 := NB158_150.out
  have hms99_1 := NB158_152.out
  have hs100 : w97.cell? ⟨gb158, 2, none⟩ = some (.int .i64 0) := (blk_cell BK158.out 2).trans rfl
  have hfs100 := blk_frozen BK158.out 2
  have hns100_0 := NB150_158.out
  have hns100_1 := NB152_158.out
  have hms100_0 := NB158_150.out
  have hms100_1 := NB158_152.out
  have hs101 : w97.cell? ⟨gb158, 3, none⟩ = some (.slice none 0 0) := (blk_cell BK158.out 3).trans rfl
  have hfs101 := blk_frozen BK158.out 3
  have hns101_0 := NB150_158.out
  have hns101_1 := NB152_158.out
  have hms101_0 := NB158_150.out
  have hms101_1 := NB158_152.out
  refine skip_ (w1 := ?_) (by rfl) rfl ?_ ?_
  rotate_left
  ·go_simp
   rfl
  refine hK.out _ _ ⟨((cell_far (p := ⟨gb158, _, none⟩) NB152_158.out _).trans (((cell_far (p := ⟨gb158, _, none⟩) NB152_158.out _).trans (((cell_far (p := ⟨gb158, _, none⟩) NB152_158.out _).trans (((cell_far (p := ⟨gb158, _, none⟩) NB152_158.out _).trans (hHeld.1)))))))), ((cell_far (p := ⟨gb158, _, none⟩) NB152_158.out _).trans (((cell_far (p := ⟨gb158, _, none⟩) NB152_158.out _).trans (((cell_far (p := ⟨gb158, _, none⟩) NB152_158.out _).trans (((cell_far (p := ⟨gb158, _, none⟩) NB152_158.out _).trans (hHeld.2))))))))⟩ (fun hHeld => ?_)
  clear hK K
  refine done_ (done_of HT_.out (by kernel_rfl)) ?_
  try go_wp2
  have n0_ : Aside0 (((((w97.setCell ⟨gb158, 0, none⟩ (.string t156)).setCell ⟨gb158, 1, none⟩ (.string t157)).setCell ⟨gb158, 2, none⟩ (.int .i64 t154)).setCell ⟨gb158, 3, none⟩ (.slice none 0 0)).heap[gb150]? = some (.cells #[.string (⟨#[]⟩ : ByteArray), .string (⟨#[]⟩ : ByteArray), .int .i64 0, .slice none 0 0, .bool false, .int .i64 0, .int .i64 0] 36 (0, 0))) := ⟨bf_ BK150⟩
  have n1_ : Aside0 (((((w97.setCell ⟨gb158, 0, none⟩ (.string t156)).setCell ⟨gb158, 1, none⟩ (.string t157)).setCell ⟨gb158, 2, none⟩ (.int .i64 t154)).setCell ⟨gb158, 3, none⟩ (.slice none 0 0)).heap[gb152]? = some (.cells #[.string ((rd_T52 l0 0).f0), .slice A151_1 ((rd_T52 l0 0).f1).length c151_1] 52 (0, 0))) := ⟨bf_ BK152⟩
  have n2_ : Aside0 (((((w97.setCell ⟨gb158, 0, none⟩ (.string t156)).setCell ⟨gb158, 1, none⟩ (.string t157)).setCell ⟨gb158, 2, none⟩ (.int .i64 t154)).setCell ⟨gb158, 3, none⟩ (.slice none 0 0)).heap[gb158]? = some (.cells #[.string t156, .string t157, .int .i64 t154, .slice none 0 0] 29 (0, 0))) := ⟨bq_ BK158⟩
  have n3_ : Aside0 (Below w.heap.size w ((((w97.setCell ⟨gb158, 0, none⟩ (.string t156)).setCell ⟨gb158, 1, none⟩ (.string t157)).setCell ⟨gb158, 2, none⟩ (.int .i64 t154)).setCell ⟨gb158, 3, none⟩ (.slice none 0 0))) := ⟨bl_⟩
  (try clear BK150)
  (try clear BK152)
  (try clear BK158)
  (try clear HB)
  generalize ((((w97.setCell ⟨gb158, 0, none⟩ (.string t156)).setCell ⟨gb158, 1, none⟩ (.string t157)).setCell ⟨gb158, 2, none⟩ (.int .i64 t154)).setCell ⟨gb158, 3, none⟩ (.slice none 0 0)) = w102 at n0_ n1_ n2_ n3_ ⊢
  have BK150 := n0_
  have BK152 := n1_
  have BK158 := n2_
  have HB := n3_
  clear n0_ n1_ n2_ n3_
  replace BK150 := bd_ BK150
  replace BK152 := bd_ BK152
  replace BK158 := bd_ BK158
  replace HB := am_ (below_drew1 HB.out)
  refine start_ (n := 22) (S := fun w' => w'.cell? ⟨gb158, 0, none⟩ = some (.string t156) ∧ w'.cell? ⟨gb158, 1, none⟩ = some (.string t157) ∧ w'.cell? ⟨gb158, 2, none⟩ = some (.int .i64 t154) ∧ w'.cell? ⟨gb158, 3, none⟩ = some (.slice none 0 0)) (ds := []) (bs 22 0) (by kernel_rfl) rfl rfl ⟨(blk_cell BK158.out 0).trans rfl, (blk_cell BK158.out 1).trans rfl, (blk_cell BK158.out 2).trans rfl, (blk_cell BK158.out 3).trans rfl⟩ (fun hHeld => ?_); refine with_tabW F12.tab8 F12.bits8 (fun HT_ HW_ => ?_)
  generalize w102.drew = w103 at BK150 BK152 BK158 HB hHeld ⊢
  refine pu_ 0 30 (bs 22 1) HT_ ?_ rfl rfl
  refine tk_ 1 31 (bs 22 3) HT_ HW_ hHeld au2_7 ?_ rfl rfl
  refine one_ (i := 2) (N := some 32) (bs 22 7) rfl rfl (one_of HT_.out (by kernel_rfl)) (by decide) (fun K hK => ?_)
  refine gr_ Tryd.func32 #[.string t156] (by rfl) ?_ rfl rfl rfl
  with_reducible refine (F32.calls k t156 true _ A13.out).mono ?_
  rintro e w' ⟨rfl, ⟨nd, rfl⟩⟩
  refine ⟨_, rfl, ?_⟩
  refine hK.out _ _ ⟨(blk_cell BK158.out 0).trans rfl, (blk_cell BK158.out 1).trans rfl, (blk_cell BK158.out 2).trans rfl, (blk_cell BK158.out 3).trans rfl⟩ (fun hHeld => ?_)
  clear hK K
  refine no_ 32 ?_
  refine pu_ 3 33 (bs 22 15) HT_ ?_ rfl rfl
  refine pu_ 4 34 (bs 22 31) HT_ ?_ rfl rfl
  refine pu_ 5 35 (bs 22 63) HT_ ?_ rfl rfl
  refine tk_ 6 36 (bs 22 127) HT_ HW_ hHeld au2_7 ?_ rfl rfl
  refine one_ (i := 7) (N := some 37) (bs 22 255) rfl rfl (one_of HT_.out (by kernel_rfl)) (by decide) (fun K hK => ?_)
  refine gr_ Tryd.func32 #[.string t157] (by rfl) ?_ rfl rfl rfl
  with_reducible refine (F32.calls k t157 false _ A15.out).mono ?_
  rintro e w' ⟨rfl, ⟨nd, rfl⟩⟩
  refine ⟨_, rfl, ?_⟩
  refine hK.out _ _ ⟨(blk_cell BK158.out 0).trans rfl, (blk_cell BK158.out 1).trans rfl, (blk_cell BK158.out 2).trans rfl, (blk_cell BK158.out 3).trans rfl⟩ (fun hHeld => ?_)
  clear hK K
  refine no_ 37 ?_
  refine pu_ 8 38 (bs 22 511) HT_ ?_ rfl rfl
  refine pu_ 9 39 (bs 22 1023) HT_ ?_ rfl rfl
  refine pu_ 10 40 (bs 22 2047) HT_ ?_ rfl rfl
  refine pv_ 11 41 (bs 22 4095) HT_ ?_ rfl rfl
  refine pv_ 12 42 (bs 22 8191) HT_ ?_ rfl rfl
  refine pv_ 13 43 (bs 22 16383) HT_ ?_ rfl rfl
  refine pu_ 14 44 (bs 22 32767) HT_ ?_ rfl rfl
  refine pu_ 15 45 (bs 22 65535) HT_ ?_ rfl rfl
  refine pv_ 16 46 (bs 22 131071) HT_ ?_ rfl rfl
  refine pv_ 17 47 (bs 22 262143) HT_ ?_ rfl rfl
  refine pv_ 18 48 (bs 22 524287) HT_ ?_ rfl rfl
  refine pv_ 19 49 (bs 22 1048575) HT_ ?_ rfl rfl
  refine pv_ 20 50 (bs 22 2097151) HT_ ?_ rfl rfl
  refine pu_ 21 51 (bs 22 4194303) HT_ ?_ rfl rfl
  refine done_ (done_of HT_.out (by kernel_rfl)) ?_
  have hnb104 := NB150_158.out
  have hnc104 := NB158_150.out
  obtain ⟨hcz105_0, hcz105_1, hcz105_2, hcz105_3, hcz105_4, hcz105_5, hcz105_6, hfz105_0, hfz105_1, hfz105_2, hfz105_3, hfz105_4, hfz105_5, hfz105_6⟩ := cellsF7 BK150.out
  try go_wp2
  refine bodyPost_ret (results_cell_row rfl _ _ gb150 36 #[.string (⟨#[]⟩ : ByteArray), .string (⟨#[]⟩ : ByteArray), .int .i64 0, .slice none 0 0, .bool false, .int .i64 0, .int .i64 3] (0, 0) _ rfl (bq_ BK150) Tryd.underlying36 rfl (by kernel_rfl)) rfl ?_
  exact ⟨_, au2_2, au2_3, bl_⟩
 replace H := bi_ H; rcases H with ⟨t161, A17, H⟩
 replace H := ib_ H; rcases H with ⟨rfl, H⟩ | ⟨rfl, H⟩
 rotate_left
 ·simp only [Option.some.injEq, Prod.mk.injEq] at H
  obtain ⟨rfl, rfl, rfl, rfl, rfl, rfl, rfl⟩ := H
  go_enter Tryd.func12, Tryd.ntmps12
  try go_wp2_with (first | ((with_reducible refine gate_dst (N := 2) rfl ?_); refine be_ 2 #[.string (⟨#[]⟩ : ByteArray), .string (⟨#[]⟩ : ByteArray), .int .i64 0, .slice none 0 0, .bool false, .int .i64 0, .int .i64 0] 36 ?_; intro gb150 hg w68 hbox hb; have BK150 := am_ (hbox); have GW150 := am_ (gw_ hg bl_); have GE150 := GW150; replace HB := hs_ w hb; clear hb hbox hg; have p151 : 0 ≤ (0 : Int) := (by omega); have q151 : 0 < (l0.length : Int) := od_; obtain ⟨ad151, A151_1, c151_1, e151, hx151_0, hx151_1, hl151_1, hi151_1⟩ := at_T52 HR0.out 0 p151 q151; cases e151; have qi151 : (0 < l0.length) = True := eq_true (by omega); (try rw [show ((0 : Int)).toNat = 0 from rfl] at hx151_0); (try rw [show 0 * 2 = 0 from rfl] at hx151_0); (try rw [Addr.add_zero'] at hx151_0); (try rw [show ((0 : Int)).toNat = 0 from rfl] at hx151_1); (try rw [show 0 * 2 = 0 from rfl] at hx151_1); (try rw [Addr.add_zero'] at hx151_1); replace hx151_0 := (HB.out.cell (World.block_lt_of_cell? _ _ hx151_0)).trans hx151_0; replace hx151_1 := (HB.out.cell (World.block_lt_of_cell? _ _ hx151_1)).trans hx151_1; have HR151_1 := am_ hi151_1; have HC151_1 := am_ hl151_1; clear hi151_1 hl151_1; replace p151 := eq_true p151; replace q151 := eq_true q151) | ((with_reducible refine gate_dst (N := 3) rfl ?_); refine be_ 3 #[.string (⟨#[]⟩ : ByteArray), .slice none 0 0] 52 ?_; intro gb152 hg w69 hbox hb; have BK152 := am_ (hbox); have GW152 := am_ (gw_ hg bl_); have GE152 := GW152; replace HB := hs_ w hb; have NB150_152 := am_ (gn_ hg (blkl_ BK150)); have NB152_150 := am_ (gm_ hg (blkl_ BK150)); replace BK150 := bb_ BK150 hb; clear hb hbox hg; have hnb70 := NB152_150.out; have hnc70 := NB150_152.out; obtain ⟨hcz71_0, hcz71_1, hfz71_0, hfz71_1⟩ := cellsF2 BK152.out) | ((with_reducible refine gate_callee (f := 31) rfl ?_); refine gl_ 20 Tryd.func31 #[.agg #[.string ((rd_T52 l0 0).f0), .slice A151_1 ((rd_T52 l0 0).f1).length c151_1], .int .i64 2, .int .i64 0] ?_ rfl rfl rfl rfl; (with_reducible refine (F31.calls ((rd_T52 l0 0).f0) _ _ ((rd_T52 l0 0).f1) 2 0 t153 _ ?s1 ?s2 A9.out).mono ?_); (case s1 => exact au2_11); (case s2 => exact HC151_1.out); rintro e w72 ⟨rfl, hb⟩; refine ⟨_, rfl, ?_⟩; replace BK150 := am_ (blk_below (g := gb150) (o := .cells #[.string (⟨#[]⟩ : ByteArray), .string (⟨#[]⟩ : ByteArray), .int .i64 0, .slice none 0 0, .bool false, .int .i64 0, .int .i64 0] 36 (0, 0)) (bf_ BK150) hb); replace BK152 := am_ (blk_below (g := gb152) (o := .cells #[.string ((rd_T52 l0 0).f0), .slice A151_1 ((rd_T52 l0 0).f1).length c151_1] 52 (0, 0)) (bq_ BK152) hb); replace HB := hs_ w hb; (try clear hb)) | ((with_reducible refine gate_callee (f := 30) rfl ?_); refine gl_ 21 Tryd.func30 #[.string t153] ?_ rfl rfl rfl rfl; (with_reducible refine (F30.calls k t153 t154 t155 _ A10.out).mono ?_); rintro e w73 ⟨rfl, hb⟩; refine ⟨_, rfl, ?_⟩; replace BK150 := bb_ BK150 hb; replace BK152 := bb_ BK152 hb; replace HB := hs_ w hb; (try clear hb)))
  replace BK150 := bd_ BK150
  replace BK152 := bd_ BK152
  replace HB := am_ (below_drew1 HB.out)
  refine start_ (n := 8) (S := fun w' => w'.cell? ⟨gb152, 0, none⟩ = some (.string ((rd_T52 l0 0).f0)) ∧ w'.cell? ⟨gb152, 1, none⟩ = some (.slice A151_1 ((rd_T52 l0 0).f1).length c151_1)) (ds := []) (bs 8 0) (by kernel_rfl) rfl rfl ⟨(blk_cell BK152.out 0).trans rfl, (blk_cell BK152.out 1).trans rfl⟩ (fun hHeld => ?_); refine with_tabW F12.tab7 F12.bits7 (fun HT_ HW_ => ?_)
  generalize w73.drew = w74 at BK150 BK152 HB hHeld ⊢
  refine pu_ 4 28 (bs 8 16) HT_ ?_ rfl rfl
  refine tk_ 0 24 (bs 8 17) HT_ HW_ hHeld au2_5 ?_ rfl rfl
  refine tk_ 2 26 (bs 8 21) HT_ HW_ hHeld au2_5 ?_ rfl rfl
  refine join_ (σ := Nat) 1 (bs 8 127) (fun s_ => [(25, .string t156), (27, .string t157), (6, .pointer (some ⟨s_, 0, none⟩)), (29, .agg #[.string t156, .string t157, .int .i64 t154, .slice none 0 0])]) (fun s_ w' => (w'.cell? ⟨gb152, 0, none⟩ = some (.string ((rd_T52 l0 0).f0)) ∧ w'.cell? ⟨gb152, 1, none⟩ = some (.slice A151_1 ((rd_T52 l0 0).f1).length c151_1)) ∧ (w'.heap[gb150]? = some (.cells #[.string (⟨#[]⟩ : ByteArray), .string (⟨#[]⟩ : ByteArray), .int .i64 0, .slice none 0 0, .bool false, .int .i64 0, .int .i64 0] 36 (0, 0))) ∧ (w'.heap[gb152]? = some (.cells #[.string ((rd_T52 l0 0).f0), .slice A151_1 ((rd_T52 l0 0).f1).length c151_1] 52 (0, 0))) ∧ (w'.heap[s_]? = some (.cells #[.string (⟨#[]⟩ : ByteArray), .string (⟨#[]⟩ : ByteArray), .int .i64 0, .slice none 0 0] 29 (0, 0))) ∧ (w.heap.size ≤ s_) ∧ (w.heap.size ≤ s_) ∧ (gb150 ≠ s_) ∧ (s_ ≠ gb150) ∧ (gb152 ≠ s_) ∧ (s_ ≠ gb152) ∧ (Below w.heap.size w w')) ?_ ?_
  rotate_left
  ·intro hCont
   refine two_ (i := 1) (j := 6) (Ni := some 25) (Nj := some 6) (bs 8 23) (bs 8 85) rfl rfl rfl rfl (two_of HT_.out (by kernel_rfl)) (by decide) (by decide) (fun K hK => ?_) (fun K hK => ?_)
   rotate_left
   ·skip
    refine box_step ?hg (N := 6) ?hd (cs := #[.string (⟨#[]⟩ : ByteArray), .string (⟨#[]⟩ : ByteArray), .int .i64 0, .slice none 0 0]) (t := 29) ?hr ?_; (case hd => rfl); (case hg => rfl); (case hr => exact hr_)
    intro gb158 hg w75 hbox hb
    have BK158 := am_ (hbox)
    have GW158 := am_ (gw_ hg bl_)
    have GE158 := am_ (gw_ hg bl_)
    replace HB := hs_ w hb
    have NB150_158 := am_ (gn_ hg (blkl_ BK150))
    have NB158_150 := am_ (gm_ hg (blkl_ BK150))
    replace BK150 := bb_ BK150 hb
    have NB152_158 := am_ (gn_ hg (blkl_ BK152))
    have NB158_152 := am_ (gm_ hg (blkl_ BK152))
    replace BK152 := bb_ BK152 hb
    clear hb hbox hg
    refine hK.out _ _ ⟨(blk_cell BK152.out 0).trans rfl, (blk_cell BK152.out 1).trans rfl⟩ (fun hHeld => ?_)
    clear hK K
    refine no_ 6 ?_
    refine one_ (i := 1) (N := some 25) (bs 8 87) rfl rfl (one_of HT_.out (by kernel_rfl)) (by decide) (fun K hK => ?_)
    refine gr_ Tryd.func31 #[.agg #[.string ((rd_T52 l0 0).f0), .slice A151_1 ((rd_T52 l0 0).f1).length c151_1], .int .i64 0, .int .i64 0] (by rfl) ?_ rfl rfl rfl
    with_reducible refine (F31.calls ((rd_T52 l0 0).f0) _ _ ((rd_T52 l0 0).f1) 0 0 t156 _ ?s1 ?s2 A11.out).mono ?_
    (case s1 => exact au2_0)
    (case s2 => exact HC151_1.out)
    rintro e w76 ⟨rfl, hb⟩
    refine ⟨_, rfl, ?_⟩
    replace BK150 := bb_ BK150 hb
    replace BK152 := bb_ BK152 hb
    replace BK158 := bb_ BK158 hb
    replace HB := hs_ w hb
    (try clear hb)
    (try clear hb2)
    (try clear hk)
    (try clear hi)
    refine hK.out _ _ ⟨(blk_cell BK152.out 0).trans rfl, (blk_cell BK152.out 1).trans rfl⟩ (fun hHeld => ?_)
    clear hK K
    refine no_ 25 ?_
    refine one_ (i := 3) (N := some 27) (bs 8 95) rfl rfl (one_of HT_.out (by kernel_rfl)) (by decide) (fun K hK => ?_)
    refine gr_ Tryd.func31 #[.agg #[.string ((rd_T52 l0 0).f0), .slice A151_1 ((rd_T52 l0 0).f1).length c151_1], .int .i64 1, .int .i64 0] (by rfl) ?_ rfl rfl rfl
    with_reducible refine (F31.calls ((rd_T52 l0 0).f0) _ _ ((rd_T52 l0 0).f1) 1 0 t157 _ ?s1 ?s2 A12.out).mono ?_
    (case s1 => exact au2_0)
    (case s2 => exact HC151_1.out)
    rintro e w77 ⟨rfl, hb⟩
    refine ⟨_, rfl, ?_⟩
    replace BK150 := bb_ BK150 hb
    replace BK152 := bb_ BK152 hb
    replace BK158 := bb_ BK158 hb
    replace HB := hs_ w hb
    (try clear hb)
    (try clear hb2)
    (try clear hk)
    (try clear hi)
    refine hK.out _ _ ⟨(blk_cell BK152.out 0).trans rfl, (blk_cell BK152.out 1).trans rfl⟩ (fun hHeld => ?_)
    clear hK K
    refine no_ 27 ?_
    refine pu_ 5 29 (bs 8 127) HT_ ?_ rfl rfl
    exact norm_ au2_1 (hCont (gb158) _ ⟨hHeld, (bk_ BK150), (bk_ BK152), (bk_ BK158), GW158.out, GE158.out, NB150_158.out, NB158_150.out, NB152_158.out, NB158_152.out, bl_⟩)
   skip
   refine gr_ Tryd.func31 #[.agg #[.string ((rd_T52 l0 0).f0), .slice A151_1 ((rd_T52 l0 0).f1).length c151_1], .int .i64 0, .int .i64 0] (by rfl) ?_ rfl rfl rfl
   with_reducible refine (F31.calls ((rd_T52 l0 0).f0) _ _ ((rd_T52 l0 0).f1) 0 0 t156 _ ?s1 ?s2 A11.out).mono ?_
   (case s1 => exact au2_0)
   (case s2 => exact HC151_1.out)
   rintro e w75 ⟨rfl, hb⟩
   refine ⟨_, rfl, ?_⟩
   replace BK150 := bb_ BK150 hb
   replace BK152 := bb_ BK152 hb
   replace HB := hs_ w hb
   (try clear hb)
   (try clear hb2)
   (try clear hk)
   (try clear hi)
   refine hK.out _ _ ⟨(blk_cell BK152.out 0).trans rfl, (blk_cell BK152.out 1).trans rfl⟩ (fun hHeld => ?_)
   clear hK K
   refine no_ 25 ?_
   refine two_ (i := 3) (j := 6) (Ni := some 27) (Nj := some 6) (bs 8 31) (bs 8 87) rfl rfl rfl rfl (two_of HT_.out (by kernel_rfl)) (by decide) (by decide) (fun K hK => ?_) (fun K hK => ?_)
   ·skip
    refine gr_ Tryd.func31 #[.agg #[.string ((rd_T52 l0 0).f0), .slice A151_1 ((rd_T52 l0 0).f1).length c151_1], .int .i64 1, .int .i64 0] (by rfl) ?_ rfl rfl rfl
    with_reducible refine (F31.calls ((rd_T52 l0 0).f0) _ _ ((rd_T52 l0 0).f1) 1 0 t157 _ ?s1 ?s2 A12.out).mono ?_
    (case s1 => exact au2_0)
    (case s2 => exact HC151_1.out)
    rintro e w76 ⟨rfl, hb⟩
    refine ⟨_, rfl, ?_⟩
    replace BK150 := bb_ BK150 hb
    replace BK152 := bb_ BK152 hb
    replace HB := hs_ w hb
    (try clear hb)
    (try clear hb2)
    (try clear hk)
    (try clear hi)
    refine hK.out _ _ ⟨(blk_cell BK152.out 0).trans rfl, (blk_cell BK152.out 1).trans rfl⟩ (fun hHeld => ?_)
    clear hK K
    refine no_ 27 ?_
    refine pu_ 5 29 (bs 8 63) HT_ ?_ rfl rfl
    refine one_ (i := 6) (N := some 6) (bs 8 127) rfl rfl (one_of HT_.out (by kernel_rfl)) (by decide) (fun K hK => ?_)
    refine box_step ?hg (N := 6) ?hd (cs := #[.string (⟨#[]⟩ : ByteArray), .string (⟨#[]⟩ : ByteArray), .int .i64 0, .slice none 0 0]) (t := 29) ?hr ?_; (case hd => rfl); (case hg => rfl); (case hr => exact hr_)
    intro gb158 hg w77 hbox hb
    have BK158 := am_ (hbox)
    have GW158 := am_ (gw_ hg bl_)
    have GE158 := am_ (gw_ hg bl_)
    replace HB := hs_ w hb
    have NB150_158 := am_ (gn_ hg (blkl_ BK150))
    have NB158_150 := am_ (gm_ hg (blkl_ BK150))
    replace BK150 := bb_ BK150 hb
    have NB152_158 := am_ (gn_ hg (blkl_ BK152))
    have NB158_152 := am_ (gm_ hg (blkl_ BK152))
    replace BK152 := bb_ BK152 hb
    clear hb hbox hg
    refine hK.out _ _ ⟨(blk_cell BK152.out 0).trans rfl, (blk_cell BK152.out 1).trans rfl⟩ (fun hHeld => ?_)
    clear hK K
    refine no_ 6 ?_
    exact norm_ au2_1 (hCont (gb158) _ ⟨hHeld, (bk_ BK150), (bk_ BK152), (bk_ BK158), GW158.out, GE158.out, NB150_158.out, NB158_150.out, NB152_158.out, NB158_152.out, bl_⟩)
   skip
   refine box_step ?hg (N := 6) ?hd (cs := #[.string (⟨#[]⟩ : ByteArray), .string (⟨#[]⟩ : ByteArray), .int .i64 0, .slice none 0 0]) (t := 29) ?hr ?_; (case hd => rfl); (case hg => rfl); (case hr => exact hr_)
   intro gb158 hg w76 hbox hb
   have BK158 := am_ (hbox)
   have GW158 := am_ (gw_ hg bl_)
   have GE158 := am_ (gw_ hg bl_)
   replace HB := hs_ w hb
   have NB150_158 := am_ (gn_ hg (blkl_ BK150))
   have NB158_150 := am_ (gm_ hg (blkl_ BK150))
   replace BK150 := bb_ BK150 hb
   have NB152_158 := am_ (gn_ hg (blkl_ BK152))
   have NB158_152 := am_ (gm_ hg (blkl_ BK152))
   replace BK152 := bb_ BK152 hb
   clear hb hbox hg
   refine hK.out _ _ ⟨(blk_cell BK152.out 0).trans rfl, (blk_cell BK152.out 1).trans rfl⟩ (fun hHeld => ?_)
   clear hK K
   refine no_ 6 ?_
   refine one_ (i := 3) (N := some 27) (bs 8 95) rfl rfl (one_of HT_.out (by kernel_rfl)) (by decide) (fun K hK => ?_)
   refine gr_ Tryd.func31 #[.agg #[.string ((rd_T52 l0 0).f0), .slice A151_1 ((rd_T52 l0 0).f1).length c151_1], .int .i64 1, .int .i64 0] (by rfl) ?_ rfl rfl rfl
   with_reducible refine (F31.calls ((rd_T52 l0 0).f0) _ _ ((rd_T52 l0 0).f1) 1 0 t157 _ ?s1 ?s2 A12.out).mono ?_
   (case s1 => exact au2_0)
   (case s2 => exact HC151_1.out)
   rintro e w77 ⟨rfl, hb⟩
   refine ⟨_, rfl, ?_⟩
   replace BK150 := bb_ BK150 hb
   replace BK152 := bb_ BK152 hb
   replace BK158 := bb_ BK158 hb
   replace HB := hs_ w hb
   (try clear hb)
   (try clear hb2)
   (try clear hk)
   (try clear hi)
   refine hK.out _ _ ⟨(blk_cell BK152.out 0).trans rfl, (blk_cell BK152.out 1).trans rfl⟩ (fun hHeld => ?_)
   clear hK K
   refine no_ 27 ?_
   refine pu_ 5 29 (bs 8 127) HT_ ?_ rfl rfl
   exact norm_ au2_1 (hCont (gb158) _ ⟨hHeld, (bk_ BK150), (bk_ BK152), (bk_ BK158), GW158.out, GE158.out, NB150_158.out, NB158_150.out, NB152_158.out, NB158_152.out, bl_⟩)
  rintro gb158 w78 ⟨hS_, h0_, h1_, h2_, h3_, h4_, h5_, h6_, h7_, h8_, h9_⟩
  have n0_ : Aside0 (w78.heap[gb150]? = some (.cells #[.string (⟨#[]⟩ : ByteArray), .string (⟨#[]⟩ : ByteArray), .int .i64 0, .slice none 0 0, .bool false, .int .i64 0, .int .i64 0] 36 (0, 0))) := ⟨h0_⟩
  have n1_ : Aside0 (w78.heap[gb152]? = some (.cells #[.string ((rd_T52 l0 0).f0), .slice A151_1 ((rd_T52 l0 0).f1).length c151_1] 52 (0, 0))) := ⟨h1_⟩
  have n2_ : Aside0 (w78.heap[gb158]? = some (.cells #[.string (⟨#[]⟩ : ByteArray), .string (⟨#[]⟩ : ByteArray), .int .i64 0, .slice none 0 0] 29 (0, 0))) := ⟨h2_⟩
  have n3_ : Aside0 (w.heap.size ≤ gb158) := ⟨h3_⟩
  have n4_ : Aside0 (w.heap.size ≤ gb158) := ⟨h4_⟩
  have n5_ : Aside0 (gb150 ≠ gb158) := ⟨h5_⟩
  have n6_ : Aside0 (gb158 ≠ gb150) := ⟨h6_⟩
  have n7_ : Aside0 (gb152 ≠ gb158) := ⟨h7_⟩
  have n8_ : Aside0 (gb158 ≠ gb152) := ⟨h8_⟩
  have n9_ : Aside0 (Below w.heap.size w w78) := ⟨h9_⟩
  clear BK150
  clear BK152
  clear HB
  clear h0_ h1_ h2_ h3_ h4_ h5_ h6_ h7_ h8_ h9_
  have BK150 := n0_
  have BK152 := n1_
  have BK158 := n2_
  have GW158 := n3_
  have GE158 := n4_
  have NB150_158 := n5_
  have NB158_150 := n6_
  have NB152_158 := n7_
  have NB158_152 := n8_
  have HB := n9_
  clear n0_ n1_ n2_ n3_ n4_ n5_ n6_ n7_ n8_ n9_
  have hHeld : w78.cell? ⟨gb152, 0, none⟩ = some (.string ((rd_T52 l0 0).f0)) ∧ w78.cell? ⟨gb152, 1, none⟩ = some (.slice A151_1 ((rd_T52 l0 0).f1).length c151_1) := hS_
  refine norm_ (a' := ?_) ?_ ?_
  rotate_left
  ·simp only [putAll, Act.put, List.setIfInBounds_toArray, List.set_cons_zero, List.set_cons_succ]
   rfl
  refine one_ (i := 7) (N := none) (bs 8 255) rfl rfl (one_of HT_.out (by kernel_rfl)) (by decide) (fun K hK => ?_)
  have hs79 : w78.cell? ⟨gb158, 0, none⟩ = some (.string (⟨#[]⟩ : ByteArray)) := (blk_cell BK158.out 0).trans rfl
  have hfs79 := blk_frozen BK158.out 0
  have hns79_0 := NB150_158.out
  have hns79_1 := NB152_158.out
  have hms79_0 := NB158_150.out
  have hms79_1 := NB158_152.out
  have hs80 : w78.cell? ⟨gb158, 1, none⟩ = some (.string (⟨#[]⟩ : ByteArray)) := (blk_cell BK158.out 1).trans rfl
  have hfs80 := blk_frozen BK158.out 1
  have hns80_0 := NB150_158.out
  have hns80_1 := NB152_158.out
  have hms80_0 := NB158_150.out
  have hms80_1 := NB158_152.out
  have hs81 : w78.cell? ⟨gb158, 2, none⟩ = some (.int .i64 0) := (blk_cell BK158.out 2).trans rfl
  have hfs81 := blk_frozen BK158.out 2
  have hns81_0 := NB150_158.out
  have hns81_1 := NB152_158.out
  have hms81_0 := NB158_150.out
  have hms81_1 := NB158_152.out
  have hs82 : w78.cell? ⟨gb158, 3, none⟩ = some (.slice none 0 0) := (blk_cell BK158.out 3).trans rfl
  have hfs82 := blk_frozen BK158.out 3
  have hns82_0 := NB150_158.out
  have hns82_1 := NB152_158.out
  have hms82_0 := NB158_150.out
  have hms82_1 := NB158_152.out
  refine skip_ (w1 := ?_) (by rfl) rfl ?_ ?_
  rotate_left
  ·go_simp
   rfl
  refine hK.out _ _ ⟨((cell_far (p := ⟨gb158, _, none⟩) NB152_158.out _).trans (((cell_far (p := ⟨gb158, _, none⟩) NB152_158.out _).trans (((cell_far (p := ⟨gb158, _, none⟩) NB152_158.out _).trans (((cell_far (p := ⟨gb158, _, none⟩) NB152_158.out _).trans (hHeld.1)))))))), ((cell_far (p := ⟨gb158, _, none⟩) NB152_158.out _).trans (((cell_far (p := ⟨gb158, _, none⟩) NB152_158.out _).trans (((cell_far (p := ⟨gb158, _, none⟩) NB152_158.out _).trans (((cell_far (p := ⟨gb158, _, none⟩) NB152_158.out _).trans (hHeld.2))))))))⟩ (fun hHeld => ?_)
  clear hK K
  refine done_ (done_of HT_.out (by kernel_rfl)) ?_
  try go_wp2
  have n0_ : Aside0 (((((w78.setCell ⟨gb158, 0, none⟩ (.string t156)).setCell ⟨gb158, 1, none⟩ (.string t157)).setCell ⟨gb158, 2, none⟩ (.int .i64 t154)).setCell ⟨gb158, 3, none⟩ (.slice none 0 0)).heap[gb150]? = some (.cells #[.string (⟨#[]⟩ : ByteArray), .string (⟨#[]⟩ : ByteArray), .int .i64 0, .slice none 0 0, .bool false, .int .i64 0, .int .i64 0] 36 (0, 0))) := ⟨bf_ BK150⟩
  have n1_ : Aside0 (((((w78.setCell ⟨gb158, 0, none⟩ (.string t156)).setCell ⟨gb158, 1, none⟩ (.string t157)).setCell ⟨gb158, 2, none⟩ (.int .i64 t154)).setCell ⟨gb158, 3, none⟩ (.slice none 0 0)).heap[gb152]? = some (.cells #[.string ((rd_T52 l0 0).f0), .slice A151_1 ((rd_T52 l0 0).f1).length c151_1] 52 (0, 0))) := ⟨bf_ BK152⟩
  have n2_ : Aside0 (((((w78.setCell ⟨gb158, 0, none⟩ (.string t156)).setCell ⟨gb158, 1, none⟩ (.string t157)).setCell ⟨gb158, 2, none⟩ (.int .i64 t154)).setCell ⟨gb158, 3, none⟩ (.slice none 0 0)).heap[gb158]? = some (.cells #[.string t156, .string t157, .int .i64 t154, .slice none 0 0] 29 (0, 0))) := ⟨bq_ BK158⟩
  have n3_ : Aside0 (Below w.heap.size w ((((w78.setCell ⟨gb158, 0, none⟩ (.string t156)).setCell ⟨gb158, 1, none⟩ (.string t157)).setCell ⟨gb158, 2, none⟩ (.int .i64 t154)).setCell ⟨gb158, 3, none⟩ (.slice none 0 0))) := ⟨bl_⟩
  (try clear BK150)
  (try clear BK152)
  (try clear BK158)
  (try clear HB)
  generalize ((((w78.setCell ⟨gb158, 0, none⟩ (.string t156)).setCell ⟨gb158, 1, none⟩ (.string t157)).setCell ⟨gb158, 2, none⟩ (.int .i64 t154)).setCell ⟨gb158, 3, none⟩ (.slice none 0 0)) = w83 at n0_ n1_ n2_ n3_ ⊢
  have BK150 := n0_
  have BK152 := n1_
  have BK158 := n2_
  have HB := n3_
  clear n0_ n1_ n2_ n3_
  replace BK150 := bd_ BK150
  replace BK152 := bd_ BK152
  replace BK158 := bd_ BK158
  replace HB := am_ (below_drew1 HB.out)
  refine start_ (n := 22) (S := fun w' => w'.cell? ⟨gb158, 0, none⟩ = some (.string t156) ∧ w'.cell? ⟨gb158, 1, none⟩ = some (.string t157) ∧ w'.cell? ⟨gb158, 2, none⟩ = some (.int .i64 t154) ∧ w'.cell? ⟨gb158, 3, none⟩ = some (.slice none 0 0)) (ds := []) (bs 22 0) (by kernel_rfl) rfl rfl ⟨(blk_cell BK158.out 0).trans rfl, (blk_cell BK158.out 1).trans rfl, (blk_cell BK158.out 2).trans rfl, (blk_cell BK158.out 3).trans rfl⟩ (fun hHeld => ?_); refine with_tabW F12.tab8 F12.bits8 (fun HT_ HW_ => ?_)
  generalize w83.drew = w84 at BK150 BK152 BK158 HB hHeld ⊢
  refine pu_ 0 30 (bs 22 1) HT_ ?_ rfl rfl
  refine tk_ 1 31 (bs 22 3) HT_ HW_ hHeld au2_7 ?_ rfl rfl
  refine one_ (i := 2) (N := some 32) (bs 22 7) rfl rfl (one_of HT_.out (by kernel_rfl)) (by decide) (fun K hK => ?_)
  refine gr_ Tryd.func32 #[.string t156] (by rfl) ?_ rfl rfl rfl
  with_reducible refine (F32.calls k t156 true _ A13.out).mono ?_
  rintro e w' ⟨rfl, ⟨nd, rfl⟩⟩
  refine ⟨_, rfl, ?_⟩
  refine hK.out _ _ ⟨(blk_cell BK158.out 0).trans rfl, (blk_cell BK158.out 1).trans rfl, (blk_cell BK158.out 2).trans rfl, (blk_cell BK158.out 3).trans rfl⟩ (fun hHeld => ?_)
  clear hK K
  refine no_ 32 ?_
  refine pu_ 3 33 (bs 22 15) HT_ ?_ rfl rfl
  refine pu_ 4 34 (bs 22 31) HT_ ?_ rfl rfl
  refine pu_ 5 35 (bs 22 63) HT_ ?_ rfl rfl
  refine tk_ 6 36 (bs 22 127) HT_ HW_ hHeld au2_7 ?_ rfl rfl
  refine one_ (i := 7) (N := some 37) (bs 22 255) rfl rfl (one_of HT_.out (by kernel_rfl)) (by decide) (fun K hK => ?_)
  refine gr_ Tryd.func32 #[.string t157] (by rfl) ?_ rfl rfl rfl
  with_reducible refine (F32.calls k t157 true _ A15.out).mono ?_
  rintro e w' ⟨rfl, ⟨nd, rfl⟩⟩
  refine ⟨_, rfl, ?_⟩
  refine hK.out _ _ ⟨(blk_cell BK158.out 0).trans rfl, (blk_cell BK158.out 1).trans rfl, (blk_cell BK158.out 2).trans rfl, (blk_cell BK158.out 3).trans rfl⟩ (fun hHeld => ?_)
  clear hK K
  refine no_ 37 ?_
  refine pu_ 8 38 (bs 22 511) HT_ ?_ rfl rfl
  refine pu_ 9 39 (bs 22 1023) HT_ ?_ rfl rfl
  refine pu_ 10 40 (bs 22 2047) HT_ ?_ rfl rfl
  refine pu_ 11 41 (bs 22 4095) HT_ ?_ rfl rfl
  refine one_ (i := 12) (N := some 42) (bs 22 8191) rfl rfl (one_of HT_.out (by kernel_rfl)) (by decide) (fun K hK => ?_)
  refine gr_ Tryd.func33 #[.int .i64 t154] (by rfl) ?_ rfl rfl rfl
  with_reducible refine (F33.calls t154 false _ A17.out).mono ?_
  rintro e w' ⟨rfl, ⟨nd, rfl⟩⟩
  refine ⟨_, rfl, ?_⟩
  refine hK.out _ _ ⟨(blk_cell BK158.out 0).trans rfl, (blk_cell BK158.out 1).trans rfl, (blk_cell BK158.out 2).trans rfl, (blk_cell BK158.out 3).trans rfl⟩ (fun hHeld => ?_)
  clear hK K
  refine no_ 42 ?_
  refine pu_ 13 43 (bs 22 16383) HT_ ?_ rfl rfl
  refine pu_ 14 44 (bs 22 32767) HT_ ?_ rfl rfl
  refine pu_ 15 45 (bs 22 65535) HT_ ?_ rfl rfl
  refine pv_ 16 46 (bs 22 131071) HT_ ?_ rfl rfl
  refine pv_ 17 47 (bs 22 262143) HT_ ?_ rfl rfl
  refine pv_ 18 48 (bs 22 524287) HT_ ?_ rfl rfl
  refine pv_ 19 49 (bs 22 1048575) HT_ ?_ rfl rfl
  refine pv_ 20 50 (bs 22 2097151) HT_ ?_ rfl rfl
  refine pu_ 21 51 (bs 22 4194303) HT_ ?_ rfl rfl
  refine done_ (done_of HT_.out (by kernel_rfl)) ?_
  have hnb85 := NB150_158.out
  have hnc85 := NB158_150.out
  obtain ⟨hcz86_0, hcz86_1, hcz86_2, hcz86_3, hcz86_4, hcz86_5, hcz86_6, hfz86_0, hfz86_1, hfz86_2, hfz86_3, hfz86_4, hfz86_5, hfz86_6⟩ := cellsF7 BK150.out
  try go_wp2
  refine bodyPost_ret (results_cell_row rfl _ _ gb150 36 #[.string (⟨#[]⟩ : ByteArray), .string (⟨#[]⟩ : ByteArray), .int .i64 0, .slice none 0 0, .bool false, .int .i64 0, .int .i64 3] (0, 0) _ rfl (bq_ BK150) Tryd.underlying36 rfl (by kernel_rfl)) rfl ?_
  exact ⟨_, au2_2, au2_3, bl_⟩
 replace H := bi_ H; rcases H with ⟨⟨t162, t163⟩, A19, H⟩
 replace H := bi_ H; rcases H with ⟨t166, A20, H⟩
 replace H := ib_ H; rcases H with ⟨rfl, H⟩ | ⟨rfl, H⟩
 rotate_left
 ·simp only [Option.some.injEq, Prod.mk.injEq] at H
  obtain ⟨rfl, rfl, rfl, rfl, rfl, rfl, rfl⟩ := H
  go_enter Tryd.func12, Tryd.ntmps12
  try go_wp2_with (first | ((with_reducible refine gate_dst (N := 2) rfl ?_); refine be_ 2 #[.string (⟨#[]⟩ : ByteArray), .string (⟨#[]⟩ : ByteArray), .int .i64 0, .slice none 0 0, .bool false, .int .i64 0, .int .i64 0] 36 ?_; intro gb150 hg w46 hbox hb; have BK150 := am_ (hbox); have GW150 := am_ (gw_ hg bl_); have GE150 := GW150; replace HB := hs_ w hb; clear hb hbox hg; have p151 : 0 ≤ (0 : Int) := (by omega); have q151 : 0 < (l0.length : Int) := od_; obtain ⟨ad151, A151_1, c151_1, e151, hx151_0, hx151_1, hl151_1, hi151_1⟩ := at_T52 HR0.out 0 p151 q151; cases e151; have qi151 : (0 < l0.length) = True := eq_true (by omega); (try rw [show ((0 : Int)).toNat = 0 from rfl] at hx151_0); (try rw [show 0 * 2 = 0 from rfl] at hx151_0); (try rw [Addr.add_zero'] at hx151_0); (try rw [show ((0 : Int)).toNat = 0 from rfl] at hx151_1); (try rw [show 0 * 2 = 0 from rfl] at hx151_1); (try rw [Addr.add_zero'] at hx151_1); replace hx151_0 := (HB.out.cell (World.block_lt_of_cell? _ _ hx151_0)).trans hx151_0; replace hx151_1 := (HB.out.cell (World.block_lt_of_cell? _ _ hx151_1)).trans hx151_1; have HR151_1 := am_ hi151_1; have HC151_1 := am_ hl151_1; clear hi151_1 hl151_1; replace p151 := eq_true p151; replace q151 := eq_true q151) | ((with_reducible refine gate_dst (N := 3) rfl ?_); refine be_ 3 #[.string (⟨#[]⟩ : ByteArray), .slice none 0 0] 52 ?_; intro gb152 hg w47 hbox hb; have BK152 := am_ (hbox); have GW152 := am_ (gw_ hg bl_); have GE152 := GW152; replace HB := hs_ w hb; have NB150_152 := am_ (gn_ hg (blkl_ BK150)); have NB152_150 := am_ (gm_ hg (blkl_ BK150)); replace BK150 := bb_ BK150 hb; clear hb hbox hg; have hnb48 := NB152_150.out; have hnc48 := NB150_152.out; obtain ⟨hcz49_0, hcz49_1, hfz49_0, hfz49_1⟩ := cellsF2 BK152.out) | ((with_reducible refine gate_callee (f := 31) rfl ?_); refine gl_ 20 Tryd.func31 #[.agg #[.string ((rd_T52 l0 0).f0), .slice A151_1 ((rd_T52 l0 0).f1).length c151_1], .int .i64 2, .int .i64 0] ?_ rfl rfl rfl rfl; (with_reducible refine (F31.calls ((rd_T52 l0 0).f0) _ _ ((rd_T52 l0 0).f1) 2 0 t153 _ ?s1 ?s2 A9.out).mono ?_); (case s1 => exact au2_11); (case s2 => exact HC151_1.out); rintro e w50 ⟨rfl, hb⟩; refine ⟨_, rfl, ?_⟩; replace BK150 := am_ (blk_below (g := gb150) (o := .cells #[.string (⟨#[]⟩ : ByteArray), .string (⟨#[]⟩ : ByteArray), .int .i64 0, .slice none 0 0, .bool false, .int .i64 0, .int .i64 0] 36 (0, 0)) (bf_ BK150) hb); replace BK152 := am_ (blk_below (g := gb152) (o := .cells #[.string ((rd_T52 l0 0).f0), .slice A151_1 ((rd_T52 l0 0).f1).length c151_1] 52 (0, 0)) (bq_ BK152) hb); replace HB := hs_ w hb; (try clear hb)) | ((with_reducible refine gate_callee (f := 30) rfl ?_); refine gl_ 21 Tryd.func30 #[.string t153] ?_ rfl rfl rfl rfl; (with_reducible refine (F30.calls k t153 t154 t155 _ A10.out).mono ?_); rintro e w51 ⟨rfl, hb⟩; refine ⟨_, rfl, ?_⟩; replace BK150 := bb_ BK150 hb; replace BK152 := bb_ BK152 hb; replace HB := hs_ w hb; (try clear hb)))
  replace BK150 := bd_ BK150
  replace BK152 := bd_ BK152
  replace HB := am_ (below_drew1 HB.out)
  refine start_ (n := 8) (S := fun w' => w'.cell? ⟨gb152, 0, none⟩ = some (.string ((rd_T52 l0 0).f0)) ∧ w'.cell? ⟨gb152, 1, none⟩ = some (.slice A151_1 ((rd_T52 l0 0).f1).length c151_1)) (ds := []) (bs 8 0) (by kernel_rfl) rfl rfl ⟨(blk_cell BK152.out 0).trans rfl, (blk_cell BK152.out 1).trans rfl⟩ (fun hHeld => ?_); refine with_tabW F12.tab7 F12.bits7 (fun HT_ HW_ => ?_)
  generalize w51.drew = w52 at BK150 BK152 HB hHeld ⊢
  refine pu_ 4 28 (bs 8 16) HT_ ?_ rfl rfl
  refine tk_ 0 24 (bs 8 17) HT_ HW_ hHeld au2_5 ?_ rfl rfl
  refine tk_ 2 26 (bs 8 21) HT_ HW_ hHeld au2_5 ?_ rfl rfl
  refine join_ (σ := Nat) 1 (bs 8 127) (fun s_ => [(25, .string t156), (27, .string t157), (6, .pointer (some ⟨s_, 0, none⟩)), (29, .agg #[.string t156, .string t157, .int .i64 t154, .slice none 0 0])]) (fun s_ w' => (w'.cell? ⟨gb152, 0, none⟩ = some (.string ((rd_T52 l0 0).f0)) ∧ w'.cell? ⟨gb152, 1, none⟩ = some (.slice A151_1 ((rd_T52 l0 0).f1).length c151_1)) ∧ (w'.heap[gb150]? = some (.cells #[.string (⟨#[]⟩ : ByteArray), .string (⟨#[]⟩ : ByteArray), .int .i64 0, .slice none 0 0, .bool false, .int .i64 0, .int .i64 0] 36 (0, 0))) ∧ (w'.heap[gb152]? = some (.cells #[.string ((rd_T52 l0 0).f0), .slice A151_1 ((rd_T52 l0 0).f1).length c151_1] 52 (0, 0))) ∧ (w'.heap[s_]? = some (.cells #[.string (⟨#[]⟩ : ByteArray), .string (⟨#[]⟩ : ByteArray), .int .i64 0, .slice none 0 0] 29 (0, 0))) ∧ (w.heap.size ≤ s_) ∧ (w.heap.size ≤ s_) ∧ (gb150 ≠ s_) ∧ (s_ ≠ gb150) ∧ (gb152 ≠ s_) ∧ (s_ ≠ gb152) ∧ (Below w.heap.size w w')) ?_ ?_
  rotate_left
  ·intro hCont
   refine two_ (i := 1) (j := 6) (Ni := some 25) (Nj := some 6) (bs 8 23) (bs 8 85) rfl rfl rfl rfl (two_of HT_.out (by kernel_rfl)) (by decide) (by decide) (fun K hK => ?_) (fun K hK => ?_)
   rotate_left
   ·skip
    refine box_step ?hg (N := 6) ?hd (cs := #[.string (⟨#[]⟩ : ByteArray), .string (⟨#[]⟩ : ByteArray), .int .i64 0, .slice none 0 0]) (t := 29) ?hr ?_; (case hd => rfl); (case hg => rfl); (case hr => exact hr_)
    intro gb158 hg w53 hbox hb
    have BK158 := am_ (hbox)
    have GW158 := am_ (gw_ hg bl_)
    have GE158 := am_ (gw_ hg bl_)
    replace HB := hs_ w hb
    have NB150_158 := am_ (gn_ hg (blkl_ BK150))
    have NB158_150 := am_ (gm_ hg (blkl_ BK150))
    replace BK150 := bb_ BK150 hb
    have NB152_158 := am_ (gn_ hg (blkl_ BK152))
    have NB158_152 := am_ (gm_ hg (blkl_ BK152))
    replace BK152 := bb_ BK152 hb
    clear hb hbox hg
    refine hK.out _ _ ⟨(blk_cell BK152.out 0).trans rfl, (blk_cell BK152.out 1).trans rfl⟩ (fun hHeld => ?_)
    clear hK K
    refine no_ 6 ?_
    refine one_ (i := 1) (N := some 25) (bs 8 87) rfl rfl (one_of HT_.out (by kernel_rfl)) (by decide) (fun K hK => ?_)
    refine gr_ Tryd.func31 #[.agg #[.string ((rd_T52 l0 0).f0), .slice A151_1 ((rd_T52 l0 0).f1).length c151_1], .int .i64 0, .int .i64 0] (by rfl) ?_ rfl rfl rfl
    with_reducible refine (F31.calls ((rd_T52 l0 0).f0) _ _ ((rd_T52 l0 0).f1) 0 0 t156 _ ?s1 ?s2 A11.out).mono ?_
    (case s1 => exact au2_0)
    (case s2 => exact HC151_1.out)
    rintro e w54 ⟨rfl, hb⟩
    refine ⟨_, rfl, ?_⟩
    replace BK150 := bb_ BK150 hb
    replace BK152 := bb_ BK152 hb
    replace BK158 := bb_ BK158 hb
    replace HB := hs_ w hb
    (try clear hb)
    (try clear hb2)
    (try clear hk)
    (try clear hi)
    refine hK.out _ _ ⟨(blk_cell BK152.out 0).trans rfl, (blk_cell BK152.out 1).trans rfl⟩ (fun hHeld => ?_)
    clear hK K
    refine no_ 25 ?_
    refine one_ (i := 3) (N := some 27) (bs 8 95) rfl rfl (one_of HT_.out (by kernel_rfl)) (by decide) (fun K hK => ?_)
    refine gr_ Tryd.func31 #[.agg #[.string ((rd_T52 l0 0).f0), .slice A151_1 ((rd_T52 l0 0).f1).length c151_1], .int .i64 1, .int .i64 0] (by rfl) ?_ rfl rfl rfl
    with_reducible refine (F31.calls ((rd_T52 l0 0).f0) _ _ ((rd_T52 l0 0).f1) 1 0 t157 _ ?s1 ?s2 A12.out).mono ?_
    (case s1 => exact au2_0)
    (case s2 => exact HC151_1.out)
    rintro e w55 ⟨rfl, hb⟩
    refine ⟨_, rfl, ?_⟩
    replace BK150 := bb_ BK150 hb
    replace BK152 := bb_ BK152 hb
    replace BK158 := bb_ BK158 hb
    replace HB := hs_ w hb
    (try clear hb)
    (try clear hb2)
    (try clear hk)
    (try clear hi)
    refine hK.out _ _ ⟨(blk_cell BK152.out 0).trans rfl, (blk_cell BK152.out 1).trans rfl⟩ (fun hHeld => ?_)
    clear hK K
    refine no_ 27 ?_
    refine pu_ 5 29 (bs 8 127) HT_ ?_ rfl rfl
    exact norm_ au2_1 (hCont (gb158) _ ⟨hHeld, (bk_ BK150), (bk_ BK152), (bk_ BK158), GW158.out, GE158.out, NB150_158.out, NB158_150.out, NB152_158.out, NB158_152.out, bl_⟩)
   skip
   refine gr_ Tryd.func31 #[.agg #[.string ((rd_T52 l0 0).f0), .slice A151_1 ((rd_T52 l0 0).f1).length c151_1], .int .i64 0, .int .i64 0] (by rfl) ?_ rfl rfl rfl
   with_reducible refine (F31.calls ((rd_T52 l0 0).f0) _ _ ((rd_T52 l0 0).f1) 0 0 t156 _ ?s1 ?s2 A11.out).mono ?_
   (case s1 => exact au2_0)
   (case s2 => exact HC151_1.out)
   rintro e w53 ⟨rfl, hb⟩
   refine ⟨_, rfl, ?_⟩
   replace BK150 := bb_ BK150 hb
   replace BK152 := bb_ BK152 hb
   replace HB := hs_ w hb
   (try clear hb)
   (try clear hb2)
   (try clear hk)
   (try clear hi)
   refine hK.out _ _ ⟨(blk_cell BK152.out 0).trans rfl, (blk_cell BK152.out 1).trans rfl⟩ (fun hHeld => ?_)
   clear hK K
   refine no_ 25 ?_
   refine two_ (i := 3) (j := 6) (Ni := some 27) (Nj := some 6) (bs 8 31) (bs 8 87) rfl rfl rfl rfl (two_of HT_.out (by kernel_rfl)) (by decide) (by decide) (fun K hK => ?_) (fun K hK => ?_)
   ·skip
    refine gr_ Tryd.func31 #[.agg #[.string ((rd_T52 l0 0).f0), .slice A151_1 ((rd_T52 l0 0).f1).length c151_1], .int .i64 1, .int .i64 0] (by rfl) ?_ rfl rfl rfl
    with_reducible refine (F31.calls ((rd_T52 l0 0).f0) _ _ ((rd_T52 l0 0).f1) 1 0 t157 _ ?s1 ?s2 A12.out).mono ?_
    (case s1 => exact au2_0)
    (case s2 => exact HC151_1.out)
    rintro e w54 ⟨rfl, hb⟩
    refine ⟨_, rfl, ?_⟩
    replace BK150 := bb_ BK150 hb
    replace BK152 := bb_ BK152 hb
    replace HB := hs_ w hb
    (try clear hb)
    (try clear hb2)
    (try clear hk)
    (try clear hi)
    refine hK.out _ _ ⟨(blk_cell BK152.out 0).trans rfl, (blk_cell BK152.out 1).trans rfl⟩ (fun hHeld => ?_)
    clear hK K
    refine no_ 27 ?_
    refine pu_ 5 29 (bs 8 63) HT_ ?_ rfl rfl
    refine one_ (i := 6) (N := some 6) (bs 8 127) rfl rfl (one_of HT_.out (by kernel_rfl)) (by decide) (fun K hK => ?_)
    refine box_step ?hg (N := 6) ?hd (cs := #[.string (⟨#[]⟩ : ByteArray), .string (⟨#[]⟩ : ByteArray), .int .i64 0, .slice none 0 0]) (t := 29) ?hr ?_; (case hd => rfl); (case hg => rfl); (case hr => exact hr_)
    intro gb158 hg w55 hbox hb
    have BK158 := am_ (hbox)
    have GW158 := am_ (gw_ hg bl_)
    have GE158 := am_ (gw_ hg bl_)
    replace HB := hs_ w hb
    have NB150_158 := am_ (gn_ hg (blkl_ BK150))
    have NB158_150 := am_ (gm_ hg (blkl_ BK150))
    replace BK150 := bb_ BK150 hb
    have NB152_158 := am_ (gn_ hg (blkl_ BK152))
    have NB158_152 := am_ (gm_ hg (blkl_ BK152))
    replace BK152 := bb_ BK152 hb
    clear hb hbox hg
    refine hK.out _ _ ⟨(blk_cell BK152.out 0).trans rfl, (blk_cell BK152.out 1).trans rfl⟩ (fun hHeld => ?_)
    clear hK K
    refine no_ 6 ?_
    exact norm_ au2_1 (hCont (gb158) _ ⟨hHeld, (bk_ BK150), (bk_ BK152), (bk_ BK158), GW158.out, GE158.out, NB150_158.out, NB158_150.out, NB152_158.out, NB158_152.out, bl_⟩)
   skip
   refine box_step ?hg (N := 6) ?hd (cs := #[.string (⟨#[]⟩ : ByteArray), .string (⟨#[]⟩ : ByteArray), .int .i64 0, .slice none 0 0]) (t := 29) ?hr ?_; (case hd => rfl); (case hg => rfl); (case hr => exact hr_)
   intro gb158 hg w54 hbox hb
   have BK158 := am_ (hbox)
   have GW158 := am_ (gw_ hg bl_)
   have GE158 := am_ (gw_ hg bl_)
   replace HB := hs_ w hb
   have NB150_158 := am_ (gn_ hg (blkl_ BK150))
   have NB158_150 := am_ (gm_ hg (blkl_ BK150))
   replace BK150 := bb_ BK150 hb
   have NB152_158 := am_ (gn_ hg (blkl_ BK152))
   have NB158_152 := am_ (gm_ hg (blkl_ BK152))
   replace BK152 := bb_ BK152 hb
   clear hb hbox hg
   refine hK.out _ _ ⟨(blk_cell BK152.out 0).trans rfl, (blk_cell BK152.out 1).trans rfl⟩ (fun hHeld => ?_)
   clear hK K
   refine no_ 6 ?_
   refine one_ (i := 3) (N := some 27) (bs 8 95) rfl rfl (one_of HT_.out (by kernel_rfl)) (by decide) (fun K hK => ?_)
   refine gr_ Tryd.func31 #[.agg #[.string ((rd_T52 l0 0).f0), .slice A151_1 ((rd_T52 l0 0).f1).length c151_1], .int .i64 1, .int .i64 0] (by rfl) ?_ rfl rfl rfl
   with_reducible refine (F31.calls ((rd_T52 l0 0).f0) _ _ ((rd_T52 l0 0).f1) 1 0 t157 _ ?s1 ?s2 A12.out).mono ?_
   (case s1 => exact au2_0)
   (case s2 => exact HC151_1.out)
   rintro e w55 ⟨rfl, hb⟩
   refine ⟨_, rfl, ?_⟩
   replace BK150 := bb_ BK150 hb
   replace BK152 := bb_ BK152 hb
   replace BK158 := bb_ BK158 hb
   replace HB := hs_ w hb
   (try clear hb)
   (try clear hb2)
   (try clear hk)
   (try clear hi)
   refine hK.out _ _ ⟨(blk_cell BK152.out 0).trans rfl, (blk_cell BK152.out 1).trans rfl⟩ (fun hHeld => ?_)
   clear hK K
   refine no_ 27 ?_
   refine pu_ 5 29 (bs 8 127) HT_ ?_ rfl rfl
   exact norm_ au2_1 (hCont (gb158) _ ⟨hHeld, (bk_ BK150), (bk_ BK152), (bk_ BK158), GW158.out, GE158.out, NB150_158.out, NB158_150.out, NB152_158.out, NB158_152.out, bl_⟩)
  rintro gb158 w56 ⟨hS_, h0_, h1_, h2_, h3_, h4_, h5_, h6_, h7_, h8_, h9_⟩
  have n0_ : Aside0 (w56.heap[gb150]? = some (.cells #[.string (⟨#[]⟩ : ByteArray), .string (⟨#[]⟩ : ByteArray), .int .i64 0, .slice none 0 0, .bool false, .int .i64 0, .int .i64 0] 36 (0, 0))) := ⟨h0_⟩
  have n1_ : Aside0 (w56.heap[gb152]? = some (.cells #[.string ((rd_T52 l0 0).f0), .slice A151_1 ((rd_T52 l0 0).f1).length c151_1] 52 (0, 0))) := ⟨h1_⟩
  have n2_ : Aside0 (w56.heap[gb158]? = some (.cells #[.string (⟨#[]⟩ : ByteArray), .string (⟨#[]⟩ : ByteArray), .int .i64 0, .slice none 0 0] 29 (0, 0))) := ⟨h2_⟩
  have n3_ : Aside0 (w.heap.size ≤ gb158) := ⟨h3_⟩
  have n4_ : Aside0 (w.heap.size ≤ gb158) := ⟨h4_⟩
  have n5_ : Aside0 (gb150 ≠ gb158) := ⟨h5_⟩
  have n6_ : Aside0 (gb158 ≠ gb150) := ⟨h6_⟩
  have n7_ : Aside0 (gb152 ≠ gb158) := ⟨h7_⟩
  have n8_ : Aside0 (gb158 ≠ gb152) := ⟨h8_⟩
  have n9_ : Aside0 (Below w.heap.size w w56) := ⟨h9_⟩
  clear BK150
  clear BK152
  clear HB
  clear h0_ h1_ h2_ h3_ h4_ h5_ h6_ h7_ h8_ h9_
  have BK150 := n0_
  have BK152 := n1_
  have BK158 := n2_
  have GW158 := n3_
  have GE158 := n4_
  have NB150_158 := n5_
  have NB158_150 := n6_
  have NB152_158 := n7_
  have NB158_152 := n8_
  have HB := n9_
  clear n0_ n1_ n2_ n3_ n4_ n5_ n6_ n7_ n8_ n9_
  have hHeld : w56.cell? ⟨gb152, 0, none⟩ = some (.string ((rd_T52 l0 0).f0)) ∧ w56.cell? ⟨gb152, 1, none⟩ = some (.slice A151_1 ((rd_T52 l0 0).f1).length c151_1) := hS_
  refine norm_ (a' := ?_) ?_ ?_
  rotate_left
  ·simp only [putAll, Act.put, List.setIfInBounds_toArray, List.set_cons_zero, List.set_cons_succ]
   rfl
  refine one_ (i := 7) (N := none) (bs 8 255) rfl rfl (one_of HT_.out (by kernel_rfl)) (by decide) (fun K hK => ?_)
  have hs57 : w56.cell? ⟨gb158, 0, none⟩ = some (.string (⟨#[]⟩ : ByteArray)) := (blk_cell BK158.out 0).trans rfl
  have hfs57 := blk_frozen BK158.out 0
  have hns57_0 := NB150_158.out
  have hns57_1 := NB152_158.out
  have hms57_0 := NB158_150.out
  have hms57_1 := NB158_152.out
  have hs58 : w56.cell? ⟨gb158, 1, none⟩ = some (.string (⟨#[]⟩ : ByteArray)) := (blk_cell BK158.out 1).trans rfl
  have hfs58 := blk_frozen BK158.out 1
  have hns58_0 := NB150_158.out
  have hns58_1 := NB152_158.out
  have hms58_0 := NB158_150.out
  have hms58_1 := NB158_152.out
  have hs59 : w56.cell? ⟨gb158, 2, none⟩ = some (.int .i64 0) := (blk_cell BK158.out 2).trans rfl
  have hfs59 := blk_frozen BK158.out 2
  have hns59_0 := NB150_158.out
  have hns59_1 := NB152_158.out
  have hms59_0 := NB158_150.out
  have hms59_1 := NB158_152.out
  have hs60 : w56.cell? ⟨gb158, 3, none⟩ = some (.slice none 0 0) := (blk_cell BK158.out 3).trans rfl
  have hfs60 := blk_frozen BK158.out 3
  have hns60_0 := NB150_158.out
  have hns60_1 := NB152_158.out
  have hms60_0 := NB158_150.out
  have hms60_1 := NB158_152.out
  refine skip_ (w1 := ?_) (by rfl) rfl ?_ ?_
  rotate_left
  ·go_simp
   rfl
  refine hK.out _ _ ⟨((cell_far (p := ⟨gb158, _, none⟩) NB152_158.out _).trans (((cell_far (p := ⟨gb158, _, none⟩) NB152_158.out _).trans (((cell_far (p := ⟨gb158, _, none⟩) NB152_158.out _).trans (((cell_far (p := ⟨gb158, _, none⟩) NB152_158.out _).trans (hHeld.1)))))))), ((cell_far (p := ⟨gb158, _, none⟩) NB152_158.out _).trans (((cell_far (p := ⟨gb158, _, none⟩) NB152_158.out _).trans (((cell_far (p := ⟨gb158, _, none⟩) NB152_158.out _).trans (((cell_far (p := ⟨gb158, _, none⟩) NB152_158.out _).trans (hHeld.2))))))))⟩ (fun hHeld => ?_)
  clear hK K
  refine done_ (done_of HT_.out (by kernel_rfl)) ?_
  try go_wp2
  have n0_ : Aside0 (((((w56.setCell ⟨gb158, 0, none⟩ (.string t156)).setCell ⟨gb158, 1, none⟩ (.string t157)).setCell ⟨gb158, 2, none⟩ (.int .i64 t154)).setCell ⟨gb158, 3, none⟩ (.slice none 0 0)).heap[gb150]? = some (.cells #[.string (⟨#[]⟩ : ByteArray), .string (⟨#[]⟩ : ByteArray), .int .i64 0, .slice none 0 0, .bool false, .int .i64 0, .int .i64 0] 36 (0, 0))) := ⟨bf_ BK150⟩
  have n1_ : Aside0 (((((w56.setCell ⟨gb158, 0, none⟩ (.string t156)).setCell ⟨gb158, 1, none⟩ (.string t157)).setCell ⟨gb158, 2, none⟩ (.int .i64 t154)).setCell ⟨gb158, 3, none⟩ (.slice none 0 0)).heap[gb152]? = some (.cells #[.string ((rd_T52 l0 0).f0), .slice A151_1 ((rd_T52 l0 0).f1).length c151_1] 52 (0, 0))) := ⟨bf_ BK152⟩
  have n2_ : Aside0 (((((w56.setCell ⟨gb158, 0, none⟩ (.string t156)).setCell ⟨gb158, 1, none⟩ (.string t157)).setCell ⟨gb158, 2, none⟩ (.int .i64 t154)).setCell ⟨gb158, 3, none⟩ (.slice none 0 0)).heap[gb158]? = some (.cells #[.string t156, .string t157, .int .i64 t154, .slice none 0 0] 29 (0, 0))) := ⟨bq_ BK158⟩
  have n3_ : Aside0 (Below w.heap.size w ((((w56.setCell ⟨gb158, 0, none⟩ (.string t156)).setCell ⟨gb158, 1, none⟩ (.string t157)).setCell ⟨gb158, 2, none⟩ (.int .i64 t154)).setCell ⟨gb158, 3, none⟩ (.slice none 0 0))) := ⟨bl_⟩
  (try clear BK150)
  (try clear BK152)
  (try clear BK158)
  (try clear HB)
  generalize ((((w56.setCell ⟨gb158, 0, none⟩ (.string t156)).setCell ⟨gb158, 1, none⟩ (.string t157)).setCell ⟨gb158, 2, none⟩ (.int .i64 t154)).setCell ⟨gb158, 3, none⟩ (.slice none 0 0)) = w61 at n0_ n1_ n2_ n3_ ⊢
  have BK150 := n0_
  have BK152 := n1_
  have BK158 := n2_
  have HB := n3_
  clear n0_ n1_ n2_ n3_
  replace BK150 := bd_ BK150
  replace BK152 := bd_ BK152
  replace BK158 := bd_ BK158
  replace HB := am_ (below_drew1 HB.out)
  refine start_ (n := 22) (S := fun w' => w'.cell? ⟨gb158, 0, none⟩ = some (.string t156) ∧ w'.cell? ⟨gb158, 1, none⟩ = some (.string t157) ∧ w'.cell? ⟨gb158, 2, none⟩ = some (.int .i64 t154) ∧ w'.cell? ⟨gb158, 3, none⟩ = some (.slice none 0 0) ∧ w'.cell? ⟨gb152, 0, none⟩ = some (.string ((rd_T52 l0 0).f0)) ∧ w'.cell? ⟨gb152, 1, none⟩ = some (.slice A151_1 ((rd_T52 l0 0).f1).length c151_1)) (ds := []) (bs 22 0) (by kernel_rfl) rfl rfl ⟨(blk_cell BK158.out 0).trans rfl, (blk_cell BK158.out 1).trans rfl, (blk_cell BK158.out 2).trans rfl, (blk_cell BK158.out 3).trans rfl, (blk_cell BK152.out 0).trans rfl, (blk_cell BK152.out 1).trans rfl⟩ (fun hHeld => ?_); refine with_tabW F12.tab8 F12.bits8 (fun HT_ HW_ => ?_)
  generalize w61.drew = w62 at BK150 BK152 BK158 HB hHeld ⊢
  refine pu_ 0 30 (bs 22 1) HT_ ?_ rfl rfl
  refine tk_ 1 31 (bs 22 3) HT_ HW_ hHeld au2_4 ?_ rfl rfl
  refine one_ (i := 2) (N := some 32) (bs 22 7) rfl rfl (one_of HT_.out (by kernel_rfl)) (by decide) (fun K hK => ?_)
  refine gr_ Tryd.func32 #[.string t156] (by rfl) ?_ rfl rfl rfl
  with_reducible refine (F32.calls k t156 true _ A13.out).mono ?_
  rintro e w' ⟨rfl, ⟨nd, rfl⟩⟩
  refine ⟨_, rfl, ?_⟩
  refine hK.out _ _ ⟨(blk_cell BK158.out 0).trans rfl, (blk_cell BK158.out 1).trans rfl, (blk_cell BK158.out 2).trans rfl, (blk_cell BK158.out 3).trans rfl, (blk_cell BK152.out 0).trans rfl, (blk_cell BK152.out 1).trans rfl⟩ (fun hHeld => ?_)
  clear hK K
  refine no_ 32 ?_
  refine pu_ 3 33 (bs 22 15) HT_ ?_ rfl rfl
  refine pu_ 4 34 (bs 22 31) HT_ ?_ rfl rfl
  refine pu_ 5 35 (bs 22 63) HT_ ?_ rfl rfl
  refine tk_ 6 36 (bs 22 127) HT_ HW_ hHeld au2_4 ?_ rfl rfl
  refine one_ (i := 7) (N := some 37) (bs 22 255) rfl rfl (one_of HT_.out (by kernel_rfl)) (by decide) (fun K hK => ?_)
  refine gr_ Tryd.func32 #[.string t157] (by rfl) ?_ rfl rfl rfl
  with_reducible refine (F32.calls k t157 true _ A15.out).mono ?_
  rintro e w' ⟨rfl, ⟨nd, rfl⟩⟩
  refine ⟨_, rfl, ?_⟩
  refine hK.out _ _ ⟨(blk_cell BK158.out 0).trans rfl, (blk_cell BK158.out 1).trans rfl, (blk_cell BK158.out 2).trans rfl, (blk_cell BK158.out 3).trans rfl, (blk_cell BK152.out 0).trans rfl, (blk_cell BK152.out 1).trans rfl⟩ (fun hHeld => ?_)
  clear hK K
  refine no_ 37 ?_
  refine pu_ 8 38 (bs 22 511) HT_ ?_ rfl rfl
  refine pu_ 9 39 (bs 22 1023) HT_ ?_ rfl rfl
  refine pu_ 10 40 (bs 22 2047) HT_ ?_ rfl rfl
  refine pu_ 11 41 (bs 22 4095) HT_ ?_ rfl rfl
  refine one_ (i := 12) (N := some 42) (bs 22 8191) rfl rfl (one_of HT_.out (by kernel_rfl)) (by decide) (fun K hK => ?_)
  refine gr_ Tryd.func33 #[.int .i64 t154] (by rfl) ?_ rfl rfl rfl
  with_reducible refine (F33.calls t154 true _ A17.out).mono ?_
  rintro e w' ⟨rfl, ⟨nd, rfl⟩⟩
  refine ⟨_, rfl, ?_⟩
  refine hK.out _ _ ⟨(blk_cell BK158.out 0).trans rfl, (blk_cell BK158.out 1).trans rfl, (blk_cell BK158.out 2).trans rfl, (blk_cell BK158.out 3).trans rfl, (blk_cell BK152.out 0).trans rfl, (blk_cell BK152.out 1).trans rfl⟩ (fun hHeld => ?_)
  clear hK K
  refine no_ 42 ?_
  refine pu_ 13 43 (bs 22 16383) HT_ ?_ rfl rfl
  refine pu_ 14 44 (bs 22 32767) HT_ ?_ rfl rfl
  refine pu_ 15 45 (bs 22 65535) HT_ ?_ rfl rfl
  refine tk_ 16 46 (bs 22 131071) HT_ HW_ hHeld au2_4 ?_ rfl rfl
  refine tk_ 17 47 (bs 22 262143) HT_ HW_ hHeld au2_4 ?_ rfl rfl
  refine one_ (i := 18) (N := some 48) (bs 22 524287) rfl rfl (one_of HT_.out (by kernel_rfl)) (by decide) (fun K hK => ?_)
  refine gr_ Tryd.func35 #[.agg #[.string t156, .string t157, .int .i64 t154, .slice none 0 0]] (by rfl) ?_ rfl rfl rfl
  refine (F35.calls k t156 t157 t154 _ _ ([] : List (S83)) t162 t163 _ ?s1 ?s2 A19.out).mono ?_
  (case s1 => exact Kd.C_nil _ _)
  (case s2 => exact Nat.le_refl _)
  rintro e w63 ⟨v164, rfl, ho0, hb⟩
  refine ⟨_, rfl, ?_⟩
  have HO165 := am_ (Kd.S_lower ho0 (below_size bl_))
  replace BK150 := bb_ BK150 hb
  replace BK152 := bb_ BK152 hb
  replace BK158 := bb_ BK158 hb
  replace HB := hs_ w hb
  (try clear hb)
  (try clear hb2)
  (try clear hk)
  (try clear hi)
  (try clear ho0)
  obtain ⟨Ao64, co64, eo64⟩ := Kd.S_slice HO165.out
  (first | subst eo64 | (injection eo64 with f1_ f2_ f3_; have f4_ := f1_.symm; have f5_ := f3_.symm; clear f1_ f2_ f3_; subst f4_; subst f5_))
  refine hK.out _ _ ⟨(blk_cell BK158.out 0).trans rfl, (blk_cell BK158.out 1).trans rfl, (blk_cell BK158.out 2).trans rfl, (blk_cell BK158.out 3).trans rfl, (blk_cell BK152.out 0).trans rfl, (blk_cell BK152.out 1).trans rfl⟩ (fun hHeld => ?_)
  clear hK K
  refine no_ 48 ?_
  refine one_ (i := 19) (N := some 49) (bs 22 1048575) rfl rfl (one_of HT_.out (by kernel_rfl)) (by decide) (fun K hK => ?_)
  refine gr_ Tryd.func34 #[.agg #[.string ((rd_T52 l0 0).f0), .slice A151_1 ((rd_T52 l0 0).f1).length c151_1], .agg #[.string t162, .slice Ao64 t163.length co64]] (by rfl) ?_ rfl rfl rfl
  with_reducible refine (F34.calls k ((rd_T52 l0 0).f0) _ _ ((rd_T52 l0 0).f1) t162 _ _ t163 false _ ?s1 ?s2 ?s3 ?s4 A20.out).mono ?_
  (case s1 => exact au2_0)
  (case s2 => exact HC151_1.out)
  (case s3 => exact au2_8)
  (case s4 => exact (Kd.S_reads' HO165.out).2.1)
  rintro e w65 ⟨rfl, hb⟩
  refine ⟨_, rfl, ?_⟩
  replace HO165 := am_ (Kd.S_below au2_9 hb)
  replace BK150 := bb_ BK150 hb
  replace BK152 := bb_ BK152 hb
  replace BK158 := bb_ BK158 hb
  replace HB := hs_ w hb
  (try clear hb)
  (try clear hb2)
  (try clear hk)
  (try clear hi)
  refine hK.out _ _ ⟨(blk_cell BK158.out 0).trans rfl, (blk_cell BK158.out 1).trans rfl, (blk_cell BK158.out 2).trans rfl, (blk_cell BK158.out 3).trans rfl, (blk_cell BK152.out 0).trans rfl, (blk_cell BK152.out 1).trans rfl⟩ (fun hHeld => ?_)
  clear hK K
  refine no_ 49 ?_
  refine pu_ 20 50 (bs 22 2097151) HT_ ?_ rfl rfl
  refine pu_ 21 51 (bs 22 4194303) HT_ ?_ rfl rfl
  refine done_ (done_of HT_.out (by kernel_rfl)) ?_
  have hnb66 := NB150_158.out
  have hnc66 := NB158_150.out
  obtain ⟨hcz67_0, hcz67_1, hcz67_2, hcz67_3, hcz67_4, hcz67_5, hcz67_6, hfz67_0, hfz67_1, hfz67_2, hfz67_3, hfz67_4, hfz67_5, hfz67_6⟩ := cellsF7 BK150.out
  try go_wp2
  refine bodyPost_ret (results_cell_row rfl _ _ gb150 36 #[.string (⟨#[]⟩ : ByteArray), .string (⟨#[]⟩ : ByteArray), .int .i64 0, .slice none 0 0, .bool false, .int .i64 0, .int .i64 3] (0, 0) _ rfl (bq_ BK150) Tryd.underlying36 rfl (by kernel_rfl)) rfl ?_
  exact ⟨_, au2_2, au2_3, bl_⟩
 simp only [Option.some.injEq, Prod.mk.injEq] at H
 obtain ⟨rfl, rfl, rfl, rfl, rfl, rfl, rfl⟩ := H
 go_enter Tryd.func12, Tryd.ntmps12
 try go_wp2_with (first | ((with_reducible refine gate_dst (N := 2) rfl ?_); refine be_ 2 #[.string (⟨#[]⟩ : ByteArray), .string (⟨#[]⟩ : ByteArray), .int .i64 0, .slice none 0 0, .bool false, .int .i64 0, .int .i64 0] 36 ?_; intro gb150 hg w22 hbox hb; have BK150 := am_ (hbox); have GW150 := am_ (gw_ hg bl_); have GE150 := GW150; replace HB := hs_ w hb; clear hb hbox hg; have p151 : 0 ≤ (0 : Int) := (by omega); have q151 : 0 < (l0.length : Int) := od_; obtain ⟨ad151, A151_1, c151_1, e151, hx151_0, hx151_1, hl151_1, hi151_1⟩ := at_T52 HR0.out 0 p151 q151; cases e151; have qi151 : (0 < l0.length) = True := eq_true (by omega); (try rw [show ((0 : Int)).toNat = 0 from rfl] at hx151_0); (try rw [show 0 * 2 = 0 from rfl] at hx151_0); (try rw [Addr.add_zero'] at hx151_0); (try rw [show ((0 : Int)).toNat = 0 from rfl] at hx151_1); (try rw [show 0 * 2 = 0 from rfl] at hx151_1); (try rw [Addr.add_zero'] at hx151_1); replace hx151_0 := (HB.out.cell (World.block_lt_of_cell? _ _ hx151_0)).trans hx151_0; replace hx151_1 := (HB.out.cell (World.block_lt_of_cell? _ _ hx151_1)).trans hx151_1; have HR151_1 := am_ hi151_1; have HC151_1 := am_ hl151_1; clear hi151_1 hl151_1; replace p151 := eq_true p151; replace q151 := eq_true q151) | ((with_reducible refine gate_dst (N := 3) rfl ?_); refine be_ 3 #[.string (⟨#[]⟩ : ByteArray), .slice none 0 0] 52 ?_; intro gb152 hg w23 hbox hb; have BK152 := am_ (hbox); have GW152 := am_ (gw_ hg bl_); have GE152 := GW152; replace HB := hs_ w hb; have NB150_152 := am_ (gn_ hg (blkl_ BK150)); have NB152_150 := am_ (gm_ hg (blkl_ BK150)); replace BK150 := bb_ BK150 hb; clear hb hbox hg; have hnb24 := NB152_150.out; have hnc24 := NB150_152.out; obtain ⟨hcz25_0, hcz25_1, hfz25_0, hfz25_1⟩ := cellsF2 BK152.out) | ((with_reducible refine gate_callee (f := 31) rfl ?_); refine gl_ 20 Tryd.func31 #[.agg #[.string ((rd_T52 l0 0).f0), .slice A151_1 ((rd_T52 l0 0).f1).length c151_1], .int .i64 2, .int .i64 0] ?_ rfl rfl rfl rfl; (with_reducible refine (F31.calls ((rd_T52 l0 0).f0) _ _ ((rd_T52 l0 0).f1) 2 0 t153 _ ?s1 ?s2 A9.out).mono ?_); (case s1 => exact au2_11); (case s2 => exact HC151_1.out); rintro e w26 ⟨rfl, hb⟩; refine ⟨_, rfl, ?_⟩; replace BK150 := am_ (blk_below (g := gb150) (o := .cells #[.string (⟨#[]⟩ : ByteArray), .string (⟨#[]⟩ : ByteArray), .int .i64 0, .slice none 0 0, .bool false, .int .i64 0, .int .i64 0] 36 (0, 0)) (bf_ BK150) hb); replace BK152 := am_ (blk_below (g := gb152) (o := .cells #[.string ((rd_T52 l0 0).f0), .slice A151_1 ((rd_T52 l0 0).f1).length c151_1] 52 (0, 0)) (bq_ BK152) hb); replace HB := hs_ w hb; (try clear hb)) | ((with_reducible refine gate_callee (f := 30) rfl ?_); refine gl_ 21 Tryd.func30 #[.string t153] ?_ rfl rfl rfl rfl; (with_reducible refine (F30.calls k t153 t154 t155 _ A10.out).mono ?_); rintro e w27 ⟨rfl, hb⟩; refine ⟨_, rfl, ?_⟩; replace BK150 := bb_ BK150 hb; replace BK152 := bb_ BK152 hb; replace HB := hs_ w hb; (try clear hb)))
 replace BK150 := bd_ BK150
 replace BK152 := bd_ BK152
 replace HB := am_ (below_drew1 HB.out)
 refine start_ (n := 8) (S := fun w' => w'.cell? ⟨gb152, 0, none⟩ = some (.string ((rd_T52 l0 0).f0)) ∧ w'.cell? ⟨gb152, 1, none⟩ = some (.slice A151_1 ((rd_T52 l0 0).f1).length c151_1)) (ds := []) (bs 8 0) (by kernel_rfl) rfl rfl ⟨(blk_cell BK152.out 0).trans rfl, (blk_cell BK152.out 1).trans rfl⟩ (fun hHeld => ?_); refine with_tabW F12.tab7 F12.bits7 (fun HT_ HW_ => ?_)
 generalize w27.drew = w28 at BK150 BK152 HB hHeld ⊢
 refine pu_ 4 28 (bs 8 16) HT_ ?_ rfl rfl
 refine tk_ 0 24 (bs 8 17) HT_ HW_ hHeld au2_5 ?_ rfl rfl
 refine tk_ 2 26 (bs 8 21) HT_ HW_ hHeld au2_5 ?_ rfl rfl
 refine join_ (σ := Nat) 1 (bs 8 127) (fun s_ => [(25, .string t156), (27, .string t157), (6, .pointer (some ⟨s_, 0, none⟩)), (29, .agg #[.string t156, .string t157, .int .i64 t154, .slice none 0 0])]) (fun s_ w' => (w'.cell? ⟨gb152, 0, none⟩ = some (.string ((rd_T52 l0 0).f0)) ∧ w'.cell? ⟨gb152, 1, none⟩ = some (.slice A151_1 ((rd_T52 l0 0).f1).length c151_1)) ∧ (w'.heap[gb150]? = some (.cells #[.string (⟨#[]⟩ : ByteArray), .string (⟨#[]⟩ : ByteArray), .int .i64 0, .slice none 0 0, .bool false, .int .i64 0, .int .i64 0] 36 (0, 0))) ∧ (w'.heap[gb152]? = some (.cells #[.string ((rd_T52 l0 0).f0), .slice A151_1 ((rd_T52 l0 0).f1).length c151_1] 52 (0, 0))) ∧ (w'.heap[s_]? = some (.cells #[.string (⟨#[]⟩ : ByteArray), .string (⟨#[]⟩ : ByteArray), .int .i64 0, .slice none 0 0] 29 (0, 0))) ∧ (w.heap.size ≤ s_) ∧ (w.heap.size ≤ s_) ∧ (gb150 ≠ s_) ∧ (s_ ≠ gb150) ∧ (gb152 ≠ s_) ∧ (s_ ≠ gb152) ∧ (Below w.heap.size w w')) ?_ ?_
 rotate_left
 ·intro hCont
  refine two_ (i := 1) (j := 6) (Ni := some 25) (Nj := some 6) (bs 8 23) (bs 8 85) rfl rfl rfl rfl (two_of HT_.out (by kernel_rfl)) (by decide) (by decide) (fun K hK => ?_) (fun K hK => ?_)
  rotate_left
  ·skip
   refine box_step ?hg (N := 6) ?hd (cs := #[.string (⟨#[]⟩ : ByteArray), .string (⟨#[]⟩ : ByteArray), .int .i64 0, .slice none 0 0]) (t := 29) ?hr ?_; (case hd => rfl); (case hg => rfl); (case hr => exact hr_)
   intro gb158 hg w29 hbox hb
   have BK158 := am_ (hbox)
   have GW158 := am_ (gw_ hg bl_)
   have GE158 := am_ (gw_ hg bl_)
   replace HB := hs_ w hb
   have NB150_158 := am_ (gn_ hg (blkl_ BK150))
   have NB158_150 := am_ (gm_ hg (blkl_ BK150))
   replace BK150 := bb_ BK150 hb
   have NB152_158 := am_ (gn_ hg (blkl_ BK152))
   have NB158_152 := am_ (gm_ hg (blkl_ BK152))
   replace BK152 := bb_ BK152 hb
   clear hb hbox hg
   refine hK.out _ _ ⟨(blk_cell BK152.out 0).trans rfl, (blk_cell BK152.out 1).trans rfl⟩ (fun hHeld => ?_)
   clear hK K
   refine no_ 6 ?_
   refine one_ (i := 1) (N := some 25) (bs 8 87) rfl rfl (one_of HT_.out (by kernel_rfl)) (by decide) (fun K hK => ?_)
   refine gr_ Tryd.func31 #[.agg #[.string ((rd_T52 l0 0).f0), .slice A151_1 ((rd_T52 l0 0).f1).length c151_1], .int .i64 0, .int .i64 0] (by rfl) ?_ rfl rfl rfl
   with_reducible refine (F31.calls ((rd_T52 l0 0).f0) _ _ ((rd_T52 l0 0).f1) 0 0 t156 _ ?s1 ?s2 A11.out).mono ?_
   (case s1 => exact au2_0)
   (case s2 => exact HC151_1.out)
   rintro e w30 ⟨rfl, hb⟩
   refine ⟨_, rfl, ?_⟩
   replace BK150 := bb_ BK150 hb
   replace BK152 := bb_ BK152 hb
   replace BK158 := bb_ BK158 hb
   replace HB := hs_ w hb
   (try clear hb)
   (try clear hb2)
   (try clear hk)
   (try clear hi)
   refine hK.out _ _ ⟨(blk_cell BK152.out 0).trans rfl, (blk_cell BK152.out 1).trans rfl⟩ (fun hHeld => ?_)
   clear hK K
   refine no_ 25 ?_
   refine one_ (i := 3) (N := some 27) (bs 8 95) rfl rfl (one_of HT_.out (by kernel_rfl)) (by decide) (fun K hK => ?_)
   refine gr_ Tryd.func31 #[.agg #[.string ((rd_T52 l0 0).f0), .slice A151_1 ((rd_T52 l0 0).f1).length c151_1], .int .i64 1, .int .i64 0] (by rfl) ?_ rfl rfl rfl
   with_reducible refine (F31.calls ((rd_T52 l0 0).f0) _ _ ((rd_T52 l0 0).f1) 1 0 t157 _ ?s1 ?s2 A12.out).mono ?_
   (case s1 => exact au2_0)
   (case s2 => exact HC151_1.out)
   rintro e w31 ⟨rfl, hb⟩
   refine ⟨_, rfl, ?_⟩
   replace BK150 := bb_ BK150 hb
   replace BK152 := bb_ BK152 hb
   replace BK158 := bb_ BK158 hb
   replace HB := hs_ w hb
   (try clear hb)
   (try clear hb2)
   (try clear hk)
   (try clear hi)
   refine hK.out _ _ ⟨(blk_cell BK152.out 0).trans rfl, (blk_cell BK152.out 1).trans rfl⟩ (fun hHeld => ?_)
   clear hK K
   refine no_ 27 ?_
   refine pu_ 5 29 (bs 8 127) HT_ ?_ rfl rfl
   exact norm_ au2_1 (hCont (gb158) _ ⟨hHeld, (bk_ BK150), (bk_ BK152), (bk_ BK158), GW158.out, GE158.out, NB150_158.out, NB158_150.out, NB152_158.out, NB158_152.out, bl_⟩)
  skip
  refine gr_ Tryd.func31 #[.agg #[.string ((rd_T52 l0 0).f0), .slice A151_1 ((rd_T52 l0 0).f1).length c151_1], .int .i64 0, .int .i64 0] (by rfl) ?_ rfl rfl rfl
  with_reducible refine (F31.calls ((rd_T52 l0 0).f0) _ _ ((rd_T52 l0 0).f1) 0 0 t156 _ ?s1 ?s2 A11.out).mono ?_
  (case s1 => exact au2_0)
  (case s2 => exact HC151_1.out)
  rintro e w29 ⟨rfl, hb⟩
  refine ⟨_, rfl, ?_⟩
  replace BK150 := bb_ BK150 hb
  replace BK152 := bb_ BK152 hb
  replace HB := hs_ w hb
  (try clear hb)
  (try clear hb2)
  (try clear hk)
  (try clear hi)
  refine hK.out _ _ ⟨(blk_cell BK152.out 0).trans rfl, (blk_cell BK152.out 1).trans rfl⟩ (fun hHeld => ?_)
  clear hK K
  refine no_ 25 ?_
  refine two_ (i := 3) (j := 6) (Ni := some 27) (Nj := some 6) (bs 8 31) (bs 8 87) rfl rfl rfl rfl (two_of HT_.out (by kernel_rfl)) (by decide) (by decide) (fun K hK => ?_) (fun K hK => ?_)
  ·skip
   refine gr_ Tryd.func31 #[.agg #[.string ((rd_T52 l0 0).f0), .slice A151_1 ((rd_T52 l0 0).f1).length c151_1], .int .i64 1, .int .i64 0] (by rfl) ?_ rfl rfl rfl
   with_reducible refine (F31.calls ((rd_T52 l0 0).f0) _ _ ((rd_T52 l0 0).f1) 1 0 t157 _ ?s1 ?s2 A12.out).mono ?_
   (case s1 => exact au2_0)
   (case s2 => exact HC151_1.out)
   rintro e w30 ⟨rfl, hb⟩
   refine ⟨_, rfl, ?_⟩
   replace BK150 := bb_ BK150 hb
   replace BK152 := bb_ BK152 hb
   replace HB := hs_ w hb
   (try clear hb)
   (try clear hb2)
   (try clear hk)
   (try clear hi)
   refine hK.out _ _ ⟨(blk_cell BK152.out 0).trans rfl, (blk_cell BK152.out 1).trans rfl⟩ (fun hHeld => ?_)
   clear hK K
   refine no_ 27 ?_
   refine pu_ 5 29 (bs 8 63) HT_ ?_ rfl rfl
   refine one_ (i := 6) (N := some 6) (bs 8 127) rfl rfl (one_of HT_.out (by kernel_rfl)) (by decide) (fun K hK => ?_)
   refine box_step ?hg (N := 6) ?hd (cs := #[.string (⟨#[]⟩ : ByteArray), .string (⟨#[]⟩ : ByteArray), .int .i64 0, .slice none 0 0]) (t := 29) ?hr ?_; (case hd => rfl); (case hg => rfl); (case hr => exact hr_)
   intro gb158 hg w31 hbox hb
   have BK158 := am_ (hbox)
   have GW158 := am_ (gw_ hg bl_)
   have GE158 := am_ (gw_ hg bl_)
   replace HB := hs_ w hb
   have NB150_158 := am_ (gn_ hg (blkl_ BK150))
   have NB158_150 := am_ (gm_ hg (blkl_ BK150))
   replace BK150 := bb_ BK150 hb
   have NB152_158 := am_ (gn_ hg (blkl_ BK152))
   have NB158_152 := am_ (gm_ hg (blkl_ BK152))
   replace BK152 := bb_ BK152 hb
   clear hb hbox hg
   refine hK.out _ _ ⟨(blk_cell BK152.out 0).trans rfl, (blk_cell BK152.out 1).trans rfl⟩ (fun hHeld => ?_)
   clear hK K
   refine no_ 6 ?_
   exact norm_ au2_1 (hCont (gb158) _ ⟨hHeld, (bk_ BK150), (bk_ BK152), (bk_ BK158), GW158.out, GE158.out, NB150_158.out, NB158_150.out, NB152_158.out, NB158_152.out, bl_⟩)
  skip
  refine box_step ?hg (N := 6) ?hd (cs := #[.string (⟨#[]⟩ : ByteArray), .string (⟨#[]⟩ : ByteArray), .int .i64 0, .slice none 0 0]) (t := 29) ?hr ?_; (case hd => rfl); (case hg => rfl); (case hr => exact hr_)
  intro gb158 hg w30 hbox hb
  have BK158 := am_ (hbox)
  have GW158 := am_ (gw_ hg bl_)
  have GE158 := am_ (gw_ hg bl_)
  replace HB := hs_ w hb
  have NB150_158 := am_ (gn_ hg (blkl_ BK150))
  have NB158_150 := am_ (gm_ hg (blkl_ BK150))
  replace BK150 := bb_ BK150 hb
  have NB152_158 := am_ (gn_ hg (blkl_ BK152))
  have NB158_152 := am_ (gm_ hg (blkl_ BK152))
  replace BK152 := bb_ BK152 hb
  clear hb hbox hg
  refine hK.out _ _ ⟨(blk_cell BK152.out 0).trans rfl, (blk_cell BK152.out 1).trans rfl⟩ (fun hHeld => ?_)
  clear hK K
  refine no_ 6 ?_
  refine one_ (i := 3) (N := some 27) (bs 8 95) rfl rfl (one_of HT_.out (by kernel_rfl)) (by decide) (fun K hK => ?_)
  refine gr_ Tryd.func31 #[.agg #[.string ((rd_T52 l0 0).f0), .slice A151_1 ((rd_T52 l0 0).f1).length c151_1], .int .i64 1, .int .i64 0] (by rfl) ?_ rfl rfl rfl
  with_reducible refine (F31.calls ((rd_T52 l0 0).f0) _ _ ((rd_T52 l0 0).f1) 1 0 t157 _ ?s1 ?s2 A12.out).mono ?_
  (case s1 => exact au2_0)
  (case s2 => exact HC151_1.out)
  rintro e w31 ⟨rfl, hb⟩
  refine ⟨_, rfl, ?_⟩
  replace BK150 := bb_ BK150 hb
  replace BK152 := bb_ BK152 hb
  replace BK158 := bb_ BK158 hb
  replace HB := hs_ w hb
  (try clear hb)
  (try clear hb2)
  (try clear hk)
  (try clear hi)
  refine hK.out _ _ ⟨(blk_cell BK152.out 0).trans rfl, (blk_cell BK152.out 1).trans rfl⟩ (fun hHeld => ?_)
  clear hK K
  refine no_ 27 ?_
  refine pu_ 5 29 (bs 8 127) HT_ ?_ rfl rfl
  exact norm_ au2_1 (hCont (gb158) _ ⟨hHeld, (bk_ BK150), (bk_ BK152), (bk_ BK158), GW158.out, GE158.out, NB150_158.out, NB158_150.out, NB152_158.out, NB158_152.out, bl_⟩)
 rintro gb158 w32 ⟨hS_, h0_, h1_, h2_, h3_, h4_, h5_, h6_, h7_, h8_, h9_⟩
 have n0_ : Aside0 (w32.heap[gb150]? = some (.cells #[.string (⟨#[]⟩ : ByteArray), .string (⟨#[]⟩ : ByteArray), .int .i64 0, .slice none 0 0, .bool false, .int .i64 0, .int .i64 0] 36 (0, 0))) := ⟨h0_⟩
 have n1_ : Aside0 (w32.heap[gb152]? = some (.cells #[.string ((rd_T52 l0 0).f0), .slice A151_1 ((rd_T52 l0 0).f1).length c151_1] 52 (0, 0))) := ⟨h1_⟩
 have n2_ : Aside0 (w32.heap[gb158]? = some (.cells #[.string (⟨#[]⟩ : ByteArray), .string (⟨#[]⟩ : ByteArray), .int .i64 0, .slice none 0 0] 29 (0, 0))) := ⟨h2_⟩
 have n3_ : Aside0 (w.heap.size ≤ gb158) := ⟨h3_⟩
 have n4_ : Aside0 (w.heap.size ≤ gb158) := ⟨h4_⟩
 have n5_ : Aside0 (gb150 ≠ gb158) := ⟨h5_⟩
 have n6_ : Aside0 (gb158 ≠ gb150) := ⟨h6_⟩
 have n7_ : Aside0 (gb152 ≠ gb158) := ⟨h7_⟩
 have n8_ : Aside0 (gb158 ≠ gb152) := ⟨h8_⟩
 have n9_ : Aside0 (Below w.heap.size w w32) := ⟨h9_⟩
 clear BK150
 clear BK152
 clear HB
 clear h0_ h1_ h2_ h3_ h4_ h5_ h6_ h7_ h8_ h9_
 have BK150 := n0_
 have BK152 := n1_
 have BK158 := n2_
 have GW158 := n3_
 have GE158 := n4_
 have NB150_158 := n5_
 have NB158_150 := n6_
 have NB152_158 := n7_
 have NB158_152 := n8_
 have HB := n9_
 clear n0_ n1_ n2_ n3_ n4_ n5_ n6_ n7_ n8_ n9_
 have hHeld : w32.cell? ⟨gb152, 0, none⟩ = some (.string ((rd_T52 l0 0).f0)) ∧ w32.cell? ⟨gb152, 1, none⟩ = some (.slice A151_1 ((rd_T52 l0 0).f1).length c151_1) := hS_
 refine norm_ (a' := ?_) ?_ ?_
 rotate_left
 ·simp only [putAll, Act.put, List.setIfInBounds_toArray, List.set_cons_zero, List.set_cons_succ]
  rfl
 refine one_ (i := 7) (N := none) (bs 8 255) rfl rfl (one_of HT_.out (by kernel_rfl)) (by decide) (fun K hK => ?_)
 have hs33 : w32.cell? ⟨gb158, 0, none⟩ = some (.string (⟨#[]⟩ : ByteArray)) := (blk_cell BK158.out 0).trans rfl
 have hfs33 := blk_frozen BK158.out 0
 have hns33_0 := NB150_158.out
 have hns33_1 := NB152_158.out
 have hms33_0 := NB158_150.out
 have hms33_1 := NB158_152.out
 have hs34 : w32.cell? ⟨gb158, 1, none⟩ = some (.string (⟨#[]⟩ : ByteArray)) := (blk_cell BK158.out 1).trans rfl
 have hfs34 := blk_frozen BK158.out 1
 have hns34_0 := NB150_158.out
 have hns34_1 := NB152_158.out
 have hms34_0 := NB158_150.out
 have hms34_1 := NB158_152.out
 have hs35 : w32.cell? ⟨gb158, 2, none⟩ = some (.int .i64 0) := (blk_cell BK158.out 2).trans rfl
 have hfs35 := blk_frozen BK158.out 2
 have hns35_0 := NB150_158.out
 have hns35_1 := NB152_158.out
 have hms35_0 := NB158_150.out
 have hms35_1 := NB158_152.out
 have hs36 : w32.cell? ⟨gb158, 3, none⟩ = some (.slice none 0 0) := (blk_cell BK158.out 3).trans rfl
 have hfs36 := blk_frozen BK158.out 3
 have hns36_0 := NB150_158.out
 have hns36_1 := NB152_158.out
 have hms36_0 := NB158_150.out
 have hms36_1 := NB158_152.out
 refine skip_ (w1 := ?_) (by rfl) rfl ?_ ?_
 rotate_left
 ·go_simp
  rfl
 refine hK.out _ _ ⟨((cell_far (p := ⟨gb158, _, none⟩) NB152_158.out _).trans (((cell_far (p := ⟨gb158, _, none⟩) NB152_158.out _).trans (((cell_far (p := ⟨gb158, _, none⟩) NB152_158.out _).trans (((cell_far (p := ⟨gb158, _, none⟩) NB152_158.out _).trans (hHeld.1)))))))), ((cell_far (p := ⟨gb158, _, none⟩) NB152_158.out _).trans (((cell_far (p := ⟨gb158, _, none⟩) NB152_158.out _).trans (((cell_far (p := ⟨gb158, _, none⟩) NB152_158.out _).trans (((cell_far (p := ⟨gb158, _, none⟩) NB152_158.out _).trans (hHeld.2))))))))⟩ (fun hHeld => ?_)
 clear hK K
 refine done_ (done_of HT_.out (by kernel_rfl)) ?_
 try go_wp2
 have n0_ : Aside0 (((((w32.setCell ⟨gb158, 0, none⟩ (.string t156)).setCell ⟨gb158, 1, none⟩ (.string t157)).setCell ⟨gb158, 2, none⟩ (.int .i64 t154)).setCell ⟨gb158, 3, none⟩ (.slice none 0 0)).heap[gb150]? = some (.cells #[.string (⟨#[]⟩ : ByteArray), .string (⟨#[]⟩ : ByteArray), .int .i64 0, .slice none 0 0, .bool false, .int .i64 0, .int .i64 0] 36 (0, 0))) := ⟨bf_ BK150⟩
 have n1_ : Aside0 (((((w32.setCell ⟨gb158, 0, none⟩ (.string t156)).setCell ⟨gb158, 1, none⟩ (.string t157)).setCell ⟨gb158, 2, none⟩ (.int .i64 t154)).setCell ⟨gb158, 3, none⟩ (.slice none 0 0)).heap[gb152]? = some (.cells #[.string ((rd_T52 l0 0).f0), .slice A151_1 ((rd_T52 l0 0).f1).length c151_1] 52 (0, 0))) := ⟨bf_ BK152⟩
 have n2_ : Aside0 (((((w32.setCell ⟨gb158, 0, none⟩ (.string t156)).setCell ⟨gb158, 1, none⟩ (.string t157)).setCell ⟨gb158, 2, none⟩ (.int .i64 t154)).setCell ⟨gb158, 3, none⟩ (.slice none 0 0)).heap[gb158]? = some (.cells #[.string t156, .string t157, .int .i64 t154, .slice none 0 0] 29 (0, 0))) := ⟨bq_ BK158⟩
 have n3_ : Aside0 (Below w.heap.size w ((((w32.setCell ⟨gb158, 0, none⟩ (.string t156)).setCell ⟨gb158, 1, none⟩ (.string t157)).setCell ⟨gb158, 2, none⟩ (.int .i64 t154)).setCell ⟨gb158, 3, none⟩ (.slice none 0 0))) := ⟨bl_⟩
 (try clear BK150)
 (try clear BK152)
 (try clear BK158)
 (try clear HB)
 generalize ((((w32.setCell ⟨gb158, 0, none⟩ (.string t156)).setCell ⟨gb158, 1, none⟩ (.string t157)).setCell ⟨gb158, 2, none⟩ (.int .i64 t154)).setCell ⟨gb158, 3, none⟩ (.slice none 0 0)) = w37 at n0_ n1_ n2_ n3_ ⊢
 have BK150 := n0_
 have BK152 := n1_
 have BK158 := n2_
 have HB := n3_
 clear n0_ n1_ n2_ n3_
 replace BK150 := bd_ BK150
 replace BK152 := bd_ BK152
 replace BK158 := bd_ BK158
 replace HB := am_ (below_drew1 HB.out)
 refine start_ (n := 22) (S := fun w' => w'.cell? ⟨gb158, 0, none⟩ = some (.string t156) ∧ w'.cell? ⟨gb158, 1, none⟩ = some (.string t157) ∧ w'.cell? ⟨gb158, 2, none⟩ = some (.int .i64 t154) ∧ w'.cell? ⟨gb158, 3, none⟩ = some (.slice none 0 0) ∧ w'.cell? ⟨gb152, 0, none⟩ = some (.string ((rd_T52 l0 0).f0)) ∧ w'.cell? ⟨gb152, 1, none⟩ = some (.slice A151_1 ((rd_T52 l0 0).f1).length c151_1)) (ds := []) (bs 22 0) (by kernel_rfl) rfl rfl ⟨(blk_cell BK158.out 0).trans rfl, (blk_cell BK158.out 1).trans rfl, (blk_cell BK158.out 2).trans rfl, (blk_cell BK158.out 3).trans rfl, (blk_cell BK152.out 0).trans rfl, (blk_cell BK152.out 1).trans rfl⟩ (fun hHeld => ?_); refine with_tabW F12.tab8 F12.bits8 (fun HT_ HW_ => ?_)
 generalize w37.drew = w38 at BK150 BK152 BK158 HB hHeld ⊢
 refine pu_ 0 30 (bs 22 1) HT_ ?_ rfl rfl
 refine tk_ 1 31 (bs 22 3) HT_ HW_ hHeld au2_4 ?_ rfl rfl
 refine one_ (i := 2) (N := some 32) (bs 22 7) rfl rfl (one_of HT_.out (by kernel_rfl)) (by decide) (fun K hK => ?_)
 refine gr_ Tryd.func32 #[.string t156] (by rfl) ?_ rfl rfl rfl
 with_reducible refine (F32.calls k t156 true _ A13.out).mono ?_
 rintro e w' ⟨rfl, ⟨nd, rfl⟩⟩
 refine ⟨_, rfl, ?_⟩
 refine hK.out _ _ ⟨(blk_cell BK158.out 0).trans rfl, (blk_cell BK158.out 1).trans rfl, (blk_cell BK158.out 2).trans rfl, (blk_cell BK158.out 3).trans rfl, (blk_cell BK152.out 0).trans rfl, (blk_cell BK152.out 1).trans rfl⟩ (fun hHeld => ?_)
 clear hK K
 refine no_ 32 ?_
 refine pu_ 3 33 (bs 22 15) HT_ ?_ rfl rfl
 refine pu_ 4 34 (bs 22 31) HT_ ?_ rfl rfl
 refine pu_ 5 35 (bs 22 63) HT_ ?_ rfl rfl
 refine tk_ 6 36 (bs 22 127) HT_ HW_ hHeld au2_4 ?_ rfl rfl
 refine one_ (i := 7) (N := some 37) (bs 22 255) rfl rfl (one_of HT_.out (by kernel_rfl)) (by decide) (fun K hK => ?_)
 refine gr_ Tryd.func32 #[.string t157] (by rfl) ?_ rfl rfl rfl
 with_reducible refine (F32.calls k t157 true _ A15.out).mono ?_
 rintro e w' ⟨rfl, ⟨nd, rfl⟩⟩
 refine ⟨_, rfl, ?_⟩
 refine hK.out _ _ ⟨(blk_cell BK158.out 0).trans rfl, (blk_cell BK158.out 1).trans rfl, (blk_cell BK158.out 2).trans rfl, (blk_cell BK158.out 3).trans rfl, (blk_cell BK152.out 0).trans rfl, (blk_cell BK152.out 1).trans rfl⟩ (fun hHeld => ?_)
 clear hK K
 refine no_ 37 ?_
 refine pu_ 8 38 (bs 22 511) HT_ ?_ rfl rfl
 refine pu_ 9 39 (bs 22 1023) HT_ ?_ rfl rfl
 refine pu_ 10 40 (bs 22 2047) HT_ ?_ rfl rfl
 refine pu_ 11 41 (bs 22 4095) HT_ ?_ rfl rfl
 refine one_ (i := 12) (N := some 42) (bs 22 8191) rfl rfl (one_of HT_.out (by kernel_rfl)) (by decide) (fun K hK => ?_)
 refine gr_ Tryd.func33 #[.int .i64 t154] (by rfl) ?_ rfl rfl rfl
 with_reducible refine (F33.calls t154 true _ A17.out).mono ?_
 rintro e w' ⟨rfl, ⟨nd, rfl⟩⟩
 refine ⟨_, rfl, ?_⟩
 refine hK.out _ _ ⟨(blk_cell BK158.out 0).trans rfl, (blk_cell BK158.out 1).trans rfl, (blk_cell BK158.out 2).trans rfl, (blk_cell BK158.out 3).trans rfl, (blk_cell BK152.out 0).trans rfl, (blk_cell BK152.out 1).trans rfl⟩ (fun hHeld => ?_)
 clear hK K
 refine no_ 42 ?_
 refine pu_ 13 43 (bs 22 16383) HT_ ?_ rfl rfl
 refine pu_ 14 44 (bs 22 32767) HT_ ?_ rfl rfl
 refine pu_ 15 45 (bs 22 65535) HT_ ?_ rfl rfl
 refine tk_ 16 46 (bs 22 131071) HT_ HW_ hHeld au2_4 ?_ rfl rfl
 refine tk_ 17 47 (bs 22 262143) HT_ HW_ hHeld au2_4 ?_ rfl rfl
 refine one_ (i := 18) (N := some 48) (bs 22 524287) rfl rfl (one_of HT_.out (by kernel_rfl)) (by decide) (fun K hK => ?_)
 refine gr_ Tryd.func35 #[.agg #[.string t156, .string t157, .int .i64 t154, .slice none 0 0]] (by rfl) ?_ rfl rfl rfl
 refine (F35.calls k t156 t157 t154 _ _ ([] : List (S83)) t162 t163 _ ?s1 ?s2 A19.out).mono ?_
 (case s1 => exact Kd.C_nil _ _)
 (case s2 => exact Nat.le_refl _)
 rintro e w39 ⟨v164, rfl, ho0, hb⟩
 refine ⟨_, rfl, ?_⟩
 have HO165 := am_ (Kd.S_lower ho0 (below_size bl_))
 replace BK150 := bb_ BK150 hb
 replace BK152 := bb_ BK152 hb
 replace BK158 := bb_ BK158 hb
 replace HB := hs_ w hb
 (try clear hb)
 (try clear hb2)
 (try clear hk)
 (try clear hi)
 (try clear ho0)
 obtain ⟨Ao40, co40, eo40⟩ := Kd.S_slice HO165.out
 (first | subst eo40 | (injection eo40 with f1_ f2_ f3_; have f4_ := f1_.symm; have f5_ := f3_.symm; clear f1_ f2_ f3_; subst f4_; subst f5_))
 refine hK.out _ _ ⟨(blk_cell BK158.out 0).trans rfl, (blk_cell BK158.out 1).trans rfl, (blk_cell BK158.out 2).trans rfl, (blk_cell BK158.out 3).trans rfl, (blk_cell BK152.out 0).trans rfl, (blk_cell BK152.out 1).trans rfl⟩ (fun hHeld => ?_)
 clear hK K
 refine no_ 48 ?_
 refine one_ (i := 19) (N := some 49) (bs 22 1048575) rfl rfl (one_of HT_.out (by kernel_rfl)) (by decide) (fun K hK => ?_)
 refine gr_ Tryd.func34 #[.agg #[.string ((rd_T52 l0 0).f0), .slice A151_1 ((rd_T52 l0 0).f1).length c151_1], .agg #[.string t162, .slice Ao40 t163.length co40]] (by rfl) ?_ rfl rfl rfl
 with_reducible refine (F34.calls k ((rd_T52 l0 0).f0) _ _ ((rd_T52 l0 0).f1) t162 _ _ t163 true _ ?s1 ?s2 ?s3 ?s4 A20.out).mono ?_
 (case s1 => exact au2_0)
 (case s2 => exact HC151_1.out)
 (case s3 => exact au2_8)
 (case s4 => exact (Kd.S_reads' HO165.out).2.1)
 rintro e w41 ⟨rfl, hb⟩
 refine ⟨_, rfl, ?_⟩
 replace HO165 := am_ (Kd.S_below au2_9 hb)
 replace BK150 := bb_ BK150 hb
 replace BK152 := bb_ BK152 hb
 replace BK158 := bb_ BK158 hb
 replace HB := hs_ w hb
 (try clear hb)
 (try clear hb2)
 (try clear hk)
 (try clear hi)
 refine hK.out _ _ ⟨(blk_cell BK158.out 0).trans rfl, (blk_cell BK158.out 1).trans rfl, (blk_cell BK158.out 2).trans rfl, (blk_cell BK158.out 3).trans rfl, (blk_cell BK152.out 0).trans rfl, (blk_cell BK152.out 1).trans rfl⟩ (fun hHeld => ?_)
 clear hK K
 refine no_ 49 ?_
 refine pu_ 20 50 (bs 22 2097151) HT_ ?_ rfl rfl
 refine pu_ 21 51 (bs 22 4194303) HT_ ?_ rfl rfl
 refine done_ (done_of HT_.out (by kernel_rfl)) ?_
 have hnb42 := NB158_150.out
 have hnc42 := NB150_158.out
 have hnb43 := NB158_152.out
 have hnc43 := NB152_158.out
 obtain ⟨hcz44_0, hcz44_1, hcz44_2, hcz44_3, hfz44_0, hfz44_1, hfz44_2, hfz44_3⟩ := cellsF4 BK158.out
 obtain ⟨hcz45_0, hcz45_1, hcz45_2, hcz45_3, hcz45_4, hcz45_5, hcz45_6, hfz45_0, hfz45_1, hfz45_2, hfz45_3, hfz45_4, hfz45_5, hfz45_6⟩ := cellsF7 BK150.out
 try go_wp2
 refine bodyPost_ret (results_cell_row rfl _ _ gb150 36 #[.string t156, .string t157, .int .i64 t154, .slice none 0 0, .bool true, .int .i64 0, .int .i64 0] (0, 0) _ rfl (bq_ BK150) Tryd.underlying36 rfl (by kernel_rfl)) rfl ?_
 exact ⟨_, au2_2, au2_3, bl_⟩
/-! ### F116: function 116 -/
def F116.l0 : Nat → List ByteArray → List ByteArray → Int → Option (List ByteArray)
  | 0, _, _, _ => none
  | k + 1, x0, x3, x4 => if x4 < (x0.length : Int) then (if 0 ≤ x4 then (if x4 < (x3.length : Int) then (F116.l0 k x0 (x3.set (x4 : Int).toNat (rdOf ByteArray.empty x0 x4)) (wrap64 (x4 + 1))) else (none)) else (none)) else (some x3)
def F116.f (k : Nat) (l0 : List ByteArray) : Option (List ByteArray) := if 0 ≤ (l0.length : Int) then (if ((l0.length : Int) : Int).toNat ≤ 17592186044416 then (F116.l0 k l0 (List.replicate ((l0.length : Int) : Int).toNat (⟨#[]⟩ : ByteArray)) 0) else (none)) else (none)
theorem F116.mono_l : ∀ k, (∀ y0 y1 y2, LeO (F116.l0 k y0 y1 y2) (F116.l0 (k + 1) y0 y1 y2))
 | 0 => fun _ _ _ r h => by simp [F116.l0] at h
 | k + 1 => by
  have ih0 := F116.mono_l k
  intro y0 y1 y2
  unfold F116.l0
  repeat' with_reducible first | exact ih0 _ _ _ | exact LeO.refl _ | exact LeO.none _ | refine LeO.ite ?_ ?_ | refine LeO.bind ?_ (fun _ => ?_)
theorem F116.mono : ∀ a0 k, LeO (F116.f k a0) (F116.f (k + 1) a0) := by
 intro a0 k
 have ih0 := F116.mono_l k
 unfold F116.f
 repeat' with_reducible first | exact ih0 _ _ _ | exact LeO.refl _ | exact LeO.none _ | refine LeO.ite ?_ ?_ | refine LeO.bind ?_ (fun _ => ?_)
theorem F116.calls (k : Nat) (A0 : Option Addr) (c0 : Nat) (l0 : List ByteArray) (r : List ByteArray) (w : World) (hr0 : Kd.C Kd.string w A0 l0.length l0) (hc0 : l0.length ≤ c0) (h : F116.f k l0 = some r) :
  Calls Tryd.prog 116 #[.slice A0 l0.length c0] w fun e w' => ∃ v0_ : Value, e = .returned (v0_) ∧ Kd.R Kd.string 9 w' w.heap.size (fun _ => True) v0_ r ∧ Below w.heap.size w w' := by
 have HR0 := am_ hr0
 have HC0 := am_ hc0
 clear hr0 hc0
 have HB := am_ (Below.refl w.heap.size w)
 have H : (if 0 ≤ (l0.length : Int) then (if ((l0.length : Int) : Int).toNat ≤ 17592186044416 then (F116.l0 k l0 (List.replicate ((l0.length : Int) : Int).toNat (⟨#[]⟩ : ByteArray)) 0) else (none)) else (none)) = some r := h
 clear h
 by_cases c2 : 0 ≤ (l0.length : Int)
 rotate_left
 ·rw [if_neg c2] at H
  exact absurd H (by simp)

 rw [if_pos c2] at H
 have c2b0 := eq_true c2
 have c2b1 : decide (0 ≤ (l0.length : Int)) = true := decide_eq_true c2
 clear c2
 by_cases c3 : ((l0.length : Int) : Int).toNat ≤ 17592186044416
 rotate_left
 ·rw [if_neg c3] at H
  exact absurd H (by simp)
 rw [if_pos c3] at H
 have c3b0 := eq_true c3
 have c3b1 : decide (((l0.length : Int) : Int).toNat ≤ 17592186044416) = true := decide_eq_true c3
 clear c3
 obtain ⟨y167, hy167⟩ : ∃ y_ : List ByteArray, y_ = (List.replicate ((l0.length : Int) : Int).toNat (⟨#[]⟩ : ByteArray)) := ⟨_, rfl⟩
 replace H : (F116.l0 k l0 y167 0) = some r := by first | (rw [hy167]; exact H) | exact H
 have Ny167 := am_ hy167
 clear hy167
 have H' := am_ H
 clear H
 go_enter Tryd.func116, Tryd.ntmps116
 go_wp2_with (first | ((with_reducible refine gate_dst (N := 7) rfl ?_); refine Kd.R_make Kd.string _ 9 rfl (N := 7) rfl 53 _ _ rfl (l0.length : Int) rfl rfl Tryd.underlying53 (.string ⟨#[]⟩) 16 info9 rfl (by decide) (by omega) (⟨#[]⟩ : ByteArray) (ok := fun _ => True) (okp := fun _ => True) rfl (fun _ hk => hk) trivial (of_decide_eq_true as_) (Nat.le_trans (Nat.mul_le_mul_right _ (of_decide_eq_true as_ : (l0.length : Int).toNat ≤ 17592186044416)) (by omega)) (Below.refl _ _) (Nat.le_refl _) ?_; intro v168 w4 ho5 hb hg_ hnew_; clear hg_ hnew_; (first | rw [← Ny167.out] at ho5 | (simp only [Int.reduceToNat] at ho5; rw [← Ny167.out] at ho5)); have HO169 := am_ (Kd.R_lower ho5 (below_size bl_)); replace HB := hs_ w hb; clear hb ho5))
 go_loopg [4] k (fun kq v4 w' => ∃ (x3_1 : List ByteArray) (x4_1 : Int), v4 = .int .i64 x4_1 ∧ Aside0 (F116.l0 kq l0 x3_1 x4_1 = some r) ∧ Aside0 (kq ≤ k) ∧ Aside0 (Kd.R Kd.string 9 w' w.heap.size (fun _ => True) v168 x3_1) ∧ Aside0 (Below w.heap.size w w'))
 case atStart => exact ⟨(y167), (0), er_, H', ⟨Nat.le_refl _⟩, ⟨rk_ HO169⟩, ⟨bl_⟩⟩
 case round =>
  clear H'
  try clear c2
  try clear c2b0
  try clear c2b1
  try clear c3
  try clear c3b0
  try clear c3b1
  obtain ⟨x3_1, x4_1, rfl, HA, HK1, HO_3, HB⟩ := hrel
  cases gk with
  | zero => exact absurd HA.out (by simp [F116.l0])
  | succ k1 =>
   have H := HA.out
   clear HA
   simp only [F116.l0] at H
   replace H := it_ H; rcases H with ⟨c6b0, H⟩ | ⟨c6b0, H⟩
   rotate_left
   ·obtain rfl := Option.some.inj H
    go_wp2
    go_ret
    exact ⟨_, au2_2, rk_ HO_3, bl_⟩
   replace H := itn_ H; rcases H with ⟨c7b0, H⟩
   replace H := itn_ H; rcases H with ⟨c8b0, H⟩
   obtain ⟨y171, hy171⟩ : ∃ y_ : List ByteArray, y_ = (x3_1.set (x4_1 : Int).toNat (rdOf ByteArray.empty l0 x4_1)) := ⟨_, rfl⟩
   replace H : (F116.l0 k1 l0 y171 (wrap64 (x4_1 + 1))) = some r := by first | (rw [hy171]; exact H) | exact H
   have Ny171 := am_ hy171
   clear hy171
   have H' := am_ H
   clear H
   have p170 : 0 ≤ (x4_1 : Int) := od_
   have q170 : x4_1 < (l0.length : Int) := od_
   obtain ⟨ad170, e170, hx170_0⟩ := Kd.at_string HR0.out x4_1 p170 q170
   cases e170
   replace hx170_0 := (HB.out.cell (World.block_lt_of_cell? _ _ hx170_0)).trans hx170_0
   replace p170 := eq_true p170
   replace q170 := eq_true q170
   have p9 : 0 ≤ (x4_1 : Int) := od_
   have q9 : (x4_1 : Int) < ((x3_1.length : Int) : Int) := od_
   obtain ⟨go9, co9, eo9, gb9, gl9, cl9, HG9⟩ := Kd.R_form HO_3.out (by omega)
   (first | cases eo9 | (injection eo9 with ea_ en_ ec_; (first | subst ea_ | (injection ea_ with ea_; subst ea_)); subst ec_; clear en_))
   have GB9 := am_ gb9
   have GG9 := am_ HG9
   clear gb9 gl9 HG9
   obtain ⟨hx9_0, hf9_0⟩ := Kd.R_celln (⟨#[]⟩ : ByteArray) HO_3.out (x4_1 : Int) p9 q9
   replace p9 := eq_true p9
   replace q9 := eq_true q9
   have HP10 := Kd.R_putg HO_3.out (x4_1 : Int) (rdOf ByteArray.empty l0 x4_1)
   go_wp2_with (first | ((with_reducible refine gate_store (t := 9) (p := 20) rfl ?_); refine store_event (t := 9) (p := 20) (v := ?vo_w11) (w1 := (wr.setCell ⟨go9, (x4_1 : Int).toNat, none⟩ (.string (rdOf ByteArray.empty l0 x4_1)))) ?hg ?ho ?hn ?hr ?_; (case ho => rfl); (case hg => rfl); (case hn => rfl); (case hr => exact hr_); intro w11 hw; have hg : wr.grownBy w11 (some go9) := (by rw [hw]; exact HP10.2); have hp_ : Kd.R Kd.string 9 w11 w.heap.size (fun _ => True) (.slice (some ⟨go9, 0, none⟩) x3_1.length co9) y171 := (by rw [hw, Ny171.out]; exact HP10.1); clear HP10; replace HO_3 := am_ (hp_); replace HB := am_ ((by rw [hw]; exact below_set (HB.out) GB9.out : Below w.heap.size w w11)); clear hg hw hp_))
   go_roundg k1
   case measure => have := HK1.out; omega
   case rel => exact ⟨(y171), (wrap64 (x4_1 + 1)), er_, H', ⟨by have := HK1.out; omega⟩, ⟨rk_ HO_3⟩, ⟨bl_⟩⟩
/-! ### F92: function 92 -/
def F92.f (k : Nat) (l0_0 : List ByteArray) : Option (List ByteArray) := (F116.f k l0_0).bind fun t175 => (some t175)
theorem F92.mono : ∀ a0 k, LeO (F92.f k a0) (F92.f (k + 1) a0) := by
 intro a0 k
 unfold F92.f
 repeat' with_reducible first | exact F116.mono _ _ | exact LeO.refl _ | exact LeO.none _ | refine LeO.ite ?_ ?_ | refine LeO.bind ?_ (fun _ => ?_)
theorem F92.calls (k : Nat) (A0_0 : Option Addr) (c0_0 : Nat) (l0_0 : List ByteArray) (r : List ByteArray) (w : World) (hr0_0 : Kd.C Kd.string w A0_0 l0_0.length l0_0) (hc0_0 : l0_0.length ≤ c0_0) (h : F92.f k l0_0 = some r) :
  Calls Tryd.prog 92 #[.agg #[.slice A0_0 l0_0.length c0_0]] w fun e w' => ∃ v0_ : Value, e = .returned (.agg #[v0_]) ∧ Kd.R Kd.string 9 w' w.heap.size (fun _ => True) v0_ r ∧ Below w.heap.size w w' := by
 have hu129 := Tryd.underlying129
 have hu55 := Tryd.underlying55
 have HR0_0 := am_ hr0_0
 have HC0_0 := am_ hc0_0
 clear hr0_0 hc0_0
 have HB := am_ (Below.refl w.heap.size w)
 have H : ((F116.f k l0_0).bind fun t175 => (some t175)) = some r := h
 clear h
 replace H := bi_ H; rcases H with ⟨t175, A2, H⟩
 obtain rfl := Option.some.inj H
 go_enter Tryd.func92, Tryd.ntmps92
 go_wp2_with (first | ((with_reducible refine gate_dst (N := 1) rfl ?_); refine be_ 1 #[.slice A0_0 l0_0.length c0_0] 129 ?_; intro gb172 hg w3 hbox hb; have BK172 := am_ (hbox); have GW172 := am_ (gw_ hg bl_); have GE172 := GW172; replace HB := hs_ w hb; clear hb hbox hg) | ((with_reducible refine gate_dst (N := 2) rfl ?_); refine be_ 2 #[.slice none 0 0] 55 ?_; intro gb173 hg w4 hbox hb; have BK173 := am_ (hbox); have GW173 := am_ (gw_ hg bl_); have GE173 := GW173; replace HB := hs_ w hb; have NB172_173 := am_ (gn_ hg (blkl_ BK172)); have NB173_172 := am_ (gm_ hg (blkl_ BK172)); replace BK172 := bb_ BK172 hb; clear hb hbox hg) | ((with_reducible refine gate_dst (N := 3) rfl ?_); refine be_ 3 #[.slice none 0 0] 55 ?_; intro gb174 hg w5 hbox hb; have BK174 := am_ (hbox); have GW174 := am_ (gw_ hg bl_); have GE174 := GW174; replace HB := hs_ w hb; have NB172_174 := am_ (gn_ hg (blkl_ BK172)); have NB174_172 := am_ (gm_ hg (blkl_ BK172)); replace BK172 := bb_ BK172 hb; have NB173_174 := am_ (gn_ hg (blkl_ BK173)); have NB174_173 := am_ (gm_ hg (blkl_ BK173)); replace BK173 := bb_ BK173 hb; clear hb hbox hg; have hnb6 := NB172_173.out; have hnc6 := NB173_172.out; have hnb7 := NB172_174.out; have hnc7 := NB174_172.out; have hcz8_0 : w5.cell? ⟨gb172, 0, none⟩ = some (.slice A0_0 l0_0.length c0_0) := (blk_cell BK172.out 0).trans rfl; have hfz8_0 := blk_frozen BK172.out 0) | ((with_reducible refine gate_callee (f := 116) rfl ?_); refine gl_ 6 Tryd.func116 #[.slice A0_0 l0_0.length c0_0] ?_ rfl rfl rfl rfl; (with_reducible refine (F116.calls k _ _ l0_0 t175 _ ?s1 ?s2 A2.out).mono ?_); (case s1 => repeat (first | exact (Kd.C_below HR0_0.out HB.out) | (with_reducible refine Kd.C_alloc ?_ _) | (with_reducible refine Kd.C_drewN ?_ _) | (with_reducible refine Kd.C_drew ?_))); (case s2 => exact HC0_0.out); rintro e w9 ⟨v176, rfl, ho0, hb⟩; refine ⟨_, rfl, ?_⟩; have HO177 := am_ (Kd.R_lower ho0 (below_size bl_)); replace BK172 := bb_ BK172 hb; replace BK173 := bb_ BK173 hb; replace BK174 := bb_ BK174 hb; replace HB := hs_ w hb; (try clear hb); (try clear ho0); obtain ⟨Ao10, co10, eo10⟩ := Kd.R_slice HO177.out; subst eo10; have hnb11 := NB174_173.out; have hnc11 := NB173_174.out; have hcz12_0 : w9.cell? ⟨gb174, 0, none⟩ = some (.slice none 0 0) := (blk_cell BK174.out 0).trans rfl; have hfz12_0 := blk_frozen BK174.out 0; have hcz13_0 : w9.cell? ⟨gb173, 0, none⟩ = some (.slice none 0 0) := (blk_cell BK173.out 0).trans rfl; have hfz13_0 := blk_frozen BK173.out 0))
 refine bodyPost_ret (results_cell_row rfl _ _ gb173 55 #[.slice Ao10 t175.length co10] (0, 0) _ rfl (bq_ BK173) Tryd.underlying55 rfl (by kernel_rfl)) rfl ?_
 exact ⟨_, au2_2, by (with_reducible repeat (first | apply Kd.R_alloc | apply Kd.R_drewN | apply Kd.R_drew)); exact Kd.R_mono (Kd.R_far (p := ⟨gb173, 0, none⟩) (Kd.R_far (p := ⟨gb174, 0, none⟩) (Kd.R_types (Kd.R_types HO177.out BK174.out (by decide)) BK173.out (by decide)) (fun _ hk => hk.1.2) (.slice Ao10 t175.length co10)) (fun _ hk => hk.2) (.slice Ao10 t175.length co10)) (fun _ hk => trivial), bl_⟩

/-! ### F59: function 59 -/
def F59.l0 : Nat → List (S129) → List (S55) → Int → Option ((List (S55)))
  | 0, _, _, _ => none
  | k + 1, x0, x3, x4 => if x4 < (x0.length : Int) then (if 0 ≤ x4 then ((F92.f k ((rd_T129 x0 x4).f0)).bind fun t182 => (if x4 < (x3.length : Int) then (F59.l0 k x0 (x3.set (x4 : Int).toNat (⟨t182⟩ : S55)) (wrap64 (x4 + 1))) else (none))) else (none)) else (some x3)
def F59.f (k : Nat) (l0 : List (S129)) : Option ((List (S55))) := if 0 ≤ (l0.length : Int) then (if ((l0.length : Int) : Int).toNat ≤ 11728124029610 then (F59.l0 k l0 (List.replicate ((l0.length : Int) : Int).toNat z55) 0) else (none)) else (none)
theorem F59.mono_l : ∀ k, (∀ y0 y1 y2, LeO (F59.l0 k y0 y1 y2) (F59.l0 (k + 1) y0 y1 y2))
 | 0 => fun _ _ _ r h => by simp [F59.l0] at h
 | k + 1 => by
  have ih0 := F59.mono_l k
  intro y0 y1 y2
  unfold F59.l0
  repeat' with_reducible first | exact ih0 _ _ _ | exact F92.mono _ _ | exact LeO.refl _ | exact LeO.none _ | refine LeO.ite ?_ ?_ | refine LeO.bind ?_ (fun _ => ?_)
theorem F59.mono : ∀ a0 k, LeO (F59.f k a0) (F59.f (k + 1) a0) := by
 intro a0 k
 have ih0 := F59.mono_l k
 unfold F59.f
 repeat' with_reducible first | exact ih0 _ _ _ | exact F92.mono _ _ | exact LeO.refl _ | exact LeO.none _ | refine LeO.ite ?_ ?_ | refine LeO.bind ?_ (fun _ => ?_)
theorem F59.calls (k : Nat) (A0 : Option Addr) (c0 : Nat) (l0 : List (S129)) (r : List (S55)) (w : World) (hr0 : Kd.C k129 w A0 l0.length l0) (hc0 : l0.length ≤ c0) (h : F59.f k l0 = some r) :
  Calls Tryd.prog 59 #[.slice A0 l0.length c0] w fun e w' => ∃ v0_ : Value, e = .returned (v0_) ∧ Kd.S k55 55 w' w.heap.size (fun _ => True) v0_ r ∧ Below w.heap.size w w' := by
 have hu129 := Tryd.underlying129
 have hu55 := Tryd.underlying55
 have HR0 := am_ hr0
 have HC0 := am_ hc0
 clear hr0 hc0
 have HB := am_ (Below.refl w.heap.size w)
 have H : (if 0 ≤ (l0.length : Int) then (if ((l0.length : Int) : Int).toNat ≤ 11728124029610 then (F59.l0 k l0 (List.replicate ((l0.length : Int) : Int).toNat z55) 0) else (none)) else (none)) = some r := h
 clear h
 by_cases c2 : 0 ≤ (l0.length : Int)
 rotate_left
 ·rw [if_neg c2] at H
  exact absurd H (by simp)

 rw [if_pos c2] at H
 have c2b0 := eq_true c2
 have c2b1 : decide (0 ≤ (l0.length : Int)) = true := decide_eq_true c2
 clear c2
 by_cases c3 : ((l0.length : Int) : Int).toNat ≤ 11728124029610
 rotate_left
 ·rw [if_neg c3] at H
  exact absurd H (by simp)
 rw [if_pos c3] at H
 have c3b0 := eq_true c3
 have c3b1 : decide (((l0.length : Int) : Int).toNat ≤ 11728124029610) = true := decide_eq_true c3
 clear c3
 obtain ⟨y178, hy178⟩ : ∃ y_ : List (S55), y_ = (List.replicate ((l0.length : Int) : Int).toNat z55) := ⟨_, rfl⟩
 replace H : (F59.l0 k l0 y178 0) = some r := by first | (rw [hy178]; exact H) | exact H
 have Ny178 := am_ hy178
 clear hy178
 have H' := am_ H
 clear H
 go_enter Tryd.func59, Tryd.ntmps59
 go_wp2_with (first | ((with_reducible refine gate_dst (N := 7) rfl ?_); refine Kd.S_make k55 _ 55 rfl (N := 7) rfl 50 _ _ rfl (l0.length : Int) rfl rfl Tryd.underlying50 (.agg #[(.slice none 0 0)]) 24 info55 rfl (by decide) (by omega) z55 (ok := fun _ => True) (okp := fun _ => True) (k55_mkM _ _ _ z55 (by first | exact Kd.R_nil _ _ _ _ _ | exact Kd.S_nil _ _ _ _ _)) (fun _ hk => hk) trivial (of_decide_eq_true as_) (Nat.le_trans (Nat.mul_le_mul_right _ (of_decide_eq_true as_ : (l0.length : Int).toNat ≤ 11728124029610)) (by omega)) (Below.refl _ _) (Nat.le_refl _) ?_; intro v179 w4 ho5 hb hg_ hnew_; clear hg_ hnew_; (first | rw [← Ny178.out] at ho5 | (simp only [Int.reduceToNat] at ho5; rw [← Ny178.out] at ho5)); have HO180 := am_ (Kd.S_lower ho5 (below_size bl_)); replace HB := hs_ w hb; clear hb ho5))
 go_loopg [4] k (fun kq v4 w' => ∃ (x3_1 : List (S55)) (x4_1 : Int), v4 = .int .i64 x4_1 ∧ Aside0 (F59.l0 kq l0 x3_1 x4_1 = some r) ∧ Aside0 (kq ≤ k) ∧ Aside0 (Kd.S k55 55 w' w.heap.size (fun _ => True) v179 x3_1) ∧ Aside0 (Below w.heap.size w w'))
 case atStart => exact ⟨(y178), (0), er_, H', ⟨Nat.le_refl _⟩, ⟨by (with_reducible repeat (first | apply Kd.S_alloc | apply Kd.S_drewN | apply Kd.S_drew)); exact HO180.out⟩, ⟨bl_⟩⟩
 case round =>
  clear H'
  try clear c2
  try clear c2b0
  try clear c2b1
  try clear c3
  try clear c3b0
  try clear c3b1
  obtain ⟨x3_1, x4_1, rfl, HA, HK1, HO_3, HB⟩ := hrel
  cases gk with
  | zero => exact absurd HA.out (by simp [F59.l0])
  | succ k1 =>
   have H := HA.out
   clear HA
   simp only [F59.l0] at H
   replace H := it_ H; rcases H with ⟨c6b0, H⟩ | ⟨c6b0, H⟩
   rotate_left
   ·obtain rfl := Option.some.inj H
    go_wp2
    go_ret
    exact ⟨_, au2_2, au2_6, bl_⟩
   replace H := itn_ H; rcases H with ⟨c7b0, H⟩
   replace H := bi_ H; rcases H with ⟨t182, A8, H⟩
   replace H := itn_ H; rcases H with ⟨c9b0, H⟩
   obtain ⟨y185, hy185⟩ : ∃ y_ : List (S55), y_ = (x3_1.set (x4_1 : Int).toNat (⟨t182⟩ : S55)) := ⟨_, rfl⟩
   replace H : (F59.l0 k1 l0 y185 (wrap64 (x4_1 + 1))) = some r := by first | (rw [hy185]; exact H) | exact H
   have Ny185 := am_ hy185
   clear hy185
   have H' := am_ H
   clear H
   have p181 : 0 ≤ (x4_1 : Int) := od_
   have q181 : x4_1 < (l0.length : Int) := od_
   obtain ⟨ad181, A181_0, c181_0, e181, hx181_0, hl181_0, hi181_0⟩ := at_T129 HR0.out x4_1 p181 q181
   cases e181
   replace hx181_0 := (HB.out.cell (World.block_lt_of_cell? _ _ hx181_0)).trans hx181_0
   have HR181_0 := am_ hi181_0
   have HC181_0 := am_ hl181_0
   clear hi181_0 hl181_0
   replace p181 := eq_true p181
   replace q181 := eq_true q181
   go_wp2_with (first | ((with_reducible refine gate_callee (f := 92) rfl ?_); refine gl_ 20 Tryd.func92 #[.agg #[.slice A181_0 ((rd_T129 l0 x4_1).f0).length c181_0]] ?_ rfl rfl rfl rfl; (with_reducible refine (F92.calls k1 _ _ ((rd_T129 l0 x4_1).f0) t182 _ ?s1 ?s2 A8.out).mono ?_); (case s1 => repeat (first | exact (Kd.C_below HR181_0.out HB.out) | (with_reducible refine Kd.C_alloc ?_ _) | (with_reducible refine Kd.C_drewN ?_ _) | (with_reducible refine Kd.C_drew ?_))); (case s2 => exact HC181_0.out); rintro e w11 ⟨v183, rfl, ho0, hb⟩; refine ⟨_, rfl, ?_⟩; replace HO_3 := am_ (Kd.S_elder' au2_10 (Kd.R_base ho0) hb); have HO184 := am_ (Kd.R_lower ho0 (below_size bl_)); replace HB := hs_ w hb; (try clear hb); (try clear hb2); (try clear hk); (try clear hi); (try clear ho0); have p10 : 0 ≤ (x4_1 : Int) := od_; have q10 : (x4_1 : Int) < ((x3_1.length : Int) : Int) := od_; obtain ⟨go10, co10, eo10, gb10, gl10, cl10, HG10⟩ := Kd.S_form HO_3.out (by omega); (first | cases eo10 | (injection eo10 with ea_ en_ ec_; (first | subst ea_ | (injection ea_ with ea_; subst ea_)); subst ec_; clear en_)); have GB10 := am_ gb10; have GG10 := am_ HG10; clear gb10 gl10 HG10; obtain ⟨_, ce10, hcl10, hM10, hcc10, hfr10, _, _⟩ := Kd.S_elem HO_3.out z55 (x4_1 : Int) p10 q10; obtain ⟨ve10_0, rfl, ge10_0⟩ := k55_openM hM10; have hx10_0 := hcc10 0 _ rfl; have hf10_0 := hfr10 0; (try simp only [show (k55).sz = 1 from rfl, Nat.mul_one, Nat.add_zero] at hx10_0); (try simp only [show (k55).sz = 1 from rfl, Nat.mul_one, Nat.add_zero] at hf10_0); clear hcl10 hcc10 hfr10 hM10; replace p10 := eq_true p10; replace q10 := eq_true q10; obtain ⟨Ao12, co12, eo12⟩ := Kd.R_slice HO184.out; subst eo12; have n_ := am_ (Kd.S_mono (ok' := (fun k_ => some k_ ≠ (.slice Ao12 t182.length co12 : Value).ownBlock)) HO_3.out (fun k_ hk => hk.2)); clear HO_3; have HO_3 := n_; clear n_; have HX13 := am_ (show Kd.S k55 55 w11 w.heap.size (fun k_ => ((fun _ => True)) k_ ∧ ¬ ((fun k_ => some k_ = (.slice Ao12 t182.length co12 : Value).ownBlock)) k_) (.slice (some ⟨go10, 0, none⟩) x3_1.length co10) x3_1 from (by (with_reducible repeat (first | apply Kd.S_alloc | apply Kd.S_drewN | apply Kd.S_drew)); exact Kd.S_mono HO_3.out (fun k_ hk => ⟨trivial, fun e_ => hk e_⟩))); obtain ⟨oki13, ce13, hcl13, hM13, hcc13, hfr13, hoki13, hH13⟩ := Kd.S_elem HX13.out z55 (x4_1 : Int) (of_decide_eq_true as_) (by have h_ : (x4_1 : Int) < ((x3_1.length : Int) : Int) := od_; first | exact h_ | (have e_ := (Kd.S_reads' HO_3.out).1; omega) | simpa using h_); obtain ⟨ve13_0, rfl, ge13_0⟩ := k55_openM hM13; have HP13 := Kd.S_seg hH13 (of_decide_eq_true as_) (by have h_ : (x4_1 : Int) < ((x3_1.length : Int) : Int) := od_; first | exact h_ | (have e_ := (Kd.S_reads' HO_3.out).1; omega) | simpa using h_) (seg := [.slice Ao12 t182.length co12]) (j := 0) (show 1 ≤ 1 from by decide) (x' := (⟨t182⟩ : S55)) (k55_mkM _ _ _ (⟨t182⟩ : S55) (Kd.R_mono (Kd.R_tight rfl (Kd.R_mono (ok' := fun k_ => ((fun _ => True)) k_ ∧ k_ ≠ go10) (Kd.R_apart' (HO184.out) (Kd.S_typed HO_3.out) (by decide)) (fun k_ hk => ⟨trivial, fun e_ => (hk.2) (by rw [e_]; rfl)⟩))) (fun _ h_ => Or.inr (h_)))) (fun _ hk => hk) (fun k_ hk_ => ((Kd.R_mono (ok' := fun k_ => ((fun _ => True)) k_ ∧ k_ ≠ go10) (Kd.R_apart' (HO184.out) (Kd.S_typed HO_3.out) (by decide)) (fun k_ hk => ⟨trivial, fun e_ => (hk.2) (by rw [e_]; rfl)⟩))).1 k_ hk_.symm); have hx13_0 := hcc13 0 _ rfl; (try simp only [show (k55).sz = 1 from rfl, Nat.mul_one, Nat.add_zero] at hx13_0); have hf13_0 := hfr13 0; (try simp only [show (k55).sz = 1 from rfl, Nat.mul_one, Nat.add_zero] at hf13_0); clear hcl13 hcc13 hfr13 hM13 hoki13 hH13; (try simp only [show (k55).sz = 1 from rfl, Nat.mul_one, Nat.add_zero] at HP13)) | ((with_reducible refine gate_store (t := 55) (p := 21) rfl ?_); refine store_event (t := 55) (p := 21) (v := ?vo_w14) (w1 := (w11.setCell ⟨go10, (x4_1 : Int).toNat, none⟩ (.slice Ao12 t182.length co12))) ?hg ?ho ?hn ?hr ?_; (case ho => rfl); (case hg => rfl); (case hn => rfl); (case hr => exact hr_); intro w14 hw; have hg : w11.grownBy w14 (some go10) := (by rw [hw]; exact HP13.2); have hp_ : Kd.S k55 55 w14 w.heap.size (fun _ => True) (.slice (some ⟨go10, 0, none⟩) x3_1.length co10) y185 := (by rw [hw, Ny185.out]; exact HP13.1); clear HP13; have n0_ := am_ (hp_); have n1_ := am_ ((by rw [hw]; exact below_set (HB.out) GB10.out : Below w.heap.size w w14)); clear HO_3; clear HB; clear HO184; have HO_3 := n0_; have HB := n1_; clear n0_ n1_; clear hg hw hp_))
   go_roundg k1
   case measure => have := HK1.out; omega
   case rel => exact ⟨(y185), (wrap64 (x4_1 + 1)), er_, H', ⟨by have := HK1.out; omega⟩, ⟨au2_6⟩, ⟨bl_⟩⟩
/-! ### F36: function 36 -/
def F36.f (k : Nat) (a0_0 : ByteArray) (l0_1 : List (S129)) : Option (ByteArray × (List (S55))) := (F59.f k l0_1).bind fun t189 => (some (a0_0, t189))
theorem F36.mono : ∀ a0 a1 k, LeO (F36.f k a0 a1) (F36.f (k + 1) a0 a1) := by
 intro a0 a1 k
 unfold F36.f
 repeat' with_reducible first | exact F59.mono _ _ | exact LeO.refl _ | exact LeO.none _ | refine LeO.ite ?_ ?_ | refine LeO.bind ?_ (fun _ => ?_)
theorem F36.calls (k : Nat) (a0_0 : ByteArray) (A0_1 : Option Addr) (c0_1 : Nat) (l0_1 : List (S129)) (r1 : ByteArray) (r2 : List (S55)) (w : World) (hr0_1 : Kd.C k129 w A0_1 l0_1.length l0_1) (hc0_1 : l0_1.length ≤ c0_1) (h : F36.f k a0_0 l0_1 = some (r1, r2)) :
  Calls Tryd.prog 36 #[.agg #[.string a0_0, .slice A0_1 l0_1.length c0_1]] w fun e w' => ∃ v1_ : Value, e = .returned (.agg #[.string r1, v1_]) ∧ Kd.S k55 55 w' w.heap.size (fun _ => True) v1_ r2 ∧ Below w.heap.size w w' := by
 have hu63 := Tryd.underlying63
 have hu52 := Tryd.underlying52
 have HR0_1 := am_ hr0_1
 have HC0_1 := am_ hc0_1
 clear hr0_1 hc0_1
 have HB := am_ (Below.refl w.heap.size w)
 have H : ((F59.f k l0_1).bind fun t189 => (some (a0_0, t189))) = some (r1, r2) := h
 clear h
 replace H := bi_ H; rcases H with ⟨t189, A2, H⟩
 simp only [Option.some.injEq, Prod.mk.injEq] at H
 obtain ⟨rfl, rfl⟩ := H
 go_enter Tryd.func36, Tryd.ntmps36
 go_wp2_with (first | ((with_reducible refine gate_dst (N := 1) rfl ?_); refine be_ 1 #[.string a0_0, .slice A0_1 l0_1.length c0_1] 63 ?_; intro gb186 hg w3 hbox hb; have BK186 := am_ (hbox); have GW186 := am_ (gw_ hg bl_); have GE186 := GW186; replace HB := hs_ w hb; clear hb hbox hg) | ((with_reducible refine gate_dst (N := 2) rfl ?_); refine be_ 2 #[.string (⟨#[]⟩ : ByteArray), .slice none 0 0] 52 ?_; intro gb187 hg w4 hbox hb; have BK187 := am_ (hbox); have GW187 := am_ (gw_ hg bl_); have GE187 := GW187; replace HB := hs_ w hb; have NB186_187 := am_ (gn_ hg (blkl_ BK186)); have NB187_186 := am_ (gm_ hg (blkl_ BK186)); replace BK186 := bb_ BK186 hb; clear hb hbox hg) | ((with_reducible refine gate_dst (N := 3) rfl ?_); refine be_ 3 #[.string (⟨#[]⟩ : ByteArray), .slice none 0 0] 52 ?_; intro gb188 hg w5 hbox hb; have BK188 := am_ (hbox); have GW188 := am_ (gw_ hg bl_); have GE188 := GW188; replace HB := hs_ w hb; have NB186_188 := am_ (gn_ hg (blkl_ BK186)); have NB188_186 := am_ (gm_ hg (blkl_ BK186)); replace BK186 := bb_ BK186 hb; have NB187_188 := am_ (gn_ hg (blkl_ BK187)); have NB188_187 := am_ (gm_ hg (blkl_ BK187)); replace BK187 := bb_ BK187 hb; clear hb hbox hg; have hnb6 := NB186_187.out; have hnc6 := NB187_186.out; have hnb7 := NB186_188.out; have hnc7 := NB188_186.out; obtain ⟨hcz8_0, hcz8_1, hfz8_0, hfz8_1⟩ := cellsF2 BK186.out; have hnb9 := NB188_187.out; have hnc9 := NB187_188.out; obtain ⟨hcz10_0, hcz10_1, hfz10_0, hfz10_1⟩ := cellsF2 BK188.out) | ((with_reducible refine gate_callee (f := 59) rfl ?_); refine gl_ 9 Tryd.func59 #[.slice A0_1 l0_1.length c0_1] ?_ rfl rfl rfl rfl; (with_reducible refine (F59.calls k _ _ l0_1 t189 _ ?s1 ?s2 A2.out).mono ?_); (case s1 => exact Kd.C_below HR0_1.out bl_); (case s2 => exact HC0_1.out); rintro e w11 ⟨v190, rfl, ho0, hb⟩; refine ⟨_, rfl, ?_⟩; have HO191 := am_ (Kd.S_lower ho0 (below_size bl_)); replace BK186 := am_ (blk_below (g := gb186) (o := .cells #[.string a0_0, .slice A0_1 l0_1.length c0_1] 63 (0, 0)) (bf_ BK186) hb); replace BK187 := am_ (blk_below (g := gb187) (o := .cells #[.string (⟨#[]⟩ : ByteArray), .slice none 0 0] 52 (0, 0)) (bf_ BK187) hb); replace BK188 := am_ (blk_below (g := gb188) (o := .cells #[.string a0_0, .slice none 0 0] 52 (0, 0)) (bq_ BK188) hb); replace HB := hs_ w hb; (try clear hb); (try clear ho0); obtain ⟨Ao12, co12, eo12⟩ := Kd.S_slice HO191.out; subst eo12; obtain ⟨hcz13_0, hcz13_1, hfz13_0, hfz13_1⟩ := cellsF2 BK188.out; obtain ⟨hcz14_0, hcz14_1, hfz14_0, hfz14_1⟩ := cellsF2 BK187.out))
 refine bodyPost_ret (results_cell_row rfl _ _ gb187 52 #[.string a0_0, .slice Ao12 t189.length co12] (0, 0) _ rfl (bq_ BK187) Tryd.underlying52 rfl (by kernel_rfl)) rfl ?_
 exact ⟨_, au2_2, by (with_reducible repeat (first | apply Kd.S_alloc | apply Kd.S_drewN | apply Kd.S_drew)); exact Kd.S_mono (Kd.S_far (p := ⟨gb187, 1, none⟩) (Kd.S_far (p := ⟨gb187, 0, none⟩) (Kd.S_far (p := ⟨gb188, 1, none⟩) (Kd.S_types (Kd.S_types HO191.out BK188.out (by decide)) BK187.out (by decide)) (fun _ hk => hk.1.2) (.slice Ao12 t189.length co12)) (fun _ hk => hk.2) (.string a0_0)) (fun _ hk => hk.2) (.slice Ao12 t189.length co12)) (fun _ hk => trivial), bl_⟩

/-! ### F13: function 13 -/
def F13.l0 : Nat → List (S63) → List (S52) → Int → Option ((List (S52)))
  | 0, _, _, _ => none
  | k + 1, x0, x3, x4 => if x4 < (x0.length : Int) then (if 0 ≤ x4 then ((F36.f k ((rd_T63 x0 x4).f0) ((rd_T63 x0 x4).f1)).bind fun bt196 => (if x4 < (x3.length : Int) then (F13.l0 k x0 (x3.set (x4 : Int).toNat (⟨bt196.1, bt196.2⟩ : S52)) (wrap64 (x4 + 1))) else (none))) else (none)) else (some x3)
def F13.f (k : Nat) (l0 : List (S63)) : Option ((List (S52))) := if 0 ≤ (l0.length : Int) then (if ((l0.length : Int) : Int).toNat ≤ 7036874417766 then (F13.l0 k l0 (List.replicate ((l0.length : Int) : Int).toNat z52) 0) else (none)) else (none)
theorem F13.mono_l : ∀ k, (∀ y0 y1 y2, LeO (F13.l0 k y0 y1 y2) (F13.l0 (k + 1) y0 y1 y2))
 | 0 => fun _ _ _ r h => by simp [F13.l0] at h
 | k + 1 => by
  have ih0 := F13.mono_l k
  intro y0 y1 y2
  unfold F13.l0
  repeat' with_reducible first | exact ih0 _ _ _ | exact F36.mono _ _ _ | exact LeO.refl _ | exact LeO.none _ | refine LeO.ite ?_ ?_ | refine LeO.bind ?_ (fun _ => ?_)
theorem F13.mono : ∀ a0 k, LeO (F13.f k a0) (F13.f (k + 1) a0) := by
 intro a0 k
 have ih0 := F13.mono_l k
 unfold F13.f
 repeat' with_reducible first | exact ih0 _ _ _ | exact F36.mono _ _ _ | exact LeO.refl _ | exact LeO.none _ | refine LeO.ite ?_ ?_ | refine LeO.bind ?_ (fun _ => ?_)
theorem F13.calls (k : Nat) (A0 : Option Addr) (c0 : Nat) (l0 : List (S63)) (r : List (S52)) (w : World) (hr0 : Kd.C k63 w A0 l0.length l0) (hc0 : l0.length ≤ c0) (h : F13.f k l0 = some r) :
  Calls Tryd.prog 13 #[.slice A0 l0.length c0] w fun e w' => ∃ v0_ : Value, e = .returned (v0_) ∧ Kd.S k52 52 w' w.heap.size (fun _ => True) v0_ r ∧ Below w.heap.size w w' := by
 have hu63 := Tryd.underlying63
 have hu52 := Tryd.underlying52
 have HR0 := am_ hr0
 have HC0 := am_ hc0
 clear hr0 hc0
 have HB := am_ (Below.refl w.heap.size w)
 have H : (if 0 ≤ (l0.length : Int) then (if ((l0.length : Int) : Int).toNat ≤ 7036874417766 then (F13.l0 k l0 (List.replicate ((l0.length : Int) : Int).toNat z52) 0) else (none)) else (none)) = some r := h
 clear h
 by_cases c2 : 0 ≤ (l0.length : Int)
 rotate_left
 ·rw [if_neg c2] at H
  exact absurd H (by simp)

 rw [if_pos c2] at H
 have c2b0 := eq_true c2
 have c2b1 : decide (0 ≤ (l0.length : Int)) = true := decide_eq_true c2
 clear c2
 by_cases c3 : ((l0.length : Int) : Int).toNat ≤ 7036874417766
 rotate_left
 ·rw [if_neg c3] at H
  exact absurd H (by simp)
 rw [if_pos c3] at H
 have c3b0 := eq_true c3
 have c3b1 : decide (((l0.length : Int) : Int).toNat ≤ 7036874417766) = true := decide_eq_true c3
 clear c3
 obtain ⟨y192, hy192⟩ : ∃ y_ : List (S52), y_ = (List.replicate ((l0.length : Int) : Int).toNat z52) := ⟨_, rfl⟩
 replace H : (F13.l0 k l0 y192 0) = some r := by first | (rw [hy192]; exact H) | exact H
 have Ny192 := am_ hy192
 clear hy192
 have H' := am_ H
 clear H
 go_enter Tryd.func13, Tryd.ntmps13
 go_wp2_with (first | ((with_reducible refine gate_dst (N := 7) rfl ?_); refine Kd.S_make k52 _ 52 rfl (N := 7) rfl 38 _ _ rfl (l0.length : Int) rfl rfl Tryd.underlying38 (.agg #[(.string ⟨#[]⟩), (.slice none 0 0)]) 40 info52 rfl (by decide) (by omega) z52 (ok := fun _ => True) (okp := fun _ => True) (k52_mkM _ _ _ z52 (by first | exact Kd.R_nil _ _ _ _ _ | exact Kd.S_nil _ _ _ _ _)) (fun _ hk => hk) trivial (of_decide_eq_true as_) (Nat.le_trans (Nat.mul_le_mul_right _ (of_decide_eq_true as_ : (l0.length : Int).toNat ≤ 7036874417766)) (by omega)) (Below.refl _ _) (Nat.le_refl _) ?_; intro v193 w4 ho5 hb hg_ hnew_; clear hg_ hnew_; (first | rw [← Ny192.out] at ho5 | (simp only [Int.reduceToNat] at ho5; rw [← Ny192.out] at ho5)); have HO194 := am_ (Kd.S_lower ho5 (below_size bl_)); replace HB := hs_ w hb; clear hb ho5))
 go_loopg [4] k (fun kq v4 w' => ∃ (x3_1 : List (S52)) (x4_1 : Int), v4 = .int .i64 x4_1 ∧ Aside0 (F13.l0 kq l0 x3_1 x4_1 = some r) ∧ Aside0 (kq ≤ k) ∧ Aside0 (Kd.S k52 52 w' w.heap.size (fun _ => True) v193 x3_1) ∧ Aside0 (Below w.heap.size w w'))
 case atStart => exact ⟨(y192), (0), er_, H', ⟨Nat.le_refl _⟩, ⟨by (with_reducible repeat (first | apply Kd.S_alloc | apply Kd.S_drewN | apply Kd.S_drew)); exact HO194.out⟩, ⟨bl_⟩⟩
 case round =>
  clear H'
  try clear c2
  try clear c2b0
  try clear c2b1
  try clear c3
  try clear c3b0
  try clear c3b1
  obtain ⟨x3_1, x4_1, rfl, HA, HK1, HO_3, HB⟩ := hrel
  cases gk with
  | zero => exact absurd HA.out (by simp [F13.l0])
  | succ k1 =>
   have H := HA.out
   clear HA
   simp only [F13.l0] at H
   replace H := it_ H; rcases H with ⟨c6b0, H⟩ | ⟨c6b0, H⟩
   rotate_left
   ·obtain rfl := Option.some.inj H
    go_wp2
    go_ret
    exact ⟨_, au2_2, au2_6, bl_⟩
   replace H := itn_ H; rcases H with ⟨c7b0, H⟩
   replace H := bi_ H; rcases H with ⟨⟨t196, t197⟩, A8, H⟩
   replace H := itn_ H; rcases H with ⟨c9b0, H⟩
   obtain ⟨y200, hy200⟩ : ∃ y_ : List (S52), y_ = (x3_1.set (x4_1 : Int).toNat (⟨t196, t197⟩ : S52)) := ⟨_, rfl⟩
   replace H : (F13.l0 k1 l0 y200 (wrap64 (x4_1 + 1))) = some r := by first | (rw [hy200]; exact H) | exact H
   have Ny200 := am_ hy200
   clear hy200
   have H' := am_ H
   clear H
   have p195 : 0 ≤ (x4_1 : Int) := od_
   have q195 : x4_1 < (l0.length : Int) := od_
   obtain ⟨ad195, A195_1, c195_1, e195, hx195_0, hx195_1, hl195_1, hi195_1⟩ := at_T63 HR0.out x4_1 p195 q195
   cases e195
   replace hx195_0 := (HB.out.cell (World.block_lt_of_cell? _ _ hx195_0)).trans hx195_0
   replace hx195_1 := (HB.out.cell (World.block_lt_of_cell? _ _ hx195_1)).trans hx195_1
   have HR195_1 := am_ hi195_1
   have HC195_1 := am_ hl195_1
   clear hi195_1 hl195_1
   replace p195 := eq_true p195
   replace q195 := eq_true q195
   go_wp2_with (first | ((with_reducible refine gate_callee (f := 36) rfl ?_); refine gl_ 20 Tryd.func36 #[.agg #[.string ((rd_T63 l0 x4_1).f0), .slice A195_1 ((rd_T63 l0 x4_1).f1).length c195_1]] ?_ rfl rfl rfl rfl; (with_reducible refine (F36.calls k1 ((rd_T63 l0 x4_1).f0) _ _ ((rd_T63 l0 x4_1).f1) t196 t197 _ ?s1 ?s2 A8.out).mono ?_); (case s1 => repeat (first | exact (Kd.C_below HR195_1.out HB.out) | (with_reducible refine Kd.C_alloc ?_ _) | (with_reducible refine Kd.C_drewN ?_ _) | (with_reducible refine Kd.C_drew ?_))); (case s2 => exact HC195_1.out); rintro e w11 ⟨v198, rfl, ho0, hb⟩; refine ⟨_, rfl, ?_⟩; obtain ⟨b9_, hb9_, ho9_⟩ := nb9_ ho0; replace HO_3 := am_ (Kd.S_elder' (Kd.S_mono (Kd.S_bound au2_10) (fun k_ hk_ => (⟨hb9_ _ hk_.2.2.1, hk_.1⟩ : k_ < b9_ ∧ _))) (Kd.S_base ho0) hb); have HO199 := am_ (Kd.S_lower ho9_ (below_size bl_)); replace HB := hs_ w hb; (try clear hb); (try clear hb2); (try clear hk); (try clear hi); (try clear ho0); have p10 : 0 ≤ (x4_1 : Int) := od_; have q10 : (x4_1 : Int) < ((x3_1.length : Int) : Int) := od_; obtain ⟨go10, co10, eo10, gb10, gl10, cl10, HG10⟩ := Kd.S_form HO_3.out (by omega); (first | cases eo10 | (injection eo10 with ea_ en_ ec_; (first | subst ea_ | (injection ea_ with ea_; subst ea_)); subst ec_; clear en_)); have GB10 := am_ gb10; have GG10 := am_ HG10; clear gb10 gl10 HG10; obtain ⟨_, ce10, hcl10, hM10, hcc10, hfr10, _, _⟩ := Kd.S_elem HO_3.out z52 (x4_1 : Int) p10 q10; obtain ⟨ve10_1, rfl, ge10_1⟩ := k52_openM hM10; have hx10_0 : w11.cell? ⟨go10, (x4_1 : Int).toNat * 2, none⟩ = some (.string ((rd_T52 x3_1 x4_1).f0)) := hcc10 0 _ rfl; have hx10_1 : w11.cell? ⟨go10, (x4_1 : Int).toNat * 2 + 1, none⟩ = some (ve10_1) := hcc10 1 _ rfl; have hf10_0 : w11.frozen? ⟨go10, (x4_1 : Int).toNat * 2, none⟩ = false := hfr10 0; have hf10_1 : w11.frozen? ⟨go10, (x4_1 : Int).toNat * 2 + 1, none⟩ = false := hfr10 1; clear hcl10 hcc10 hfr10 hM10; replace p10 := eq_true p10; replace q10 := eq_true q10; obtain ⟨Ao12, co12, eo12⟩ := Kd.S_slice HO199.out; subst eo12; have n_ := am_ (Kd.S_mono (ok' := (fun k_ => k_ < b9_ ∧ some k_ ≠ (.slice Ao12 t197.length co12 : Value).ownBlock)) HO_3.out (fun k_ hk => ⟨hk.1.1, hk.2⟩)); clear HO_3; have HO_3 := n_; clear n_; have HX13 := am_ (show Kd.S k52 52 w11 w.heap.size (fun k_ => ((fun _ => True)) k_ ∧ ¬ ((fun k_ => b9_ ≤ k_)) k_) (.slice (some ⟨go10, 0, none⟩) x3_1.length co10) x3_1 from (by (with_reducible repeat (first | apply Kd.S_alloc | apply Kd.S_drewN | apply Kd.S_drew)); exact Kd.S_mono HO_3.out (fun k_ hk => ⟨trivial, Nat.not_le.2 hk.1⟩))); obtain ⟨oki13, ce13, hcl13, hM13, hcc13, hfr13, hoki13, hH13⟩ := Kd.S_elem HX13.out z52 (x4_1 : Int) (of_decide_eq_true as_) (by have h_ : (x4_1 : Int) < ((x3_1.length : Int) : Int) := od_; first | exact h_ | (have e_ := (Kd.S_reads' HO_3.out).1; omega) | simpa using h_); obtain ⟨ve13_1, rfl, ge13_1⟩ := k52_openM hM13; have HP13 := Kd.S_seg hH13 (of_decide_eq_true as_) (by have h_ : (x4_1 : Int) < ((x3_1.length : Int) : Int) := od_; first | exact h_ | (have e_ := (Kd.S_reads' HO_3.out).1; omega) | simpa using h_) (seg := [.string t196, .slice Ao12 t197.length co12]) (j := 0) (show 2 ≤ 2 from by decide) (x' := (⟨t196, t197⟩ : S52)) (k52_mkM _ _ _ (⟨t196, t197⟩ : S52) (Kd.S_mono HO199.out (fun _ h_ => Or.inr h_))) (fun _ hk => hk) (fun k_ hk_ => ⟨trivial, lt9_ HO_3.out hk_⟩); have hx13_0 := hcc13 0 _ rfl; (try simp only [show (k52).sz = 2 from rfl, Nat.mul_one, Nat.add_zero] at hx13_0); have hf13_0 := hfr13 0; (try simp only [show (k52).sz = 2 from rfl, Nat.mul_one, Nat.add_zero] at hf13_0); have hx13_1 := hcc13 1 _ rfl; (try simp only [show (k52).sz = 2 from rfl, Nat.mul_one, Nat.add_zero] at hx13_1); have hf13_1 := hfr13 1; (try simp only [show (k52).sz = 2 from rfl, Nat.mul_one, Nat.add_zero] at hf13_1); clear hcl13 hcc13 hfr13 hM13 hoki13 hH13) | ((with_reducible refine gate_store (t := 52) (p := 21) rfl ?_); refine store_event (t := 52) (p := 21) (v := ?vo_w14) (w1 := ((w11.setCell ⟨go10, (x4_1 : Int).toNat * 2, none⟩ (.string t196)).setCell ⟨go10, (x4_1 : Int).toNat * 2 + 1, none⟩ (.slice Ao12 t197.length co12))) ?hg ?ho ?hn ?hr ?_; (case ho => rfl); (case hg => rfl); (case hn => rfl); (case hr => exact hr_); intro w14 hw; have hg : w11.grownBy w14 (some go10) := (by rw [hw]; exact HP13.2); have hp_ : Kd.S k52 52 w14 w.heap.size (fun _ => True) (.slice (some ⟨go10, 0, none⟩) x3_1.length co10) y200 := (by rw [hw, Ny200.out]; exact HP13.1); clear HP13; have n0_ := am_ (hp_); have n1_ := am_ ((by rw [hw]; exact below_set (below_set (HB.out) GB10.out) GB10.out : Below w.heap.size w w14)); clear HO_3; clear HB; clear HO199; have HO_3 := n0_; have HB := n1_; clear n0_ n1_; clear hg hw hp_))
   go_roundg k1
   case measure => have := HK1.out; omega
   case rel => exact ⟨(y200), (wrap64 (x4_1 + 1)), er_, H', ⟨by have := HK1.out; omega⟩, ⟨au2_6⟩, ⟨bl_⟩⟩
/-! ### F37: function 37 -/
def F37.f (l0 : List (S52)) : Option (Bool) := some (decide ((l0.length : Int) > 400))
theorem F37.calls (A0 : Option Addr) (c0 : Nat) (l0 : List (S52)) (r : Bool) (w : World) (hr0 : Kd.C k52 w A0 l0.length l0) (hc0 : l0.length ≤ c0) (h : F37.f l0 = some r) :
  Calls Tryd.prog 37 #[.slice A0 l0.length c0] w fun e w' => e = .returned (.bool r) ∧ Drawn0 w w' := by
 have HR0 := am_ hr0
 have HC0 := am_ hc0
 clear hr0 hc0
 have H : (some (decide ((l0.length : Int) > 400))) = some r := h
 clear h
 obtain rfl := Option.some.inj H
 go_enter Tryd.func37, Tryd.ntmps37
 go_wp2
 go_ret
 exact ⟨er_, dn_⟩

/-! ### F60: function 60 -/
def F60.l0 : Nat → ByteArray → Int → List ByteArray → List (S55) → Int → Int → ByteArray → List (S55) → Option (List ByteArray × Bool)
  | 0, _, _, _, _, _, _, _, _ => none
  | k + 1, x1, x2, x8, x13, x14, x15, x202000, x202001 => if x15 < x14 then (if 0 ≤ x15 then (if x15 < (x13.length : Int) then (if (((rd_T55 x13 x15).f0).length : Int) = 1 then (if 0 < (((rd_T55 x13 x15).f0).length : Int) then (if x8.length < 8796093022208 then (F60.l0 k x1 x2 (x8 ++ [rdOf ByteArray.empty ((rd_T55 x13 x15).f0) 0]) x13 x14 (wrap64 (x15 + 1)) x202000 x202001) else (none)) else (none)) else (some (([] : List ByteArray), false))) else (none)) else (none)) else (if x202000.toList = x1.toList then (some (x8, ((x8.length : Int) == x2))) else (some (x8, false)))
def F60.f (k : Nat) (a0_0 : ByteArray) (l0_1 : List (S55)) (a1 : ByteArray) (a2 : Int) : Option (List ByteArray × Bool) := F60.l0 k a1 a2 (([] : List ByteArray)) l0_1 (l0_1.length : Int) 0 a0_0 l0_1
theorem F60.mono_l : ∀ k, (∀ y0 y1 y2 y3 y4 y5 y6 y7, LeO (F60.l0 k y0 y1 y2 y3 y4 y5 y6 y7) (F60.l0 (k + 1) y0 y1 y2 y3 y4 y5 y6 y7))
 | 0 => fun _ _ _ _ _ _ _ _ r h => by simp [F60.l0] at h
 | k + 1 => by
  have ih0 := F60.mono_l k
  intro y0 y1 y2 y3 y4 y5 y6 y7
  unfold F60.l0
  repeat' with_reducible first | exact ih0 _ _ _ _ _ _ _ _ | exact LeO.refl _ | exact LeO.none _ | refine LeO.ite ?_ ?_ | refine LeO.bind ?_ (fun _ => ?_)
theorem F60.mono : ∀ a0 a1 a2 a3 k, LeO (F60.f k a0 a1 a2 a3) (F60.f (k + 1) a0 a1 a2 a3) := by
 intro a0 a1 a2 a3 k
 have ih0 := F60.mono_l k
 unfold F60.f
 repeat' with_reducible first | exact ih0 _ _ _ _ _ _ _ _ | exact LeO.refl _ | exact LeO.none _ | refine LeO.ite ?_ ?_ | refine LeO.bind ?_ (fun _ => ?_)
theorem F60.calls (k : Nat) (a0_0 : ByteArray) (A0_1 : Option Addr) (c0_1 : Nat) (l0_1 : List (S55)) (a1 : ByteArray) (a2 : Int) (r1 : List ByteArray) (r2 : Bool) (w : World) (hr0_1 : Kd.C k55 w A0_1 l0_1.length l0_1) (hc0_1 : l0_1.length ≤ c0_1) (h : F60.f k a0_0 l0_1 a1 a2 = some (r1, r2)) :
  Calls Tryd.prog 60 #[.agg #[.string a0_0, .slice A0_1 l0_1.length c0_1], .string a1, .int .i64 a2] w fun e w' => ∃ v0_ : Value, e = .returned (.tuple #[v0_, .bool r2]) ∧ Kd.R Kd.string 9 w' w.heap.size (fun _ => True) v0_ r1 ∧ Below w.heap.size w w' := by
 have hu52 := Tryd.underlying52
 have hu55 := Tryd.underlying55
 have HR0_1 := am_ hr0_1
 have HC0_1 := am_ hc0_1
 clear hr0_1 hc0_1
 have HB := am_ (Below.refl w.heap.size w)
 have H : (F60.l0 k a1 a2 (([] : List ByteArray)) l0_1 (l0_1.length : Int) 0 a0_0 l0_1) = some (r1, r2) := h
 clear h
 obtain ⟨y202, hy202⟩ : ∃ y_ : List ByteArray, y_ = (([] : List ByteArray)) := ⟨_, rfl⟩
 replace H : (F60.l0 k a1 a2 y202 l0_1 (l0_1.length : Int) 0 a0_0 l0_1) = some (r1, r2) := by first | (rw [hy202]; exact H) | exact H
 have Ny202 := am_ hy202
 clear hy202
 have H' := am_ H
 clear H
 go_enter Tryd.func60, Tryd.ntmps60
 go_wp2_with (first | ((with_reducible refine gate_dst (N := 3) rfl ?_); (try (refine gate_guard (by rfl) ?_; dsimp only)); refine be_ 3 #[.string a0_0, .slice A0_1 l0_1.length c0_1] 52 ?_; intro gb201 hg w4 hbox hb; have BK201 := am_ (hbox); have GW201 := am_ (gw_ hg bl_); have GE201 := GW201; replace HB := hs_ w hb; clear hb hbox hg) | ((with_reducible refine gate_dst (N := 11) rfl ?_); (try (refine gate_guard (by rfl) ?_; dsimp only)); refine Kd.R_lit Kd.string _ 9 ?hg (N := 11) ?hd (xs := ([] : List ByteArray)) (inner := []) (ok := fun _ => True) (okp := fun _ => True) ?hr ?hp (fun _ hk => hk) trivial (Below.refl _ _) (Nat.le_refl _) (by simp) ?_; (case hd => rfl); (case hg => rfl); (case hr => exact hr_); (case hp => exact (Reps.none _ _)); intro v203 w5 ho6 hb hg_ hnew_; clear hg_ hnew_; (first | rw [← Ny202.out] at ho6 | (simp only [Int.reduceToNat] at ho6; rw [← Ny202.out] at ho6)); have HO204 := am_ (Kd.R_lower ho6 (below_size bl_)); replace BK201 := bb_ BK201 hb; replace HB := hs_ w hb; clear hb ho6; obtain ⟨hcz7_0, hcz7_1, hfz7_0, hfz7_1⟩ := cellsF2 BK201.out))
 go_loopg [8, 15] k (fun kq v8 v15 w' => ∃ (x8_1 : List ByteArray) (x15_1 : Int), v15 = .int .i64 x15_1 ∧ Aside0 (F60.l0 kq a1 a2 x8_1 l0_1 (l0_1.length : Int) x15_1 a0_0 l0_1 = some (r1, r2)) ∧ Aside0 (kq ≤ k) ∧ Aside0 (Kd.R Kd.string 9 w' w.heap.size (fun _ => True) v8 x8_1) ∧ Aside0 (w'.heap[gb201]? = some (.cells #[.string a0_0, (.slice A0_1 l0_1.length c0_1)] 52 (0, 0))) ∧ Aside0 (Below w.heap.size w w'))
 case atStart => exact ⟨(y202), (0), er_, H', ⟨Nat.le_refl _⟩, ⟨rk_ HO204⟩, ⟨bk_ BK201⟩, ⟨bl_⟩⟩
 case round =>
  clear H'
  try clear hcz7_0 hcz7_1
  try clear hfz7_0 hfz7_1
  obtain ⟨x8_1, x15_1, rfl, HA, HK1, HO_8, BK201, HB⟩ := hrel
  cases gk with
  | zero => exact absurd HA.out (by simp [F60.l0])
  | succ k1 =>
   have H := HA.out
   clear HA
   simp only [F60.l0] at H
   replace H := it_ H; rcases H with ⟨c8b0, H⟩ | ⟨c8b0, H⟩
   rotate_left
   ·by_cases c21 : a0_0.toList = a1.toList
    rotate_left
    ·rw [if_neg c21] at H
     have c21b0 : (a0_0.toList == a1.toList) = false := beq_eq_false_iff_ne.mpr c21
     have c21b1 : (a0_0.toList != a1.toList) = true := bne_iff_ne.mpr c21
     simp only [Option.some.injEq, Prod.mk.injEq] at H
     obtain ⟨rfl, rfl⟩ := H
     obtain ⟨hcz24_0, hcz24_1, hfz24_0, hfz24_1⟩ := cellsF2 BK201.out
     go_wp2
     go_ret2
     exact ⟨_, au2_2, rk_ HO_8, bl_⟩

    rw [if_pos c21] at H
    have c21b0 : (a0_0.toList == a1.toList) = true := beq_iff_eq.mpr c21
    have c21b1 : (a0_0.toList != a1.toList) = false := bne_eq_false_iff_eq.mpr c21
    clear c21
    simp only [Option.some.injEq, Prod.mk.injEq] at H
    obtain ⟨rfl, rfl⟩ := H
    obtain ⟨hcz22_0, hcz22_1, hfz22_0, hfz22_1⟩ := cellsF2 BK201.out
    obtain ⟨Ao23, co23, eo23⟩ := Kd.R_slice HO_8.out
    subst eo23
    go_wp2
    go_ret2
    exact ⟨_, au2_2, rk_ HO_8, bl_⟩
   replace H := itn_ H; rcases H with ⟨c9b0, H⟩
   replace H := itn_ H; rcases H with ⟨c10b0, H⟩
   by_cases c11 : (((rd_T55 l0_1 x15_1).f0).length : Int) = 1
   rotate_left
   ·rw [if_neg c11] at H
    have c11b0 : ((((rd_T55 l0_1 x15_1).f0).length : Int) == 1) = false := beq_eq_false_iff_ne.mpr c11
    have c11b1 : ((((rd_T55 l0_1 x15_1).f0).length : Int) != 1) = true := bne_iff_ne.mpr c11
    simp only [Option.some.injEq, Prod.mk.injEq] at H
    obtain ⟨rfl, rfl⟩ := H
    have p205 : 0 ≤ (x15_1 : Int) := od_
    have q205 : x15_1 < (l0_1.length : Int) := od_
    obtain ⟨ad205, A205_0, c205_0, e205, hx205_0, hl205_0, hi205_0⟩ := at_T55 HR0_1.out x15_1 p205 q205
    cases e205
    replace hx205_0 := (HB.out.cell (World.block_lt_of_cell? _ _ hx205_0)).trans hx205_0
    have HR205_0 := am_ hi205_0
    have HC205_0 := am_ hl205_0
    clear hi205_0 hl205_0
    replace p205 := eq_true p205
    replace q205 := eq_true q205
    go_wp2_with (first | ((with_reducible refine gate_dst (N := 10) rfl ?_); (try (refine gate_guard (by rfl) ?_; dsimp only)); refine be_ 10 #[.slice none 0 0] 55 ?_; intro gb206 hg w18 hbox hb; replace HO_8 := am_ (Kd.R_below (rk_ HO_8) hb); have BK206 := am_ (hbox); have GW206 := am_ (gw_ hg bl_); have GE206 := GW206; replace HB := hs_ w hb; have NB201_206 := am_ (gn_ hg (blkl_ BK201)); have NB206_201 := am_ (gm_ hg (blkl_ BK201)); replace BK201 := bb_ BK201 hb; clear hb hbox hg; have hnb19 := NB206_201.out; have hnc19 := NB201_206.out; have hcz20_0 : w18.cell? ⟨gb206, 0, none⟩ = some (.slice none 0 0) := (blk_cell BK206.out 0).trans rfl; have hfz20_0 := blk_frozen BK206.out 0))
    go_ret2
    exact ⟨_, au2_2, by first | exact Kd.R_nil _ _ _ _ _ | exact Kd.N_nil _ _ _ _ _ | exact Kd.V_nil _ _ _ _ _ | exact Kd.Q_nil _ _ _ _ _ | exact Kd.S_nil _ _ _ _ _, bl_⟩
   rw [if_pos c11] at H
   have c11b0 : ((((rd_T55 l0_1 x15_1).f0).length : Int) == 1) = true := beq_iff_eq.mpr c11
   have c11b1 : ((((rd_T55 l0_1 x15_1).f0).length : Int) != 1) = false := bne_eq_false_iff_eq.mpr c11
   clear c11
   replace H := itn_ H; rcases H with ⟨c12b0, H⟩
   have c12b1 : decide (0 < ((rd_T55 l0_1 x15_1).f0).length) = true := n2_ c12b0
   replace H := iln_ H; rcases H with ⟨LMc13, H⟩
   obtain ⟨y208, hy208⟩ : ∃ y_ : List ByteArray, y_ = (x8_1 ++ [rdOf ByteArray.empty ((rd_T55 l0_1 x15_1).f0) 0]) := ⟨_, rfl⟩
   replace H : (F60.l0 k1 a1 a2 y208 l0_1 (l0_1.length : Int) (wrap64 (x15_1 + 1)) a0_0 l0_1) = some (r1, r2) := by first | (rw [hy208]; exact H) | exact H
   have Ny208 := am_ hy208
   clear hy208
   have H' := am_ H
   clear H
   have p205 : 0 ≤ (x15_1 : Int) := od_
   have q205 : x15_1 < (l0_1.length : Int) := od_
   obtain ⟨ad205, A205_0, c205_0, e205, hx205_0, hl205_0, hi205_0⟩ := at_T55 HR0_1.out x15_1 p205 q205
   cases e205
   replace hx205_0 := (HB.out.cell (World.block_lt_of_cell? _ _ hx205_0)).trans hx205_0
   have HR205_0 := am_ hi205_0
   have HC205_0 := am_ hl205_0
   clear hi205_0 hl205_0
   replace p205 := eq_true p205
   replace q205 := eq_true q205
   go_wp2_with (first | ((with_reducible refine gate_dst (N := 10) rfl ?_); (try (refine gate_guard (by rfl) ?_; dsimp only)); refine be_ 10 #[.slice none 0 0] 55 ?_; intro gb206 hg w14 hbox hb; replace HO_8 := am_ (Kd.R_below (rk_ HO_8) hb); have BK206 := am_ (hbox); have GW206 := am_ (gw_ hg bl_); have GE206 := GW206; replace HB := hs_ w hb; have NB201_206 := am_ (gn_ hg (blkl_ BK201)); have NB206_201 := am_ (gm_ hg (blkl_ BK201)); replace BK201 := bb_ BK201 hb; clear hb hbox hg; have hnb15 := NB206_201.out; have hnc15 := NB201_206.out; have hcz16_0 : w14.cell? ⟨gb206, 0, none⟩ = some (.slice none 0 0) := (blk_cell BK206.out 0).trans rfl; have hfz16_0 := blk_frozen BK206.out 0; have p207 : 0 ≤ (0 : Int) := (by omega); have q207 : 0 < (((rd_T55 l0_1 x15_1).f0).length : Int) := od_; obtain ⟨ad207, e207, hx207_0⟩ := Kd.at_string HR205_0.out 0 p207 q207; cases e207; have qi207 : (0 < ((rd_T55 l0_1 x15_1).f0).length) = True := eq_true (by omega); (try rw [show ((0 : Int)).toNat = 0 from rfl] at hx207_0); (try rw [Addr.add_zero'] at hx207_0); have hn207_0 : ad207.block ≠ gb206 := Nat.ne_of_lt (Nat.lt_of_lt_of_le (by have := World.block_lt_of_cell? _ _ hx207_0; first | rwa [add_block] at this | exact this) GW206.out); replace hx207_0 := (HB.out.cell (World.block_lt_of_cell? _ _ hx207_0)).trans hx207_0; replace hx207_0 := (cell_far (p := ⟨gb206, 0, none⟩) (by first | (rw [add_block]; exact hn207_0) | (show (Addr.add _ _).block ≠ _; rw [add_block]; exact hn207_0) | exact hn207_0) (.slice (some ad207) ((rd_T55 l0_1 x15_1).f0).length c205_0)).trans hx207_0; clear hn207_0; replace p207 := eq_true p207; replace q207 := eq_true q207) | ((with_reducible refine gate_builtin (b := .append) (xs := #[.tmp 23, .tmp 28]) rfl ?_); (try (refine gate_guard (by rfl) ?_; dsimp only)); at_builtin; refine Kd.R_append Kd.string (w0 := w) w.heap.size rfl (.tmp 23) (.tmp 28) 53 9 (.string ⟨#[]⟩) 16 rfl Tryd.underlying53 info9 rfl (by decide) (by omega) u8 x8_1 (rdOf ByteArray.empty ((rd_T55 l0_1 x15_1).f0) 0) [.string (rdOf ByteArray.empty ((rd_T55 l0_1 x15_1).f0) 0)] (fun _ => True) (fun _ => False) rfl (by first | (go_simp; done) | (go_simp; rfl)) ?aP (fun _ hk => hk.elim) ?aF ?aO ?aB ?aS ?aL ?_; (case aP => exact rfl); (case aB => exact bl_); (case aF => exact (fun _ _ => trivial)); (case aO => exact (by (with_reducible repeat (first | apply Kd.R_alloc | apply Kd.R_drewN | apply Kd.R_drew)); exact Kd.R_mono (Kd.R_far (p := ⟨gb206, 0, none⟩) (Kd.R_types HO_8.out BK206.out (by decide)) (fun _ hk => hk.2) (.slice (some ad207) ((rd_T55 l0_1 x15_1).f0).length c205_0)) (fun _ hk => trivial))); (case aS => exact (below_size bl_)); (case aL => have := LMc13.out; omega); intro v209 w17 ho hb hg hat; rw [← Ny208.out] at ho; have n0_ := am_ (bg_ BK201 hg (Kd.R_ne HO_8.out BK201.out (by decide))); have n1_ := am_ (blk_grown (g := gb206) (o := .cells #[.slice (some ad207) ((rd_T55 l0_1 x15_1).f0).length c205_0] 55 (0, 0)) (bq_ BK206) hg (Kd.R_ne HO_8.out BK206.out (by decide))); have n2_ := am_ (hb); have n3_ := am_ (ho); clear BK201; clear BK206; clear HB; clear HO_8; have BK201 := n0_; have BK206 := n1_; have HB := n2_; have HO210 := n3_; clear n0_ n1_ n2_ n3_; clear ho hb hg hat))
   go_roundg k1
   case measure => have := HK1.out; omega
   case rel => exact ⟨(y208), (wrap64 (x15_1 + 1)), er_, H', ⟨by have := HK1.out; omega⟩, ⟨rk_ HO210⟩, ⟨bk_ BK201⟩, ⟨bl_⟩⟩
/-! ### F83: function 83 -/
def F83.f (a0 : Int) (a1 : Int) (a2 : Int) : Option (Bool) := if a1 ≤ a0 then (some (decide (a0 ≤ a2))) else (some false)
theorem F83.calls (a0 : Int) (a1 : Int) (a2 : Int) (r : Bool) (w : World) (h : F83.f a0 a1 a2 = some r) :
  Calls Tryd.prog 83 #[.int .i64 a0, .int .i64 a1, .int .i64 a2] w fun e w' => e = .returned (.bool r) ∧ Drawn0 w w' := by
 have H : (if a1 ≤ a0 then (some (decide (a0 ≤ a2))) else (some false)) = some r := h
 clear h
 replace H := it_ H; rcases H with ⟨c4b0, H⟩ | ⟨c4b0, H⟩
 ·obtain rfl := Option.some.inj H
  go_enter Tryd.func83, Tryd.ntmps83
  go_wp2
  go_ret
  exact ⟨er_, dn_⟩
 obtain rfl := Option.some.inj H
 go_enter Tryd.func83, Tryd.ntmps83
 go_wp2
 go_ret
 exact ⟨er_, dn_⟩

/-! ### F93: function 93 -/
def F93.f (a0 : Int) : Option (Bool) := if a0 ≥ 65 then (some (decide (a0 ≤ 90))) else (some false)
theorem F93.calls (a0 : Int) (r : Bool) (w : World) (h : F93.f a0 = some r) :
  Calls Tryd.prog 93 #[.int .u8 a0] w fun e w' => e = .returned (.bool r) ∧ Drawn0 w w' := by
 have H : (if a0 ≥ 65 then (some (decide (a0 ≤ 90))) else (some false)) = some r := h
 clear h
 replace H := it_ H; rcases H with ⟨(c2b0 : decide (65 ≤ a0) = true), H⟩ | ⟨(c2b0 : decide (65 ≤ a0) = false), H⟩
 ·obtain rfl := Option.some.inj H
  go_enter Tryd.func93, Tryd.ntmps93
  go_wp2
  go_ret
  exact ⟨er_, dn_⟩
 obtain rfl := Option.some.inj H
 go_enter Tryd.func93, Tryd.ntmps93
 go_wp2
 go_ret
 exact ⟨er_, dn_⟩

/-! ### F94: function 94 -/
def F94.f (a0 : Int) : Option (Bool) := if a0 ≥ 48 then (some (decide (a0 ≤ 57))) else (some false)
theorem F94.calls (a0 : Int) (r : Bool) (w : World) (h : F94.f a0 = some r) :
  Calls Tryd.prog 94 #[.int .u8 a0] w fun e w' => e = .returned (.bool r) ∧ Drawn0 w w' := by
 have H : (if a0 ≥ 48 then (some (decide (a0 ≤ 57))) else (some false)) = some r := h
 clear h
 replace H := it_ H; rcases H with ⟨(c2b0 : decide (48 ≤ a0) = true), H⟩ | ⟨(c2b0 : decide (48 ≤ a0) = false), H⟩
 rotate_left
 ·obtain rfl := Option.some.inj H
  go_enter Tryd.func94, Tryd.ntmps94
  go_wp2
  go_ret
  exact ⟨er_, dn_⟩
 obtain rfl := Option.some.inj H
 go_enter Tryd.func94, Tryd.ntmps94
 go_wp2
 go_ret
 exact ⟨er_, dn_⟩
end Go.Proofs.YtlghcbmkhdibdaaDoor.PFnExactHeadOf
