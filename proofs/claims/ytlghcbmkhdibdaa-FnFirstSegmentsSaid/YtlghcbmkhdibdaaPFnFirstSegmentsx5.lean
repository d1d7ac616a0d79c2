-- printed by a program of this session (wip/xp/xprint.py) out of the translation; Lean checks it
import Derived.Test.YtlghcbmkhdibdaaPFnFirstSegmentsx0
import Derived.Test.YtlghcbmkhdibdaaPFnFirstSegmentsx2
import Derived.Test.YtlghcbmkhdibdaaPFnFirstSegmentsx3
import Derived.Test.YtlghcbmkhdibdaaPFnFirstSegmentsx4
namespace Go.Proofs.Ytlghcbmkhdibdaa.PFnFirstSegments
open Go.RowKit Go.Proofs.YtlghcbmkhdibdaaW.PrintWords Go.Proofs.YtlghcbmkhdibdaaW.PrintLast Go.Proofs.YtlghcbmkhdibdaaW.PrintMore
attribute [local go_sem] max2_int min2_int max_two min_two max_three min_three max_four min_four   -- for this text's walks alone
set_option linter.unusedVariables false
set_option linter.unusedSimpArgs false
set_option maxHeartbeats 60000000
set_option maxRecDepth 100000

theorem au5_0 {p : Prop} (h : p := by first | rfl | (simp [errW_none, errW_some] <;> rfl) | (simp [*, errW_none, errW_some] <;> rfl)) : p := h
theorem au5_1 {p : Prop} (h : p := by (with_reducible repeat (first | apply Kd.N_alloc | apply Kd.N_drewN | apply Kd.N_drew)); exact (Kd.N_mono (Kd.N_far (p := ⟨gb640, 3, none⟩) (Kd.N_far (p := ⟨gb640, 2, none⟩) (Kd.N_far (p := ⟨gb640, 1, none⟩) (Kd.N_far (p := ⟨gb640, 0, none⟩) (Kd.N_mono HO639.out (fun k_ hk => (⟨hk, hk.2⟩ : _ ∧ k_ ≠ gb640))) (fun _ hk => hk.2) (.int .i64 t633)) (fun _ hk => hk.2) (.int .i64 t634)) (fun _ hk => hk.2) (.int .i64 t635)) (fun _ hk => hk.2) (.int .i64 t636)) (fun _ h_ => h_.1))) : p := h
theorem au5_2 {p : Prop} (h : p := by (with_reducible repeat (first | apply Kd.S_alloc | apply Kd.S_drewN | apply Kd.S_drew)); exact HO609.out) : p := h
theorem au5_3 {p : Prop} (h : p := by (with_reducible repeat (first | apply Kd.R_alloc | apply Kd.R_drewN | apply Kd.R_drew)); exact Kd.R_mono HO_5.out (fun _ hk => hk.2)) : p := h
theorem au5_4 {p : Prop} (h : p := by (with_reducible repeat (first | apply Kd.N_alloc | apply Kd.N_drewN | apply Kd.N_drew)); exact HO_6.out) : p := h
theorem au5_5 {p : Prop} (h : p := by simp only [putAll, Act.put, List.setIfInBounds_toArray, List.set_cons_zero, List.set_cons_succ]) : p := h
theorem au5_6 {p : Prop} (h : p := by rintro w' ⟨s0, s1, s2, s3⟩; go_simp; with_reducible rfl) : p := h
theorem au5_7 {p : Prop} (h : p := by first | exact Kd.R_nil _ _ _ _ _ | exact Kd.N_nil _ _ _ _ _ | exact Kd.V_nil _ _ _ _ _ | exact Kd.Q_nil _ _ _ _ _ | exact Kd.S_nil _ _ _ _ _) : p := h
theorem au5_8 {p : Prop} (h : p := by (with_reducible repeat (first | apply Kd.N_alloc | apply Kd.N_drewN | apply Kd.N_drew)); exact HO639.out) : p := h
theorem au5_9 {p : Prop} (h : p := by repeat (first | exact (Kd.R_reads' HO600.out).2.2 | (with_reducible refine Kd.C_alloc ?_ _) | (with_reducible refine Kd.C_drewN ?_ _) | (with_reducible refine Kd.C_drew ?_))) : p := h
theorem au5_10 {p : Prop} (h : p := by (with_reducible repeat (first | apply Kd.N_alloc | apply Kd.N_drewN | apply Kd.N_drew)); exact HO657.out) : p := h
theorem au5_11 {p : Prop} (h : p := by repeat (first | exact (Kd.C_below HR629_1.out HB.out) | (with_reducible refine Kd.C_alloc ?_ _) | (with_reducible refine Kd.C_drewN ?_ _) | (with_reducible refine Kd.C_drew ?_))) : p := h
theorem au5_12 {p : Prop} (h : p := by repeat (first | exact (Kd.C_below HR630_1.out HB.out) | (with_reducible refine Kd.C_alloc ?_ _) | (with_reducible refine Kd.C_drewN ?_ _) | (with_reducible refine Kd.C_drew ?_))) : p := h
theorem au5_13 {p : Prop} (h : p := by repeat (first | exact (Kd.C_below HR0.out HB.out) | (with_reducible refine Kd.C_alloc ?_ _) | (with_reducible refine Kd.C_drewN ?_ _) | (with_reducible refine Kd.C_drew ?_))) : p := h
theorem au5_14 {p : Prop} (h : p := by rintro w' ⟨s0, s1, s2, s3, s4⟩; go_simp; with_reducible rfl) : p := h
theorem au5_15 {p : Prop} (h : p := by exact (Reps.one (show Kd.M Kd.string _ _ _ a1 [.string a1] from rfl) (Reps.none _ _))) : p := h
theorem au5_16 {p : Prop} (h : p := by (with_reducible repeat (first | apply Kd.N_alloc | apply Kd.N_drewN | apply Kd.N_drew)); exact Kd.N_mono HO639.out (fun _ hk => hk.1)) : p := h
theorem au5_17 {p : Prop} (h : p := by (with_reducible repeat (first | apply Kd.V_alloc | apply Kd.V_drewN | apply Kd.V_drew)); exact HO650.out) : p := h
theorem au5_18 {p : Prop} (h : p := by first | omega | exact Nat.le_refl _) : p := h

/-! ### F21: function 21 -/
def F21.l0 : Nat → ByteArray → List (S88) → Int → Int → Int → Int → Int → Option ((List (S88)) × Int × Int × Int)
  | 0, _, _, _, _, _, _, _ => none
  | k + 1, x1, x5, x6, x597000, x597001, x597002, x597003 => if x6 < (x1.size : Int) then (if 0 ≤ x6 then (if x6 ≤ (x1.size : Int) then ((F52.f k x597000 x597001 x597002 x597003 (x1.extract (x6 : Int).toNat x1.size)).bind fun bt606 => (if (x5.length : Int) = 200 then (if 7 = 0 then (if x5.length < 3518437208883 then (F21.l0 k x1 (x5 ++ [(⟨(⟨#[]⟩ : ByteArray), ([] : List (S122))⟩ : S88)]) (wrap64 (x6 + 0)) x597000 x597001 x597002 x597003) else (none)) else (some (([] : List (S88)), wrap64 (x6 + 0), (x5.length : Int), 7))) else (if bt606.2.2.2.2 = 0 then (if x5.length < 3518437208883 then (F21.l0 k x1 (x5 ++ [(⟨bt606.1, bt606.2.1⟩ : S88)]) (wrap64 (x6 + bt606.2.2.1)) x597000 x597001 x597002 x597003) else (none)) else (some (([] : List (S88)), wrap64 (x6 + bt606.2.2.2.1), (x5.length : Int), bt606.2.2.2.2))))) else (none)) else (none)) else (some (x5, 0, 0, 0))
def F21.f (k : Nat) (a0_0 : Int) (a0_1 : Int) (a0_2 : Int) (a0_3 : Int) (a1 : ByteArray) : Option ((List (S88)) × Int × Int × Int) := (F51.f k (([a1] : List ByteArray))).bind fun t601 => (if t601 = true then (some (([] : List (S88)), 0, 0, 2)) else ((F46.f k a0_0 a0_1 a0_2 a0_3).bind fun t602 => (if t602 = true then (F21.l0 k a1 (([] : List (S88))) 0 a0_0 a0_1 a0_2 a0_3) else (some (([] : List (S88)), 0, 0, 1)))))
theorem F21.mono_l : ∀ k, (∀ y0 y1 y2 y3 y4 y5 y6, LeO (F21.l0 k y0 y1 y2 y3 y4 y5 y6) (F21.l0 (k + 1) y0 y1 y2 y3 y4 y5 y6))
 | 0 => fun _ _ _ _ _ _ _ r h => by simp [F21.l0] at h
 | k + 1 => by
  have ih0 := F21.mono_l k
  intro y0 y1 y2 y3 y4 y5 y6
  unfold F21.l0
  repeat' with_reducible first | exact ih0 _ _ _ _ _ _ _ | exact F52.mono _ _ _ _ _ _ | exact F46.mono _ _ _ _ _ | exact F51.mono _ _ | exact LeO.refl _ | exact LeO.none _ | refine LeO.ite ?_ ?_ | refine LeO.bind ?_ (fun _ => ?_)
theorem F21.mono : ∀ a0 a1 a2 a3 a4 k, LeO (F21.f k a0 a1 a2 a3 a4) (F21.f (k + 1) a0 a1 a2 a3 a4) := by
 intro a0 a1 a2 a3 a4 k
 have ih0 := F21.mono_l k
 unfold F21.f
 repeat' with_reducible first | exact ih0 _ _ _ _ _ _ _ | exact F52.mono _ _ _ _ _ _ | exact F46.mono _ _ _ _ _ | exact F51.mono _ _ | exact LeO.refl _ | exact LeO.none _ | refine LeO.ite ?_ ?_ | refine LeO.bind ?_ (fun _ => ?_)
def F21.T12 : Bool × List (List Nat × List Nat) := (true, [([], []), ([], []), ([1], [1]), ([2], [2]), ([0, 3], [0, 3]), ([], []), ([], []), ([6], [6]), ([5, 7], [5, 7]), ([4, 4, 0, 1, 2, 3, 4], [0, 4]), ([8, 9, 0, 1, 2, 3, 4, 5, 6, 7, 8, 9], [5, 8])])
def F21.B12 : List Nat := [0, 0, 2, 6, 15, 0, 0, 64, 224, 31, 1023]
theorem F21.tab12 : rtab .any (opsOf Try.f21 12) = F21.T12 := by kernel_rfl
theorem F21.bits12 : waitsOk F21.T12.2 F21.B12 = true := by kernel_rfl
theorem F21.calls (k : Nat) (a0_0 : Int) (a0_1 : Int) (a0_2 : Int) (a0_3 : Int) (a1 : ByteArray) (r1 : List (S88)) (r2 : Int) (r3 : Int) (r4 : Int) (w : World) (h : F21.f k a0_0 a0_1 a0_2 a0_3 a1 = some (r1, r2, r3, r4)) :
  Calls Try.prog 21 #[.agg #[.int .i64 a0_0, .int .i64 a0_1, .int .i64 a0_2, .int .i64 a0_3], .string a1] w fun e w' => ∃ v0_ : Value, e = .returned (.agg #[v0_, .int .i64 r2, .int .i64 r3, .int .i64 r4]) ∧ Kd.R k88 88 w' w.heap.size (fun _ => True) v0_ r1 ∧ Below w.heap.size w w' := by
 have hu45 := Try.underlying45
 have hu51 := Try.underlying51
 have hu94 := Try.underlying94
 have hu88 := Try.underlying88
 have HB := am_ (Below.refl w.heap.size w)
 have H : ((F51.f k (([a1] : List ByteArray))).bind fun t601 => (if t601 = true then (some (([] : List (S88)), 0, 0, 2)) else ((F46.f k a0_0 a0_1 a0_2 a0_3).bind fun t602 => (if t602 = true then (F21.l0 k a1 (([] : List (S88))) 0 a0_0 a0_1 a0_2 a0_3) else (some (([] : List (S88)), 0, 0, 1)))))) = some (r1, r2, r3, r4) := h
 clear h
 obtain ⟨y598, hy598⟩ : ∃ y_ : List ByteArray, y_ = (([a1] : List ByteArray)) := ⟨_, rfl⟩
 replace H : ((F51.f k y598).bind fun t601 => (if t601 = true then (some (([] : List (S88)), 0, 0, 2)) else ((F46.f k a0_0 a0_1 a0_2 a0_3).bind fun t602 => (if t602 = true then (F21.l0 k a1 (([] : List (S88))) 0 a0_0 a0_1 a0_2 a0_3) else (some (([] : List (S88)), 0, 0, 1)))))) = some (r1, r2, r3, r4) := by first | (rw [hy598]; exact H) | exact H
 have Ny598 := am_ hy598
 clear hy598
 replace H := bi_ H; rcases H with ⟨t601, A3, H⟩
 replace H := ib_ H; rcases H with ⟨rfl, H⟩ | ⟨rfl, H⟩
 ·simp only [Option.some.injEq, Prod.mk.injEq] at H
  obtain ⟨rfl, rfl, rfl, rfl⟩ := H
  go_enter Try.func21, Try.ntmps21
  go_wp2_with (first | ((with_reducible refine gate_dst (N := 2) rfl ?_); refine be_ 2 #[.int .i64 a0_0, .int .i64 a0_1, .int .i64 a0_2, .int .i64 a0_3] 45 ?_; intro gb596 hg w5 hbox hb; have BK596 := am_ (hbox); have GW596 := am_ (gw_ hg bl_); have GE596 := GW596; replace HB := hs_ w hb; clear hb hbox hg) | ((with_reducible refine gate_dst (N := 4) rfl ?_); refine be_ 4 #[.slice none 0 0, .int .i64 0, .int .i64 0, .int .i64 0] 51 ?_; intro gb597 hg w6 hbox hb; have BK597 := am_ (hbox); have GW597 := am_ (gw_ hg bl_); have GE597 := GW597; replace HB := hs_ w hb; have NB596_597 := am_ (gn_ hg (blkl_ BK596)); have NB597_596 := am_ (gm_ hg (blkl_ BK596)); replace BK596 := bb_ BK596 hb; clear hb hbox hg) | ((with_reducible refine gate_dst (N := 10) rfl ?_); refine Kd.R_lit Kd.string _ 9 ?hg (N := 10) ?hd (xs := ([a1] : List ByteArray)) (inner := [.string a1]) (ok := fun _ => True) (okp := fun _ => True) ?hr ?hp (fun _ hk => hk) trivial (Below.refl _ _) (Nat.le_refl _) (by simp) ?_; (case hd => rfl); (case hg => rfl); (case hr => exact hr_); (case hp => exact au5_15); intro v599 w7 ho8 hb hg_ hnew_; clear hg_ hnew_; (first | rw [← Ny598.out] at ho8 | (simp only [Int.reduceToNat] at ho8; rw [← Ny598.out] at ho8)); have HO600 := am_ (Kd.R_lower ho8 (below_size bl_)); replace BK596 := bb_ BK596 hb; replace BK597 := bb_ BK597 hb; replace HB := hs_ w hb; clear hb ho8; obtain ⟨Ao9, co9, eo9⟩ := Kd.R_slice HO600.out; subst eo9) | ((with_reducible refine gate_callee (f := 51) rfl ?_); refine gl_ 11 Try.func51 #[.slice Ao9 y598.length co9] ?_ rfl rfl rfl rfl; (with_reducible refine (F51.calls k _ _ y598 true _ ?s1 ?s2 A3.out).mono ?_); (case s1 => exact au5_9); (case s2 => exact (Kd.R_reads' HO600.out).2.1); rintro e w' ⟨rfl, ⟨nd, rfl⟩⟩; refine ⟨_, rfl, ?_⟩; (try (rw [drewN_self w7]; generalize hq_ : World.drewN w7 _ = w7; have n0_ : Aside0 (Kd.R Kd.string 9 w7 w.heap.size (fun _ => True) (.slice Ao9 y598.length co9) y598) := ⟨by rw [← hq_]; exact (rk_ HO600)⟩; have n1_ : Aside0 (w7.heap[gb596]? = some (.cells #[.int .i64 a0_0, .int .i64 a0_1, .int .i64 a0_2, .int .i64 a0_3] 45 (0, 0))) := ⟨by rw [← hq_]; exact (bk_ BK596)⟩; have n2_ : Aside0 (w7.heap[gb597]? = some (.cells #[.slice none 0 0, .int .i64 0, .int .i64 0, .int .i64 0] 51 (0, 0))) := ⟨by rw [← hq_]; exact (bk_ BK597)⟩; have n3_ : Aside0 (Below w.heap.size w w7) := ⟨by rw [← hq_]; exact bl_⟩; clear HO600 BK596 BK597 HB hq_; have HO600 := n0_; have BK596 := n1_; have BK597 := n2_; have HB := n3_; clear n0_ n1_ n2_ n3_)); have hnb10 := NB597_596.out; have hnc10 := NB596_597.out; obtain ⟨hcz11_0, hcz11_1, hcz11_2, hcz11_3, hfz11_0, hfz11_1, hfz11_2, hfz11_3⟩ := cellsF4 BK597.out))
  refine bodyPost_ret (results_cell_row rfl _ _ gb597 51 #[.slice none 0 0, .int .i64 0, .int .i64 0, .int .i64 2] (0, 0) _ rfl (bq_ BK597) Try.underlying51 rfl (by kernel_rfl)) rfl ?_
  exact ⟨_, au5_0, au5_7, bl_⟩
 replace H := bi_ H; rcases H with ⟨t602, A12, H⟩
 replace H := ib_ H; rcases H with ⟨rfl, H⟩ | ⟨rfl, H⟩
 rotate_left
 ·simp only [Option.some.injEq, Prod.mk.injEq] at H
  obtain ⟨rfl, rfl, rfl, rfl⟩ := H
  go_enter Try.func21, Try.ntmps21
  go_wp2_with (first | ((with_reducible refine gate_dst (N := 2) rfl ?_); refine be_ 2 #[.int .i64 a0_0, .int .i64 a0_1, .int .i64 a0_2, .int .i64 a0_3] 45 ?_; intro gb596 hg w102 hbox hb; have BK596 := am_ (hbox); have GW596 := am_ (gw_ hg bl_); have GE596 := GW596; replace HB := hs_ w hb; clear hb hbox hg) | ((with_reducible refine gate_dst (N := 4) rfl ?_); refine be_ 4 #[.slice none 0 0, .int .i64 0, .int .i64 0, .int .i64 0] 51 ?_; intro gb597 hg w103 hbox hb; have BK597 := am_ (hbox); have GW597 := am_ (gw_ hg bl_); have GE597 := GW597; replace HB := hs_ w hb; have NB596_597 := am_ (gn_ hg (blkl_ BK596)); have NB597_596 := am_ (gm_ hg (blkl_ BK596)); replace BK596 := bb_ BK596 hb; clear hb hbox hg) | ((with_reducible refine gate_dst (N := 10) rfl ?_); refine Kd.R_lit Kd.string _ 9 ?hg (N := 10) ?hd (xs := ([a1] : List ByteArray)) (inner := [.string a1]) (ok := fun _ => True) (okp := fun _ => True) ?hr ?hp (fun _ hk => hk) trivial (Below.refl _ _) (Nat.le_refl _) (by simp) ?_; (case hd => rfl); (case hg => rfl); (case hr => exact hr_); (case hp => exact au5_15); intro v599 w104 ho105 hb hg_ hnew_; clear hg_ hnew_; (first | rw [← Ny598.out] at ho105 | (simp only [Int.reduceToNat] at ho105; rw [← Ny598.out] at ho105)); have HO600 := am_ (Kd.R_lower ho105 (below_size bl_)); replace BK596 := bb_ BK596 hb; replace BK597 := bb_ BK597 hb; replace HB := hs_ w hb; clear hb ho105; obtain ⟨Ao106, co106, eo106⟩ := Kd.R_slice HO600.out; subst eo106) | ((with_reducible refine gate_callee (f := 51) rfl ?_); refine gl_ 11 Try.func51 #[.slice Ao106 y598.length co106] ?_ rfl rfl rfl rfl; (with_reducible refine (F51.calls k _ _ y598 false _ ?s1 ?s2 A3.out).mono ?_); (case s1 => exact au5_9); (case s2 => exact (Kd.R_reads' HO600.out).2.1); rintro e w' ⟨rfl, ⟨nd, rfl⟩⟩; refine ⟨_, rfl, ?_⟩; (try (rw [drewN_self w104]; generalize hq_ : World.drewN w104 _ = w104; have n0_ : Aside0 (Kd.R Kd.string 9 w104 w.heap.size (fun _ => True) (.slice Ao106 y598.length co106) y598) := ⟨by rw [← hq_]; exact (rk_ HO600)⟩; have n1_ : Aside0 (w104.heap[gb596]? = some (.cells #[.int .i64 a0_0, .int .i64 a0_1, .int .i64 a0_2, .int .i64 a0_3] 45 (0, 0))) := ⟨by rw [← hq_]; exact (bk_ BK596)⟩; have n2_ : Aside0 (w104.heap[gb597]? = some (.cells #[.slice none 0 0, .int .i64 0, .int .i64 0, .int .i64 0] 51 (0, 0))) := ⟨by rw [← hq_]; exact (bk_ BK597)⟩; have n3_ : Aside0 (Below w.heap.size w w104) := ⟨by rw [← hq_]; exact bl_⟩; clear HO600 BK596 BK597 HB hq_; have HO600 := n0_; have BK596 := n1_; have BK597 := n2_; have HB := n3_; clear n0_ n1_ n2_ n3_)); have hnb107 := NB596_597.out; have hnc107 := NB597_596.out; obtain ⟨hcz108_0, hcz108_1, hcz108_2, hcz108_3, hfz108_0, hfz108_1, hfz108_2, hfz108_3⟩ := cellsF4 BK596.out) | ((with_reducible refine gate_callee (f := 46) rfl ?_); refine gl_ 15 Try.func46 #[.agg #[.int .i64 a0_0, .int .i64 a0_1, .int .i64 a0_2, .int .i64 a0_3]] ?_ rfl rfl rfl rfl; (with_reducible refine (F46.calls k a0_0 a0_1 a0_2 a0_3 false _ A12.out).mono ?_); rintro e w109 ⟨rfl, hb⟩; refine ⟨_, rfl, ?_⟩; replace HO600 := am_ (Kd.R_below (rk_ HO600) hb); replace BK596 := bb_ BK596 hb; replace BK597 := bb_ BK597 hb; replace HB := hs_ w hb; (try clear hb); obtain ⟨hcz110_0, hcz110_1, hcz110_2, hcz110_3, hfz110_0, hfz110_1, hfz110_2, hfz110_3⟩ := cellsF4 BK597.out))
  refine bodyPost_ret (results_cell_row rfl _ _ gb597 51 #[.slice none 0 0, .int .i64 0, .int .i64 0, .int .i64 1] (0, 0) _ rfl (bq_ BK597) Try.underlying51 rfl (by kernel_rfl)) rfl ?_
  exact ⟨_, au5_0, au5_7, bl_⟩

 obtain ⟨y603, hy603⟩ : ∃ y_ : List (S88), y_ = (([] : List (S88))) := ⟨_, rfl⟩
 replace H : (F21.l0 k a1 y603 0 a0_0 a0_1 a0_2 a0_3) = some (r1, r2, r3, r4) := by first | (rw [hy603]; exact H) | exact H
 have Ny603 := am_ hy603
 clear hy603
 have H' := am_ H
 clear H
 go_enter Try.func21, Try.ntmps21
 go_wp2_with (first | ((with_reducible refine gate_dst (N := 2) rfl ?_); refine be_ 2 #[.int .i64 a0_0, .int .i64 a0_1, .int .i64 a0_2, .int .i64 a0_3] 45 ?_; intro gb596 hg w14 hbox hb; have BK596 := am_ (hbox); have GW596 := am_ (gw_ hg bl_); have GE596 := GW596; replace HB := hs_ w hb; clear hb hbox hg) | ((with_reducible refine gate_dst (N := 4) rfl ?_); refine be_ 4 #[.slice none 0 0, .int .i64 0, .int .i64 0, .int .i64 0] 51 ?_; intro gb597 hg w15 hbox hb; have BK597 := am_ (hbox); have GW597 := am_ (gw_ hg bl_); have GE597 := GW597; replace HB := hs_ w hb; have NB596_597 := am_ (gn_ hg (blkl_ BK596)); have NB597_596 := am_ (gm_ hg (blkl_ BK596)); replace BK596 := bb_ BK596 hb; clear hb hbox hg) | ((with_reducible refine gate_dst (N := 10) rfl ?_); refine Kd.R_lit Kd.string _ 9 ?hg (N := 10) ?hd (xs := ([a1] : List ByteArray)) (inner := [.string a1]) (ok := fun _ => True) (okp := fun _ => True) ?hr ?hp (fun _ hk => hk) trivial (Below.refl _ _) (Nat.le_refl _) (by simp) ?_; (case hd => rfl); (case hg => rfl); (case hr => exact hr_); (case hp => exact au5_15); intro v599 w16 ho17 hb hg_ hnew_; clear hg_ hnew_; (first | rw [← Ny598.out] at ho17 | (simp only [Int.reduceToNat] at ho17; rw [← Ny598.out] at ho17)); have HO600 := am_ (Kd.R_lower ho17 (below_size bl_)); replace BK596 := bb_ BK596 hb; replace BK597 := bb_ BK597 hb; replace HB := hs_ w hb; clear hb ho17; obtain ⟨Ao18, co18, eo18⟩ := Kd.R_slice HO600.out; subst eo18) | ((with_reducible refine gate_callee (f := 51) rfl ?_); refine gl_ 11 Try.func51 #[.slice Ao18 y598.length co18] ?_ rfl rfl rfl rfl; (with_reducible refine (F51.calls k _ _ y598 false _ ?s1 ?s2 A3.out).mono ?_); (case s1 => exact au5_9); (case s2 => exact (Kd.R_reads' HO600.out).2.1); rintro e w' ⟨rfl, ⟨nd, rfl⟩⟩; refine ⟨_, rfl, ?_⟩; have hnb19 := NB596_597.out; have hnc19 := NB597_596.out; obtain ⟨hcz20_0, hcz20_1, hcz20_2, hcz20_3, hfz20_0, hfz20_1, hfz20_2, hfz20_3⟩ := cellsF4 BK596.out) | ((with_reducible refine gate_callee (f := 46) rfl ?_); refine gl_ 15 Try.func46 #[.agg #[.int .i64 a0_0, .int .i64 a0_1, .int .i64 a0_2, .int .i64 a0_3]] ?_ rfl rfl rfl rfl; (with_reducible refine (F46.calls k a0_0 a0_1 a0_2 a0_3 true _ A12.out).mono ?_); rintro e w21 ⟨rfl, hb⟩; refine ⟨_, rfl, ?_⟩; replace HO600 := am_ (Kd.R_below (rk_ HO600) hb); replace BK596 := bb_ BK596 hb; replace BK597 := bb_ BK597 hb; replace HB := hs_ w hb; (try clear hb)) | ((with_reducible refine gate_dst (N := 18) rfl ?_); refine Kd.R_lit k88 _ 88 ?hg (N := 18) ?hd (xs := ([] : List (S88))) (inner := []) (ok := fun _ => True) (okp := fun _ => True) ?hr ?hp (fun _ hk => hk) trivial (Below.refl _ _) (Nat.le_refl _) (by simp) ?_; (case hd => rfl); (case hg => rfl); (case hr => exact hr_); (case hp => exact (Reps.none _ _)); intro v604 w22 ho23 hb hg_ hnew_; clear hg_ hnew_; (first | rw [← Ny603.out] at ho23 | (simp only [Int.reduceToNat] at ho23; rw [← Ny603.out] at ho23)); have HO605 := am_ (Kd.R_lower (Kd.R_new' ho23 (Kd.R_lt (rk_ HO600))) (below_size bl_)); replace HO600 := am_ (Kd.R_below (rk_ HO600) hb); replace BK596 := bb_ BK596 hb; replace BK597 := bb_ BK597 hb; replace HB := hs_ w hb; clear hb ho23))
 go_loopg [5, 6] k (fun kq v5 v6 w' => ∃ (x5_1 : List (S88)) (x6_1 : Int) (x598001_1 : Int) (x598002_1 : Int) (x598003_1 : Int), v6 = .int .i64 x6_1 ∧ Aside0 (F21.l0 kq a1 x5_1 x6_1 a0_0 a0_1 a0_2 a0_3 = some (r1, r2, r3, r4)) ∧ Aside0 (kq ≤ k) ∧ Aside0 (Kd.R k88 88 w' w.heap.size (fun _ => True) v5 x5_1) ∧ Aside0 (w'.heap[gb596]? = some (.cells #[.int .i64 a0_0, .int .i64 a0_1, .int .i64 a0_2, .int .i64 a0_3] 45 (0, 0))) ∧ Aside0 (w'.heap[gb597]? = some (.cells #[(.slice none 0 0), .int .i64 x598001_1, .int .i64 x598002_1, .int .i64 x598003_1] 51 (0, 0))) ∧ Aside0 (Below w.heap.size w w'))
 case atStart => exact ⟨(y603), (0), (0), (0), (0), er_, H', ⟨Nat.le_refl _⟩, ⟨by (with_reducible repeat (first | apply Kd.R_alloc | apply Kd.R_drewN | apply Kd.R_drew)); exact Kd.R_mono HO605.out (fun _ hk => trivial)⟩, ⟨bk_ BK596⟩, ⟨bk_ BK597⟩, ⟨bl_⟩⟩
 case round =>
  clear H'
  try clear hcz11_0 hcz11_1 hcz11_2 hcz11_3
  try clear hcz20_0 hcz20_1 hcz20_2 hcz20_3
  try clear hfz11_0 hfz11_1 hfz11_2 hfz11_3
  try clear hfz20_0 hfz20_1 hfz20_2 hfz20_3
  obtain ⟨x5_1, x6_1, x598001_1, x598002_1, x598003_1, rfl, HA, HK1, HO_5, BK596, BK597, HB⟩ := hrel
  cases gk with
  | zero => exact absurd HA.out (by simp [F21.l0])
  | succ k1 =>
   have H := HA.out
   clear HA
   simp only [F21.l0] at H
   replace H := it_ H; rcases H with ⟨c24b0, H⟩ | ⟨c24b0, H⟩
   rotate_left
   ·simp only [Option.some.injEq, Prod.mk.injEq] at H
    obtain ⟨rfl, rfl, rfl, rfl⟩ := H
    obtain ⟨Ao99, co99, eo99⟩ := Kd.R_slice HO_5.out
    subst eo99
    have hnb100 := NB597_596.out
    have hnc100 := NB596_597.out
    obtain ⟨hcz101_0, hcz101_1, hcz101_2, hcz101_3, hfz101_0, hfz101_1, hfz101_2, hfz101_3⟩ := cellsF4 BK597.out
    go_wp2
    refine bodyPost_ret (results_cell_row rfl _ _ gb597 51 #[.slice Ao99 x5_1.length co99, .int .i64 0, .int .i64 0, .int .i64 0] (0, 0) _ rfl (bq_ BK597) Try.underlying51 rfl (by kernel_rfl)) rfl ?_
    exact ⟨_, au5_0, by (with_reducible repeat (first | apply Kd.R_alloc | apply Kd.R_drewN | apply Kd.R_drew)); exact Kd.R_mono (Kd.R_far (p := ⟨gb597, 3, none⟩) (Kd.R_far (p := ⟨gb597, 2, none⟩) (Kd.R_far (p := ⟨gb597, 1, none⟩) (Kd.R_far (p := ⟨gb597, 0, none⟩) (Kd.R_types HO_5.out BK597.out (by decide)) (fun _ hk => hk.2) (.slice Ao99 x5_1.length co99)) (fun _ hk => hk.2) (.int .i64 0)) (fun _ hk => hk.2) (.int .i64 0)) (fun _ hk => hk.2) (.int .i64 0)) (fun _ hk => trivial), bl_⟩
   by_cases c25 : 0 ≤ x6_1
   rotate_left
   ·rw [if_neg c25] at H
    exact absurd H (by simp)
   rw [if_pos c25] at H
   have c25b0 := eq_true c25
   have c25b1 : decide (0 ≤ x6_1) = true := decide_eq_true c25
   clear c25
   by_cases c26 : x6_1 ≤ (a1.size : Int)
   rotate_left
   ·rw [if_neg c26] at H
    exact absurd H (by simp)
   rw [if_pos c26] at H
   have c26b0 := eq_true c26
   have c26b1 : decide (x6_1 ≤ (a1.size : Int)) = true := decide_eq_true c26
   clear c26
   replace H := bi_ H; rcases H with ⟨⟨t606, t607, t610, t611, t612⟩, A27, H⟩
   by_cases c28 : (x5_1.length : Int) = 200
   ·rw [if_pos c28] at H
    have c28b0 : ((x5_1.length : Int) == 200) = true := beq_iff_eq.mpr c28
    have c28b1 : ((x5_1.length : Int) != 200) = false := bne_eq_false_iff_eq.mpr c28
    clear c28
    by_cases c29 : 7 = 0
    ·exact absurd c29 (by decide)
    rw [if_neg c29] at H
    have c29b0 : (7 == 0) = false := beq_eq_false_iff_ne.mpr c29
    have c29b1 : (7 != 0) = true := bne_iff_ne.mpr c29
    simp only [Option.some.injEq, Prod.mk.injEq] at H
    obtain ⟨rfl, rfl, rfl, rfl⟩ := H
    try go_wp2
    replace HO_5 := am_ (Kd.R_drew HO_5.out)
    replace BK596 := bd_ BK596
    replace BK597 := bd_ BK597
    replace HB := am_ (below_drew1 HB.out)
    refine start_ (n := 7) (S := fun w' => w'.cell? ⟨gb596, 0, none⟩ = some (.int .i64 a0_0) ∧ w'.cell? ⟨gb596, 1, none⟩ = some (.int .i64 a0_1) ∧ w'.cell? ⟨gb596, 2, none⟩ = some (.int .i64 a0_2) ∧ w'.cell? ⟨gb596, 3, none⟩ = some (.int .i64 a0_3)) (ds := []) (bs 7 0) (by kernel_rfl) rfl rfl ⟨(blk_cell BK596.out 0).trans rfl, (blk_cell BK596.out 1).trans rfl, (blk_cell BK596.out 2).trans rfl, (blk_cell BK596.out 3).trans rfl⟩ (fun hHeld => ?_)
    generalize wr.drew = w48 at HO_5 BK596 BK597 HB hHeld ⊢
    refine pk_ 1 24 (bs 7 2) ?_ rfl rfl
    refine pk_ 2 25 (bs 7 6) ?_ rfl rfl
    refine pk_ 3 26 (bs 7 14) ?_ rfl rfl
    refine take_ (i := 0) (N := some 23) (v := ?_) (a' := ?_) (bs 7 15) rfl rfl (by kernel_rfl) (fun _ _ _ h => h) (Or.inl ⟨by rfl, ?_⟩) hHeld ?_ ?_
    rotate_left
    ·rintro w' ⟨s0, s1, s2, s3⟩
     go_simp
     with_reducible rfl
    rotate_left
    ·simp only [Act.put, List.setIfInBounds_toArray, List.set_cons_zero, List.set_cons_succ, i64_w, i32_w]
     rfl
    refine join_ (σ := Value × Nat) 1 (bs 7 63) (fun s_ => [(27, .agg #[.string t606, s_.1, .int .i64 t610, .int .i64 t611, .int .i64 t612]), (7, .pointer (some ⟨s_.2, 0, none⟩))]) (fun s_ w' => (w'.cell? ⟨gb596, 0, none⟩ = some (.int .i64 a0_0) ∧ w'.cell? ⟨gb596, 1, none⟩ = some (.int .i64 a0_1) ∧ w'.cell? ⟨gb596, 2, none⟩ = some (.int .i64 a0_2) ∧ w'.cell? ⟨gb596, 3, none⟩ = some (.int .i64 a0_3)) ∧ (Kd.S k122 122 w' w.heap.size (fun _ => True) s_.1 t607) ∧ (Kd.R k88 88 w' w.heap.size (fun k_ => some k_ ≠ (s_.1 : Value).ownBlock) u5 x5_1) ∧ (w'.heap[gb596]? = some (.cells #[.int .i64 a0_0, .int .i64 a0_1, .int .i64 a0_2, .int .i64 a0_3] 45 (0, 0))) ∧ (w'.heap[gb597]? = some (.cells #[.slice none 0 0, .int .i64 x598001_1, .int .i64 x598002_1, .int .i64 x598003_1] 51 (0, 0))) ∧ (w'.heap[s_.2]? = some (.cells #[.string (⟨#[]⟩ : ByteArray), .slice none 0 0, .int .i64 0, .int .i64 0, .int .i64 0] 94 (0, 0))) ∧ (w.heap.size ≤ s_.2) ∧ (w.heap.size ≤ s_.2) ∧ (gb596 ≠ s_.2) ∧ (s_.2 ≠ gb596) ∧ (gb597 ≠ s_.2) ∧ (s_.2 ≠ gb597) ∧ (Below w.heap.size w w')) ?_ ?_
    rotate_left
    ·intro hCont
     refine two_ (i := 4) (j := 5) (Ni := some 27) (Nj := some 7) (bs 7 31) (bs 7 47) rfl rfl rfl rfl (by kernel_rfl) (by decide) (by decide) (fun K hK => ?_) (fun K hK => ?_)
     rotate_left
     ·skip
      refine box_step ?hg (N := 7) ?hd (cs := #[.string (⟨#[]⟩ : ByteArray), .slice none 0 0, .int .i64 0, .int .i64 0, .int .i64 0]) (t := 94) ?hr ?_; (case hd => rfl); (case hg => rfl); (case hr => exact hr_)
      intro gb613 hg w49 hbox hb
      replace HO_5 := am_ (Kd.R_below (rk_ HO_5) hb)
      have BK613 := am_ (hbox)
      have GW613 := am_ (gw_ hg bl_)
      have GE613 := am_ (gw_ hg bl_)
      replace HB := hs_ w hb
      have NB596_613 := am_ (gn_ hg (blkl_ BK596))
      have NB613_596 := am_ (gm_ hg (blkl_ BK596))
      replace BK596 := bb_ BK596 hb
      have NB597_613 := am_ (gn_ hg (blkl_ BK597))
      have NB613_597 := am_ (gm_ hg (blkl_ BK597))
      replace BK597 := bb_ BK597 hb
      clear hb hbox hg
      refine hK.out _ _ ⟨(blk_cell BK596.out 0).trans rfl, (blk_cell BK596.out 1).trans rfl, (blk_cell BK596.out 2).trans rfl, (blk_cell BK596.out 3).trans rfl⟩ (fun hHeld => ?_)
      clear hK K
      refine no_ 7 ?_
      refine one_ (i := 4) (N := some 27) (bs 7 63) rfl rfl (by kernel_rfl) (by decide) (fun K hK => ?_)
      refine gr_ Try.func52 #[.agg #[.int .i64 a0_0, .int .i64 a0_1, .int .i64 a0_2, .int .i64 a0_3], .string (a1.extract (x6_1 : Int).toNat a1.size)] (by rfl) ?_ rfl rfl rfl
      with_reducible refine (F52.calls k1 a0_0 a0_1 a0_2 a0_3 (a1.extract (x6_1 : Int).toNat a1.size) t606 t607 t610 t611 t612 _ A27.out).mono ?_
      rintro e w50 ⟨v608, rfl, ho0, hb⟩
      refine ⟨_, rfl, ?_⟩
      replace HO_5 := am_ (Kd.R_elder' (rk_ HO_5) (Kd.S_base ho0) hb)
      have HO609 := am_ (Kd.S_lower ho0 (below_size bl_))
      replace BK596 := bb_ BK596 hb
      replace BK597 := bb_ BK597 hb
      replace BK613 := bb_ BK613 hb
      replace HB := hs_ w hb
      (try clear hb)
      (try clear hb2)
      (try clear hk)
      (try clear hi)
      (try clear ho0)
      refine hK.out _ _ ⟨(blk_cell BK596.out 0).trans rfl, (blk_cell BK596.out 1).trans rfl, (blk_cell BK596.out 2).trans rfl, (blk_cell BK596.out 3).trans rfl⟩ (fun hHeld => ?_)
      clear hK K
      refine no_ 27 ?_
      exact norm_ au5_5 (hCont (v608, gb613) _ ⟨hHeld, au5_2, au5_3, (bk_ BK596), (bk_ BK597), (bk_ BK613), GW613.out, GE613.out, NB596_613.out, NB613_596.out, NB597_613.out, NB613_597.out, bl_⟩)
     skip
     refine gr_ Try.func52 #[.agg #[.int .i64 a0_0, .int .i64 a0_1, .int .i64 a0_2, .int .i64 a0_3], .string (a1.extract (x6_1 : Int).toNat a1.size)] (by rfl) ?_ rfl rfl rfl
     with_reducible refine (F52.calls k1 a0_0 a0_1 a0_2 a0_3 (a1.extract (x6_1 : Int).toNat a1.size) t606 t607 t610 t611 t612 _ A27.out).mono ?_
     rintro e w49 ⟨v608, rfl, ho0, hb⟩
     refine ⟨_, rfl, ?_⟩
     replace HO_5 := am_ (Kd.R_elder' (rk_ HO_5) (Kd.S_base ho0) hb)
     have HO609 := am_ (Kd.S_lower ho0 (below_size bl_))
     replace BK596 := bb_ BK596 hb
     replace BK597 := bb_ BK597 hb
     replace HB := hs_ w hb
     (try clear hb)
     (try clear hb2)
     (try clear hk)
     (try clear hi)
     (try clear ho0)
     refine hK.out _ _ ⟨(blk_cell BK596.out 0).trans rfl, (blk_cell BK596.out 1).trans rfl, (blk_cell BK596.out 2).trans rfl, (blk_cell BK596.out 3).trans rfl⟩ (fun hHeld => ?_)
     clear hK K
     refine no_ 27 ?_
     refine one_ (i := 5) (N := some 7) (bs 7 63) rfl rfl (by kernel_rfl) (by decide) (fun K hK => ?_)
     refine box_step ?hg (N := 7) ?hd (cs := #[.string (⟨#[]⟩ : ByteArray), .slice none 0 0, .int .i64 0, .int .i64 0, .int .i64 0]) (t := 94) ?hr ?_; (case hd => rfl); (case hg => rfl); (case hr => exact hr_)
     intro gb613 hg w50 hbox hb
     replace HO_5 := am_ (Kd.R_below (rk_ HO_5) hb)
     replace HO609 := am_ (Kd.S_below au5_2 hb)
     have BK613 := am_ (hbox)
     have GW613 := am_ (gw_ hg bl_)
     have GE613 := am_ (gw_ hg bl_)
     replace HB := hs_ w hb
     have NB596_613 := am_ (gn_ hg (blkl_ BK596))
     have NB613_596 := am_ (gm_ hg (blkl_ BK596))
     replace BK596 := bb_ BK596 hb
     have NB597_613 := am_ (gn_ hg (blkl_ BK597))
     have NB613_597 := am_ (gm_ hg (blkl_ BK597))
     replace BK597 := bb_ BK597 hb
     clear hb hbox hg
     refine hK.out _ _ ⟨(blk_cell BK596.out 0).trans rfl, (blk_cell BK596.out 1).trans rfl, (blk_cell BK596.out 2).trans rfl, (blk_cell BK596.out 3).trans rfl⟩ (fun hHeld => ?_)
     clear hK K
     refine no_ 7 ?_
     exact norm_ au5_5 (hCont (v608, gb613) _ ⟨hHeld, au5_2, au5_3, (bk_ BK596), (bk_ BK597), (bk_ BK613), GW613.out, GE613.out, NB596_613.out, NB613_596.out, NB597_613.out, NB613_597.out, bl_⟩)
    rintro ⟨v608, gb613⟩ w51 ⟨hS_, h0_, h1_, h2_, h3_, h4_, h5_, h6_, h7_, h8_, h9_, h10_, h11_⟩
    have n0_ : Aside0 (Kd.S k122 122 w51 w.heap.size (fun _ => True) v608 t607) := ⟨h0_⟩
    have n1_ : Aside0 (Kd.R k88 88 w51 w.heap.size (fun k_ => some k_ ≠ (v608 : Value).ownBlock) u5 x5_1) := ⟨h1_⟩
    have n2_ : Aside0 (w51.heap[gb596]? = some (.cells #[.int .i64 a0_0, .int .i64 a0_1, .int .i64 a0_2, .int .i64 a0_3] 45 (0, 0))) := ⟨h2_⟩
    have n3_ : Aside0 (w51.heap[gb597]? = some (.cells #[.slice none 0 0, .int .i64 x598001_1, .int .i64 x598002_1, .int .i64 x598003_1] 51 (0, 0))) := ⟨h3_⟩
    have n4_ : Aside0 (w51.heap[gb613]? = some (.cells #[.string (⟨#[]⟩ : ByteArray), .slice none 0 0, .int .i64 0, .int .i64 0, .int .i64 0] 94 (0, 0))) := ⟨h4_⟩
    have n5_ : Aside0 (w.heap.size ≤ gb613) := ⟨h5_⟩
    have n6_ : Aside0 (w.heap.size ≤ gb613) := ⟨h6_⟩
    have n7_ : Aside0 (gb596 ≠ gb613) := ⟨h7_⟩
    have n8_ : Aside0 (gb613 ≠ gb596) := ⟨h8_⟩
    have n9_ : Aside0 (gb597 ≠ gb613) := ⟨h9_⟩
    have n10_ : Aside0 (gb613 ≠ gb597) := ⟨h10_⟩
    have n11_ : Aside0 (Below w.heap.size w w51) := ⟨h11_⟩
    clear HO_5
    clear BK596
    clear BK597
    clear HB
    clear h0_ h1_ h2_ h3_ h4_ h5_ h6_ h7_ h8_ h9_ h10_ h11_
    have HO609 := n0_
    have HO_5 := n1_
    have BK596 := n2_
    have BK597 := n3_
    have BK613 := n4_
    have GW613 := n5_
    have GE613 := n6_
    have NB596_613 := n7_
    have NB613_596 := n8_
    have NB597_613 := n9_
    have NB613_597 := n10_
    have HB := n11_
    clear n0_ n1_ n2_ n3_ n4_ n5_ n6_ n7_ n8_ n9_ n10_ n11_
    have hHeld : w51.cell? ⟨gb596, 0, none⟩ = some (.int .i64 a0_0) ∧ w51.cell? ⟨gb596, 1, none⟩ = some (.int .i64 a0_1) ∧ w51.cell? ⟨gb596, 2, none⟩ = some (.int .i64 a0_2) ∧ w51.cell? ⟨gb596, 3, none⟩ = some (.int .i64 a0_3) := hS_
    obtain ⟨Ao53, co53, eo53⟩ := Kd.S_slice HO609.out
    (first | subst eo53 | (injection eo53 with f1_ f2_ f3_; have f4_ := f1_.symm; have f5_ := f3_.symm; clear f1_ f2_ f3_; subst f4_; subst f5_))
    refine norm_ (a' := ?_) ?_ ?_
    rotate_left
    ·simp only [putAll, Act.put, List.setIfInBounds_toArray, List.set_cons_zero, List.set_cons_succ]
     rfl
    refine one_ (i := 6) (N := none) (bs 7 127) rfl rfl (by kernel_rfl) (by decide) (fun K hK => ?_)
    have hs52 : w51.cell? ⟨gb613, 0, none⟩ = some (.string (⟨#[]⟩ : ByteArray)) := (blk_cell BK613.out 0).trans rfl
    have hfs52 := blk_frozen BK613.out 0
    have hns52_0 := NB596_613.out
    have hns52_1 := NB597_613.out
    have hms52_0 := NB613_596.out
    have hms52_1 := NB613_597.out
    have hs54 : w51.cell? ⟨gb613, 1, none⟩ = some (.slice none 0 0) := (blk_cell BK613.out 1).trans rfl
    have hfs54 := blk_frozen BK613.out 1
    have hns54_0 := NB596_613.out
    have hns54_1 := NB597_613.out
    have hms54_0 := NB613_596.out
    have hms54_1 := NB613_597.out
    have hs55 : w51.cell? ⟨gb613, 2, none⟩ = some (.int .i64 0) := (blk_cell BK613.out 2).trans rfl
    have hfs55 := blk_frozen BK613.out 2
    have hns55_0 := NB596_613.out
    have hns55_1 := NB597_613.out
    have hms55_0 := NB613_596.out
    have hms55_1 := NB613_597.out
    have hs56 : w51.cell? ⟨gb613, 3, none⟩ = some (.int .i64 0) := (blk_cell BK613.out 3).trans rfl
    have hfs56 := blk_frozen BK613.out 3
    have hns56_0 := NB596_613.out
    have hns56_1 := NB597_613.out
    have hms56_0 := NB613_596.out
    have hms56_1 := NB613_597.out
    have hs57 : w51.cell? ⟨gb613, 4, none⟩ = some (.int .i64 0) := (blk_cell BK613.out 4).trans rfl
    have hfs57 := blk_frozen BK613.out 4
    have hns57_0 := NB596_613.out
    have hns57_1 := NB597_613.out
    have hms57_0 := NB613_596.out
    have hms57_1 := NB613_597.out
    refine skip_ (w1 := ?_) (by rfl) rfl ?_ ?_
    rotate_left
    ·go_simp
     rfl
    refine hK.out _ _ ⟨((cell_far (p := ⟨gb613, _, none⟩) NB596_613.out _).trans (((cell_far (p := ⟨gb613, _, none⟩) NB596_613.out _).trans (((cell_far (p := ⟨gb613, _, none⟩) NB596_613.out _).trans (((cell_far (p := ⟨gb613, _, none⟩) NB596_613.out _).trans (((cell_far (p := ⟨gb613, _, none⟩) NB596_613.out _).trans (hHeld.1)))))))))), ((cell_far (p := ⟨gb613, _, none⟩) NB596_613.out _).trans (((cell_far (p := ⟨gb613, _, none⟩) NB596_613.out _).trans (((cell_far (p := ⟨gb613, _, none⟩) NB596_613.out _).trans (((cell_far (p := ⟨gb613, _, none⟩) NB596_613.out _).trans (((cell_far (p := ⟨gb613, _, none⟩) NB596_613.out _).trans (hHeld.2.1)))))))))), ((cell_far (p := ⟨gb613, _, none⟩) NB596_613.out _).trans (((cell_far (p := ⟨gb613, _, none⟩) NB596_613.out _).trans (((cell_far (p := ⟨gb613, _, none⟩) NB596_613.out _).trans (((cell_far (p := ⟨gb613, _, none⟩) NB596_613.out _).trans (((cell_far (p := ⟨gb613, _, none⟩) NB596_613.out _).trans (hHeld.2.2.1)))))))))), ((cell_far (p := ⟨gb613, _, none⟩) NB596_613.out _).trans (((cell_far (p := ⟨gb613, _, none⟩) NB596_613.out _).trans (((cell_far (p := ⟨gb613, _, none⟩) NB596_613.out _).trans (((cell_far (p := ⟨gb613, _, none⟩) NB596_613.out _).trans (((cell_far (p := ⟨gb613, _, none⟩) NB596_613.out _).trans (hHeld.2.2.2))))))))))⟩ (fun hHeld => ?_)
    clear hK K
    refine done_ (by kernel_rfl) ?_
    obtain ⟨Ao58, co58, eo58⟩ := Kd.R_slice HO_5.out
    subst eo58
    refine fo_ ?_
    intro w52_ hw52_
    replace BK613 := am_ (show w52_.heap[gb613]? = some (.cells #[.string t606, .slice Ao53 t607.length co53, .int .i64 t610, .int .i64 t611, .int .i64 t612] 94 (0, 0)) from by rw [hw52_]; exact bq_ BK613)
    replace BK596 := fb_ hw52_ BK596
    replace BK597 := fb_ hw52_ BK597
    replace HB := am_ (show Below w.heap.size w w52_ from by rw [hw52_]; exact bl_)
    clear hw52_
    have hnb59 := NB613_596.out
    have hnc59 := NB596_613.out
    have hnb60 := NB613_597.out
    have hnc60 := NB597_613.out
    obtain ⟨hcz61_0, hcz61_1, hcz61_2, hcz61_3, hcz61_4, hfz61_0, hfz61_1, hfz61_2, hfz61_3, hfz61_4⟩ := cellsF5 BK613.out
    have hnb62 := NB597_596.out
    have hnc62 := NB596_597.out
    obtain ⟨hcz63_0, hcz63_1, hcz63_2, hcz63_3, hfz63_0, hfz63_1, hfz63_2, hfz63_3⟩ := cellsF4 BK597.out
    try go_wp2
    refine bodyPost_ret (results_cell_row rfl _ _ gb597 51 #[.slice none 0 0, .int .i64 (wrap64 x6_1), .int .i64 (x5_1.length : Int), .int .i64 7] (0, 0) _ rfl (bq_ BK597) Try.underlying51 rfl (by kernel_rfl)) rfl ?_
    exact ⟨_, au5_0, au5_7, bl_⟩
   rw [if_neg c28] at H
   have c28b0 : ((x5_1.length : Int) == 200) = false := beq_eq_false_iff_ne.mpr c28
   have c28b1 : ((x5_1.length : Int) != 200) = true := bne_iff_ne.mpr c28
   by_cases c64 : t612 = 0
   rotate_left
   ·rw [if_neg c64] at H
    have c64b0 : (t612 == 0) = false := beq_eq_false_iff_ne.mpr c64
    have c64b1 : (t612 != 0) = true := bne_iff_ne.mpr c64
    simp only [Option.some.injEq, Prod.mk.injEq] at H
    obtain ⟨rfl, rfl, rfl, rfl⟩ := H
    try go_wp2
    replace HO_5 := am_ (Kd.R_drew HO_5.out)
    replace BK596 := bd_ BK596
    replace BK597 := bd_ BK597
    replace HB := am_ (below_drew1 HB.out)
    refine start_ (n := 7) (S := fun w' => w'.cell? ⟨gb596, 0, none⟩ = some (.int .i64 a0_0) ∧ w'.cell? ⟨gb596, 1, none⟩ = some (.int .i64 a0_1) ∧ w'.cell? ⟨gb596, 2, none⟩ = some (.int .i64 a0_2) ∧ w'.cell? ⟨gb596, 3, none⟩ = some (.int .i64 a0_3)) (ds := []) (bs 7 0) (by kernel_rfl) rfl rfl ⟨(blk_cell BK596.out 0).trans rfl, (blk_cell BK596.out 1).trans rfl, (blk_cell BK596.out 2).trans rfl, (blk_cell BK596.out 3).trans rfl⟩ (fun hHeld => ?_)
    generalize wr.drew = w83 at HO_5 BK596 BK597 HB hHeld ⊢
    refine pk_ 1 24 (bs 7 2) ?_ rfl rfl
    refine pk_ 2 25 (bs 7 6) ?_ rfl rfl
    refine pk_ 3 26 (bs 7 14) ?_ rfl rfl
    refine take_ (i := 0) (N := some 23) (v := ?_) (a' := ?_) (bs 7 15) rfl rfl (by kernel_rfl) (fun _ _ _ h => h) (Or.inl ⟨by rfl, ?_⟩) hHeld ?_ ?_
    rotate_left
    ·rintro w' ⟨s0, s1, s2, s3⟩
     go_simp
     with_reducible rfl
    rotate_left
    ·simp only [Act.put, List.setIfInBounds_toArray, List.set_cons_zero, List.set_cons_succ, i64_w, i32_w]
     rfl
    refine join_ (σ := Value × Nat) 1 (bs 7 63) (fun s_ => [(27, .agg #[.string t606, s_.1, .int .i64 t610, .int .i64 t611, .int .i64 t612]), (7, .pointer (some ⟨s_.2, 0, none⟩))]) (fun s_ w' => (w'.cell? ⟨gb596, 0, none⟩ = some (.int .i64 a0_0) ∧ w'.cell? ⟨gb596, 1, none⟩ = some (.int .i64 a0_1) ∧ w'.cell? ⟨gb596, 2, none⟩ = some (.int .i64 a0_2) ∧ w'.cell? ⟨gb596, 3, none⟩ = some (.int .i64 a0_3)) ∧ (Kd.S k122 122 w' w.heap.size (fun _ => True) s_.1 t607) ∧ (Kd.R k88 88 w' w.heap.size (fun k_ => some k_ ≠ (s_.1 : Value).ownBlock) u5 x5_1) ∧ (w'.heap[gb596]? = some (.cells #[.int .i64 a0_0, .int .i64 a0_1, .int .i64 a0_2, .int .i64 a0_3] 45 (0, 0))) ∧ (w'.heap[gb597]? = some (.cells #[.slice none 0 0, .int .i64 x598001_1, .int .i64 x598002_1, .int .i64 x598003_1] 51 (0, 0))) ∧ (w'.heap[s_.2]? = some (.cells #[.string (⟨#[]⟩ : ByteArray), .slice none 0 0, .int .i64 0, .int .i64 0, .int .i64 0] 94 (0, 0))) ∧ (w.heap.size ≤ s_.2) ∧ (w.heap.size ≤ s_.2) ∧ (gb596 ≠ s_.2) ∧ (s_.2 ≠ gb596) ∧ (gb597 ≠ s_.2) ∧ (s_.2 ≠ gb597) ∧ (Below w.heap.size w w')) ?_ ?_
    rotate_left
    ·intro hCont
     refine two_ (i := 4) (j := 5) (Ni := some 27) (Nj := some 7) (bs 7 31) (bs 7 47) rfl rfl rfl rfl (by kernel_rfl) (by decide) (by decide) (fun K hK => ?_) (fun K hK => ?_)
     rotate_left
     ·skip
      refine box_step ?hg (N := 7) ?hd (cs := #[.string (⟨#[]⟩ : ByteArray), .slice none 0 0, .int .i64 0, .int .i64 0, .int .i64 0]) (t := 94) ?hr ?_; (case hd => rfl); (case hg => rfl); (case hr => exact hr_)
      intro gb613 hg w84 hbox hb
      replace HO_5 := am_ (Kd.R_below (rk_ HO_5) hb)
      have BK613 := am_ (hbox)
      have GW613 := am_ (gw_ hg bl_)
      have GE613 := am_ (gw_ hg bl_)
      replace HB := hs_ w hb
      have NB596_613 := am_ (gn_ hg (blkl_ BK596))
      have NB613_596 := am_ (gm_ hg (blkl_ BK596))
      replace BK596 := bb_ BK596 hb
      have NB597_613 := am_ (gn_ hg (blkl_ BK597))
      have NB613_597 := am_ (gm_ hg (blkl_ BK597))
      replace BK597 := bb_ BK597 hb
      clear hb hbox hg
      refine hK.out _ _ ⟨(blk_cell BK596.out 0).trans rfl, (blk_cell BK596.out 1).trans rfl, (blk_cell BK596.out 2).trans rfl, (blk_cell BK596.out 3).trans rfl⟩ (fun hHeld => ?_)
      clear hK K
      refine no_ 7 ?_
      refine one_ (i := 4) (N := some 27) (bs 7 63) rfl rfl (by kernel_rfl) (by decide) (fun K hK => ?_)
      refine gr_ Try.func52 #[.agg #[.int .i64 a0_0, .int .i64 a0_1, .int .i64 a0_2, .int .i64 a0_3], .string (a1.extract (x6_1 : Int).toNat a1.size)] (by rfl) ?_ rfl rfl rfl
      with_reducible refine (F52.calls k1 a0_0 a0_1 a0_2 a0_3 (a1.extract (x6_1 : Int).toNat a1.size) t606 t607 t610 t611 t612 _ A27.out).mono ?_
      rintro e w85 ⟨v608, rfl, ho0, hb⟩
      refine ⟨_, rfl, ?_⟩
      replace HO_5 := am_ (Kd.R_elder' (rk_ HO_5) (Kd.S_base ho0) hb)
      have HO609 := am_ (Kd.S_lower ho0 (below_size bl_))
      replace BK596 := bb_ BK596 hb
      replace BK597 := bb_ BK597 hb
      replace BK613 := bb_ BK613 hb
      replace HB := hs_ w hb
      (try clear hb)
      (try clear hb2)
      (try clear hk)
      (try clear hi)
      (try clear ho0)
      refine hK.out _ _ ⟨(blk_cell BK596.out 0).trans rfl, (blk_cell BK596.out 1).trans rfl, (blk_cell BK596.out 2).trans rfl, (blk_cell BK596.out 3).trans rfl⟩ (fun hHeld => ?_)
      clear hK K
      refine no_ 27 ?_
      exact norm_ au5_5 (hCont (v608, gb613) _ ⟨hHeld, au5_2, au5_3, (bk_ BK596), (bk_ BK597), (bk_ BK613), GW613.out, GE613.out, NB596_613.out, NB613_596.out, NB597_613.out, NB613_597.out, bl_⟩)
     skip
     refine gr_ Try.func52 #[.agg #[.int .i64 a0_0, .int .i64 a0_1, .int .i64 a0_2, .int .i64 a0_3], .string (a1.extract (x6_1 : Int).toNat a1.size)] (by rfl) ?_ rfl rfl rfl
     with_reducible refine (F52.calls k1 a0_0 a0_1 a0_2 a0_3 (a1.extract (x6_1 : Int).toNat a1.size) t606 t607 t610 t611 t612 _ A27.out).mono ?_
     rintro e w84 ⟨v608, rfl, ho0, hb⟩
     refine ⟨_, rfl, ?_⟩
     replace HO_5 := am_ (Kd.R_elder' (rk_ HO_5) (Kd.S_base ho0) hb)
     have HO609 := am_ (Kd.S_lower ho0 (below_size bl_))
     replace BK596 := bb_ BK596 hb
     replace BK597 := bb_ BK597 hb
     replace HB := hs_ w hb
     (try clear hb)
     (try clear hb2)
     (try clear hk)
     (try clear hi)
     (try clear ho0)
     refine hK.out _ _ ⟨(blk_cell BK596.out 0).trans rfl, (blk_cell BK596.out 1).trans rfl, (blk_cell BK596.out 2).trans rfl, (blk_cell BK596.out 3).trans rfl⟩ (fun hHeld => ?_)
     clear hK K
     refine no_ 27 ?_
     refine one_ (i := 5) (N := some 7) (bs 7 63) rfl rfl (by kernel_rfl) (by decide) (fun K hK => ?_)
     refine box_step ?hg (N := 7) ?hd (cs := #[.string (⟨#[]⟩ : ByteArray), .slice none 0 0, .int .i64 0, .int .i64 0, .int .i64 0]) (t := 94) ?hr ?_; (case hd => rfl); (case hg => rfl); (case hr => exact hr_)
     intro gb613 hg w85 hbox hb
     replace HO_5 := am_ (Kd.R_below (rk_ HO_5) hb)
     replace HO609 := am_ (Kd.S_below au5_2 hb)
     have BK613 := am_ (hbox)
     have GW613 := am_ (gw_ hg bl_)
     have GE613 := am_ (gw_ hg bl_)
     replace HB := hs_ w hb
     have NB596_613 := am_ (gn_ hg (blkl_ BK596))
     have NB613_596 := am_ (gm_ hg (blkl_ BK596))
     replace BK596 := bb_ BK596 hb
     have NB597_613 := am_ (gn_ hg (blkl_ BK597))
     have NB613_597 := am_ (gm_ hg (blkl_ BK597))
     replace BK597 := bb_ BK597 hb
     clear hb hbox hg
     refine hK.out _ _ ⟨(blk_cell BK596.out 0).trans rfl, (blk_cell BK596.out 1).trans rfl, (blk_cell BK596.out 2).trans rfl, (blk_cell BK596.out 3).trans rfl⟩ (fun hHeld => ?_)
     clear hK K
     refine no_ 7 ?_
     exact norm_ au5_5 (hCont (v608, gb613) _ ⟨hHeld, au5_2, au5_3, (bk_ BK596), (bk_ BK597), (bk_ BK613), GW613.out, GE613.out, NB596_613.out, NB613_596.out, NB597_613.out, NB613_597.out, bl_⟩)
    rintro ⟨v608, gb613⟩ w86 ⟨hS_, h0_, h1_, h2_, h3_, h4_, h5_, h6_, h7_, h8_, h9_, h10_, h11_⟩
    have n0_ : Aside0 (Kd.S k122 122 w86 w.heap.size (fun _ => True) v608 t607) := ⟨h0_⟩
    have n1_ : Aside0 (Kd.R k88 88 w86 w.heap.size (fun k_ => some k_ ≠ (v608 : Value).ownBlock) u5 x5_1) := ⟨h1_⟩
    have n2_ : Aside0 (w86.heap[gb596]? = some (.cells #[.int .i64 a0_0, .int .i64 a0_1, .int .i64 a0_2, .int .i64 a0_3] 45 (0, 0))) := ⟨h2_⟩
    have n3_ : Aside0 (w86.heap[gb597]? = some (.cells #[.slice none 0 0, .int .i64 x598001_1, .int .i64 x598002_1, .int .i64 x598003_1] 51 (0, 0))) := ⟨h3_⟩
    have n4_ : Aside0 (w86.heap[gb613]? = some (.cells #[.string (⟨#[]⟩ : ByteArray), .slice none 0 0, .int .i64 0, .int .i64 0, .int .i64 0] 94 (0, 0))) := ⟨h4_⟩
    have n5_ : Aside0 (w.heap.size ≤ gb613) := ⟨h5_⟩
    have n6_ : Aside0 (w.heap.size ≤ gb613) := ⟨h6_⟩
    have n7_ : Aside0 (gb596 ≠ gb613) := ⟨h7_⟩
    have n8_ : Aside0 (gb613 ≠ gb596) := ⟨h8_⟩
    have n9_ : Aside0 (gb597 ≠ gb613) := ⟨h9_⟩
    have n10_ : Aside0 (gb613 ≠ gb597) := ⟨h10_⟩
    have n11_ : Aside0 (Below w.heap.size w w86) := ⟨h11_⟩
    clear HO_5
    clear BK596
    clear BK597
    clear HB
    clear h0_ h1_ h2_ h3_ h4_ h5_ h6_ h7_ h8_ h9_ h10_ h11_
    have HO609 := n0_
    have HO_5 := n1_
    have BK596 := n2_
    have BK597 := n3_
    have BK613 := n4_
    have GW613 := n5_
    have GE613 := n6_
    have NB596_613 := n7_
    have NB613_596 := n8_
    have NB597_613 := n9_
    have NB613_597 := n10_
    have HB := n11_
    clear n0_ n1_ n2_ n3_ n4_ n5_ n6_ n7_ n8_ n9_ n10_ n11_
    have hHeld : w86.cell? ⟨gb596, 0, none⟩ = some (.int .i64 a0_0) ∧ w86.cell? ⟨gb596, 1, none⟩ = some (.int .i64 a0_1) ∧ w86.cell? ⟨gb596, 2, none⟩ = some (.int .i64 a0_2) ∧ w86.cell? ⟨gb596, 3, none⟩ = some (.int .i64 a0_3) := hS_
    obtain ⟨Ao88, co88, eo88⟩ := Kd.S_slice HO609.out
    (first | subst eo88 | (injection eo88 with f1_ f2_ f3_; have f4_ := f1_.symm; have f5_ := f3_.symm; clear f1_ f2_ f3_; subst f4_; subst f5_))
    refine norm_ (a' := ?_) ?_ ?_
    rotate_left
    ·simp only [putAll, Act.put, List.setIfInBounds_toArray, List.set_cons_zero, List.set_cons_succ]
     rfl
    refine one_ (i := 6) (N := none) (bs 7 127) rfl rfl (by kernel_rfl) (by decide) (fun K hK => ?_)
    have hs87 : w86.cell? ⟨gb613, 0, none⟩ = some (.string (⟨#[]⟩ : ByteArray)) := (blk_cell BK613.out 0).trans rfl
    have hfs87 := blk_frozen BK613.out 0
    have hns87_0 := NB596_613.out
    have hns87_1 := NB597_613.out
    have hms87_0 := NB613_596.out
    have hms87_1 := NB613_597.out
    have hs89 : w86.cell? ⟨gb613, 1, none⟩ = some (.slice none 0 0) := (blk_cell BK613.out 1).trans rfl
    have hfs89 := blk_frozen BK613.out 1
    have hns89_0 := NB596_613.out
    have hns89_1 := NB597_613.out
    have hms89_0 := NB613_596.out
    have hms89_1 := NB613_597.out
    have hs90 : w86.cell? ⟨gb613, 2, none⟩ = some (.int .i64 0) := (blk_cell BK613.out 2).trans rfl
    have hfs90 := blk_frozen BK613.out 2
    have hns90_0 := NB596_613.out
    have hns90_1 := NB597_613.out
    have hms90_0 := NB613_596.out
    have hms90_1 := NB613_597.out
    have hs91 : w86.cell? ⟨gb613, 3, none⟩ = some (.int .i64 0) := (blk_cell BK613.out 3).trans rfl
    have hfs91 := blk_frozen BK613.out 3
    have hns91_0 := NB596_613.out
    have hns91_1 := NB597_613.out
    have hms91_0 := NB613_596.out
    have hms91_1 := NB613_597.out
    have hs92 : w86.cell? ⟨gb613, 4, none⟩ = some (.int .i64 0) := (blk_cell BK613.out 4).trans rfl
    have hfs92 := blk_frozen BK613.out 4
    have hns92_0 := NB596_613.out
    have hns92_1 := NB597_613.out
    have hms92_0 := NB613_596.out
    have hms92_1 := NB613_597.out
    refine skip_ (w1 := ?_) (by rfl) rfl ?_ ?_
    rotate_left
    ·go_simp
     rfl
    refine hK.out _ _ ⟨((cell_far (p := ⟨gb613, _, none⟩) NB596_613.out _).trans (((cell_far (p := ⟨gb613, _, none⟩) NB596_613.out _).trans (((cell_far (p := ⟨gb613, _, none⟩) NB596_613.out _).trans (((cell_far (p := ⟨gb613, _, none⟩) NB596_613.out _).trans (((cell_far (p := ⟨gb613, _, none⟩) NB596_613.out _).trans (hHeld.1)))))))))), ((cell_far (p := ⟨gb613, _, none⟩) NB596_613.out _).trans (((cell_far (p := ⟨gb613, _, none⟩) NB596_613.out _).trans (((cell_far (p := ⟨gb613, _, none⟩) NB596_613.out _).trans (((cell_far (p := ⟨gb613, _, none⟩) NB596_613.out _).trans (((cell_far (p := ⟨gb613, _, none⟩) NB596_613.out _).trans (hHeld.2.1)))))))))), ((cell_far (p := ⟨gb613, _, none⟩) NB596_613.out _).trans (((cell_far (p := ⟨gb613, _, none⟩) NB596_613.out _).trans (((cell_far (p := ⟨gb613, _, none⟩) NB596_613.out _).trans (((cell_far (p := ⟨gb613, _, none⟩) NB596_613.out _).trans (((cell_far (p := ⟨gb613, _, none⟩) NB596_613.out _).trans (hHeld.2.2.1)))))))))), ((cell_far (p := ⟨gb613, _, none⟩) NB596_613.out _).trans (((cell_far (p := ⟨gb613, _, none⟩) NB596_613.out _).trans (((cell_far (p := ⟨gb613, _, none⟩) NB596_613.out _).trans (((cell_far (p := ⟨gb613, _, none⟩) NB596_613.out _).trans (((cell_far (p := ⟨gb613, _, none⟩) NB596_613.out _).trans (hHeld.2.2.2))))))))))⟩ (fun hHeld => ?_)
    clear hK K
    refine done_ (by kernel_rfl) ?_
    obtain ⟨Ao93, co93, eo93⟩ := Kd.R_slice HO_5.out
    subst eo93
    have hnb94 := NB613_596.out
    have hnc94 := NB596_613.out
    have hnb95 := NB613_597.out
    have hnc95 := NB597_613.out
    obtain ⟨hcz96_0, hcz96_1, hcz96_2, hcz96_3, hcz96_4, hfz96_0, hfz96_1, hfz96_2, hfz96_3, hfz96_4⟩ := cellsF5 BK613.out
    have hnb97 := NB597_596.out
    have hnc97 := NB596_597.out
    obtain ⟨hcz98_0, hcz98_1, hcz98_2, hcz98_3, hfz98_0, hfz98_1, hfz98_2, hfz98_3⟩ := cellsF4 BK597.out
    try go_wp2
    refine bodyPost_ret (results_cell_row rfl _ _ gb597 51 #[.slice none 0 0, .int .i64 (wrap64 (x6_1 + t611)), .int .i64 (x5_1.length : Int), .int .i64 t612] (0, 0) _ rfl (bq_ BK597) Try.underlying51 rfl (by kernel_rfl)) rfl ?_
    exact ⟨_, au5_0, au5_7, bl_⟩
   rw [if_pos c64] at H
   have c64b0 : (t612 == 0) = true := beq_iff_eq.mpr c64
   have c64b1 : (t612 != 0) = false := bne_eq_false_iff_eq.mpr c64
   clear c64
   replace H := iln_ H; rcases H with ⟨LMc65, H⟩
   obtain ⟨y617, hy617⟩ : ∃ y_ : List (S88), y_ = (x5_1 ++ [(⟨t606, t607⟩ : S88)]) := ⟨_, rfl⟩
   replace H : (F21.l0 k1 a1 y617 (wrap64 (x6_1 + t610)) a0_0 a0_1 a0_2 a0_3) = some (r1, r2, r3, r4) := by first | (rw [hy617]; exact H) | exact H
   have Ny617 := am_ hy617
   clear hy617
   have H' := am_ H
   clear H
   try go_wp2
   replace HO_5 := am_ (Kd.R_drew HO_5.out)
   replace BK596 := bd_ BK596
   replace BK597 := bd_ BK597
   replace HB := am_ (below_drew1 HB.out)
   refine start_ (n := 7) (S := fun w' => w'.cell? ⟨gb596, 0, none⟩ = some (.int .i64 a0_0) ∧ w'.cell? ⟨gb596, 1, none⟩ = some (.int .i64 a0_1) ∧ w'.cell? ⟨gb596, 2, none⟩ = some (.int .i64 a0_2) ∧ w'.cell? ⟨gb596, 3, none⟩ = some (.int .i64 a0_3)) (ds := []) (bs 7 0) (by kernel_rfl) rfl rfl ⟨(blk_cell BK596.out 0).trans rfl, (blk_cell BK596.out 1).trans rfl, (blk_cell BK596.out 2).trans rfl, (blk_cell BK596.out 3).trans rfl⟩ (fun hHeld => ?_)
   generalize wr.drew = w66 at HO_5 BK596 BK597 HB hHeld ⊢
   refine pk_ 1 24 (bs 7 2) ?_ rfl rfl
   refine pk_ 2 25 (bs 7 6) ?_ rfl rfl
   refine pk_ 3 26 (bs 7 14) ?_ rfl rfl
   refine take_ (i := 0) (N := some 23) (v := ?_) (a' := ?_) (bs 7 15) rfl rfl (by kernel_rfl) (fun _ _ _ h => h) (Or.inl ⟨by rfl, ?_⟩) hHeld ?_ ?_
   rotate_left
   ·rintro w' ⟨s0, s1, s2, s3⟩
    go_simp
    with_reducible rfl
   rotate_left
   ·simp only [Act.put, List.setIfInBounds_toArray, List.set_cons_zero, List.set_cons_succ, i64_w, i32_w]
    rfl
   refine join_ (σ := Value × Nat) 1 (bs 7 63) (fun s_ => [(27, .agg #[.string t606, s_.1, .int .i64 t610, .int .i64 t611, .int .i64 t612]), (7, .pointer (some ⟨s_.2, 0, none⟩))]) (fun s_ w' => (w'.cell? ⟨gb596, 0, none⟩ = some (.int .i64 a0_0) ∧ w'.cell? ⟨gb596, 1, none⟩ = some (.int .i64 a0_1) ∧ w'.cell? ⟨gb596, 2, none⟩ = some (.int .i64 a0_2) ∧ w'.cell? ⟨gb596, 3, none⟩ = some (.int .i64 a0_3)) ∧ (Kd.S k122 122 w' w.heap.size (fun _ => True) s_.1 t607) ∧ (Kd.R k88 88 w' w.heap.size (fun k_ => some k_ ≠ (s_.1 : Value).ownBlock) u5 x5_1) ∧ (w'.heap[gb596]? = some (.cells #[.int .i64 a0_0, .int .i64 a0_1, .int .i64 a0_2, .int .i64 a0_3] 45 (0, 0))) ∧ (w'.heap[gb597]? = some (.cells #[.slice none 0 0, .int .i64 x598001_1, .int .i64 x598002_1, .int .i64 x598003_1] 51 (0, 0))) ∧ (w'.heap[s_.2]? = some (.cells #[.string (⟨#[]⟩ : ByteArray), .slice none 0 0, .int .i64 0, .int .i64 0, .int .i64 0] 94 (0, 0))) ∧ (w.heap.size ≤ s_.2) ∧ (w.heap.size ≤ s_.2) ∧ (gb596 ≠ s_.2) ∧ (s_.2 ≠ gb596) ∧ (gb597 ≠ s_.2) ∧ (s_.2 ≠ gb597) ∧ (Below w.heap.size w w')) ?_ ?_
   rotate_left
   ·intro hCont
    refine two_ (i := 4) (j := 5) (Ni := some 27) (Nj := some 7) (bs 7 31) (bs 7 47) rfl rfl rfl rfl (by kernel_rfl) (by decide) (by decide) (fun K hK => ?_) (fun K hK => ?_)
    rotate_left
    ·skip
     refine box_step ?hg (N := 7) ?hd (cs := #[.string (⟨#[]⟩ : ByteArray), .slice none 0 0, .int .i64 0, .int .i64 0, .int .i64 0]) (t := 94) ?hr ?_; (case hd => rfl); (case hg => rfl); (case hr => exact hr_)
     intro gb613 hg w67 hbox hb
     replace HO_5 := am_ (Kd.R_below (rk_ HO_5) hb)
     have BK613 := am_ (hbox)
     have GW613 := am_ (gw_ hg bl_)
     have GE613 := am_ (gw_ hg bl_)
     replace HB := hs_ w hb
     have NB596_613 := am_ (gn_ hg (blkl_ BK596))
     have NB613_596 := am_ (gm_ hg (blkl_ BK596))
     replace BK596 := bb_ BK596 hb
     have NB597_613 := am_ (gn_ hg (blkl_ BK597))
     have NB613_597 := am_ (gm_ hg (blkl_ BK597))
     replace BK597 := bb_ BK597 hb
     clear hb hbox hg
     refine hK.out _ _ ⟨(blk_cell BK596.out 0).trans rfl, (blk_cell BK596.out 1).trans rfl, (blk_cell BK596.out 2).trans rfl, (blk_cell BK596.out 3).trans rfl⟩ (fun hHeld => ?_)
     clear hK K
     refine no_ 7 ?_
     refine one_ (i := 4) (N := some 27) (bs 7 63) rfl rfl (by kernel_rfl) (by decide) (fun K hK => ?_)
     refine gr_ Try.func52 #[.agg #[.int .i64 a0_0, .int .i64 a0_1, .int .i64 a0_2, .int .i64 a0_3], .string (a1.extract (x6_1 : Int).toNat a1.size)] (by rfl) ?_ rfl rfl rfl
     with_reducible refine (F52.calls k1 a0_0 a0_1 a0_2 a0_3 (a1.extract (x6_1 : Int).toNat a1.size) t606 t607 t610 t611 t612 _ A27.out).mono ?_
     rintro e w68 ⟨v608, rfl, ho0, hb⟩
     refine ⟨_, rfl, ?_⟩
     replace HO_5 := am_ (Kd.R_elder' (rk_ HO_5) (Kd.S_base ho0) hb)
     have HO609 := am_ (Kd.S_lower ho0 (below_size bl_))
     replace BK596 := bb_ BK596 hb
     replace BK597 := bb_ BK597 hb
     replace BK613 := bb_ BK613 hb
     replace HB := hs_ w hb
     (try clear hb)
     (try clear hb2)
     (try clear hk)
     (try clear hi)
     (try clear ho0)
     refine hK.out _ _ ⟨(blk_cell BK596.out 0).trans rfl, (blk_cell BK596.out 1).trans rfl, (blk_cell BK596.out 2).trans rfl, (blk_cell BK596.out 3).trans rfl⟩ (fun hHeld => ?_)
     clear hK K
     refine no_ 27 ?_
     exact norm_ au5_5 (hCont (v608, gb613) _ ⟨hHeld, au5_2, au5_3, (bk_ BK596), (bk_ BK597), (bk_ BK613), GW613.out, GE613.out, NB596_613.out, NB613_596.out, NB597_613.out, NB613_597.out, bl_⟩)
    skip
    refine gr_ Try.func52 #[.agg #[.int .i64 a0_0, .int .i64 a0_1, .int .i64 a0_2, .int .i64 a0_3], .string (a1.extract (x6_1 : Int).toNat a1.size)] (by rfl) ?_ rfl rfl rfl
    with_reducible refine (F52.calls k1 a0_0 a0_1 a0_2 a0_3 (a1.extract (x6_1 : Int).toNat a1.size) t606 t607 t610 t611 t612 _ A27.out).mono ?_
    rintro e w67 ⟨v608, rfl, ho0, hb⟩
    refine ⟨_, rfl, ?_⟩
    replace HO_5 := am_ (Kd.R_elder' (rk_ HO_5) (Kd.S_base ho0) hb)
    have HO609 := am_ (Kd.S_lower ho0 (below_size bl_))
    replace BK596 := bb_ BK596 hb
    replace BK597 := bb_ BK597 hb
    replace HB := hs_ w hb
    (try clear hb)
    (try clear hb2)
    (try clear hk)
    (try clear hi)
    (try clear ho0)
    refine hK.out _ _ ⟨(blk_cell BK596.out 0).trans rfl, (blk_cell BK596.out 1).trans rfl, (blk_cell BK596.out 2).trans rfl, (blk_cell BK596.out 3).trans rfl⟩ (fun hHeld => ?_)
    clear hK K
    refine no_ 27 ?_
    refine one_ (i := 5) (N := some 7) (bs 7 63) rfl rfl (by kernel_rfl) (by decide) (fun K hK => ?_)
    refine box_step ?hg (N := 7) ?hd (cs := #[.string (⟨#[]⟩ : ByteArray), .slice none 0 0, .int .i64 0, .int .i64 0, .int .i64 0]) (t := 94) ?hr ?_; (case hd => rfl); (case hg => rfl); (case hr => exact hr_)
    intro gb613 hg w68 hbox hb
    replace HO_5 := am_ (Kd.R_below (rk_ HO_5) hb)
    replace HO609 := am_ (Kd.S_below au5_2 hb)
    have BK613 := am_ (hbox)
    have GW613 := am_ (gw_ hg bl_)
    have GE613 := am_ (gw_ hg bl_)
    replace HB := hs_ w hb
    have NB596_613 := am_ (gn_ hg (blkl_ BK596))
    have NB613_596 := am_ (gm_ hg (blkl_ BK596))
    replace BK596 := bb_ BK596 hb
    have NB597_613 := am_ (gn_ hg (blkl_ BK597))
    have NB613_597 := am_ (gm_ hg (blkl_ BK597))
    replace BK597 := bb_ BK597 hb
    clear hb hbox hg
    refine hK.out _ _ ⟨(blk_cell BK596.out 0).trans rfl, (blk_cell BK596.out 1).trans rfl, (blk_cell BK596.out 2).trans rfl, (blk_cell BK596.out 3).trans rfl⟩ (fun hHeld => ?_)
    clear hK K
    refine no_ 7 ?_
    exact norm_ au5_5 (hCont (v608, gb613) _ ⟨hHeld, au5_2, au5_3, (bk_ BK596), (bk_ BK597), (bk_ BK613), GW613.out, GE613.out, NB596_613.out, NB613_596.out, NB597_613.out, NB613_597.out, bl_⟩)
   rintro ⟨v608, gb613⟩ w69 ⟨hS_, h0_, h1_, h2_, h3_, h4_, h5_, h6_, h7_, h8_, h9_, h10_, h11_⟩
   have n0_ : Aside0 (Kd.S k122 122 w69 w.heap.size (fun _ => True) v608 t607) := ⟨h0_⟩
   have n1_ : Aside0 (Kd.R k88 88 w69 w.heap.size (fun k_ => some k_ ≠ (v608 : Value).ownBlock) u5 x5_1) := ⟨h1_⟩
   have n2_ : Aside0 (w69.heap[gb596]? = some (.cells #[.int .i64 a0_0, .int .i64 a0_1, .int .i64 a0_2, .int .i64 a0_3] 45 (0, 0))) := ⟨h2_⟩
   have n3_ : Aside0 (w69.heap[gb597]? = some (.cells #[.slice none 0 0, .int .i64 x598001_1, .int .i64 x598002_1, .int .i64 x598003_1] 51 (0, 0))) := ⟨h3_⟩
   have n4_ : Aside0 (w69.heap[gb613]? = some (.cells #[.string (⟨#[]⟩ : ByteArray), .slice none 0 0, .int .i64 0, .int .i64 0, .int .i64 0] 94 (0, 0))) := ⟨h4_⟩
   have n5_ : Aside0 (w.heap.size ≤ gb613) := ⟨h5_⟩
   have n6_ : Aside0 (w.heap.size ≤ gb613) := ⟨h6_⟩
   have n7_ : Aside0 (gb596 ≠ gb613) := ⟨h7_⟩
   have n8_ : Aside0 (gb613 ≠ gb596) := ⟨h8_⟩
   have n9_ : Aside0 (gb597 ≠ gb613) := ⟨h9_⟩
   have n10_ : Aside0 (gb613 ≠ gb597) := ⟨h10_⟩
   have n11_ : Aside0 (Below w.heap.size w w69) := ⟨h11_⟩
   clear HO_5
   clear BK596
   clear BK597
   clear HB
   clear h0_ h1_ h2_ h3_ h4_ h5_ h6_ h7_ h8_ h9_ h10_ h11_
   have HO609 := n0_
   have HO_5 := n1_
   have BK596 := n2_
   have BK597 := n3_
   have BK613 := n4_
   have GW613 := n5_
   have GE613 := n6_
   have NB596_613 := n7_
   have NB613_596 := n8_
   have NB597_613 := n9_
   have NB613_597 := n10_
   have HB := n11_
   clear n0_ n1_ n2_ n3_ n4_ n5_ n6_ n7_ n8_ n9_ n10_ n11_
   have hHeld : w69.cell? ⟨gb596, 0, none⟩ = some (.int .i64 a0_0) ∧ w69.cell? ⟨gb596, 1, none⟩ = some (.int .i64 a0_1) ∧ w69.cell? ⟨gb596, 2, none⟩ = some (.int .i64 a0_2) ∧ w69.cell? ⟨gb596, 3, none⟩ = some (.int .i64 a0_3) := hS_
   obtain ⟨Ao71, co71, eo71⟩ := Kd.S_slice HO609.out
   (first | subst eo71 | (injection eo71 with f1_ f2_ f3_; have f4_ := f1_.symm; have f5_ := f3_.symm; clear f1_ f2_ f3_; subst f4_; subst f5_))
   refine norm_ (a' := ?_) ?_ ?_
   rotate_left
   ·simp only [putAll, Act.put, List.setIfInBounds_toArray, List.set_cons_zero, List.set_cons_succ]
    rfl
   refine one_ (i := 6) (N := none) (bs 7 127) rfl rfl (by kernel_rfl) (by decide) (fun K hK => ?_)
   have hs70 : w69.cell? ⟨gb613, 0, none⟩ = some (.string (⟨#[]⟩ : ByteArray)) := (blk_cell BK613.out 0).trans rfl
   have hfs70 := blk_frozen BK613.out 0
   have hns70_0 := NB596_613.out
   have hns70_1 := NB597_613.out
   have hms70_0 := NB613_596.out
   have hms70_1 := NB613_597.out
   have hs72 : w69.cell? ⟨gb613, 1, none⟩ = some (.slice none 0 0) := (blk_cell BK613.out 1).trans rfl
   have hfs72 := blk_frozen BK613.out 1
   have hns72_0 := NB596_613.out
   have hns72_1 := NB597_613.out
   have hms72_0 := NB613_596.out
   have hms72_1 := NB613_597.out
   have hs73 : w69.cell? ⟨gb613, 2, none⟩ = some (.int .i64 0) := (blk_cell BK613.out 2).trans rfl
   have hfs73 := blk_frozen BK613.out 2
   have hns73_0 := NB596_613.out
   have hns73_1 := NB597_613.out
   have hms73_0 := NB613_596.out
   have hms73_1 := NB613_597.out
   have hs74 : w69.cell? ⟨gb613, 3, none⟩ = some (.int .i64 0) := (blk_cell BK613.out 3).trans rfl
   have hfs74 := blk_frozen BK613.out 3
   have hns74_0 := NB596_613.out
   have hns74_1 := NB597_613.out
   have hms74_0 := NB613_596.out
   have hms74_1 := NB613_597.out
   have hs75 : w69.cell? ⟨gb613, 4, none⟩ = some (.int .i64 0) := (blk_cell BK613.out 4).trans rfl
   have hfs75 := blk_frozen BK613.out 4
   have hns75_0 := NB596_613.out
   have hns75_1 := NB597_613.out
   have hms75_0 := NB613_596.out
   have hms75_1 := NB613_597.out
   refine skip_ (w1 := ?_) (by rfl) rfl ?_ ?_
   rotate_left
   ·go_simp
    rfl
   refine hK.out _ _ ⟨((cell_far (p := ⟨gb613, _, none⟩) NB596_613.out _).trans (((cell_far (p := ⟨gb613, _, none⟩) NB596_613.out _).trans (((cell_far (p := ⟨gb613, _, none⟩) NB596_613.out _).trans (((cell_far (p := ⟨gb613, _, none⟩) NB596_613.out _).trans (((cell_far (p := ⟨gb613, _, none⟩) NB596_613.out _).trans (hHeld.1)))))))))), ((cell_far (p := ⟨gb613, _, none⟩) NB596_613.out _).trans (((cell_far (p := ⟨gb613, _, none⟩) NB596_613.out _).trans (((cell_far (p := ⟨gb613, _, none⟩) NB596_613.out _).trans (((cell_far (p := ⟨gb613, _, none⟩) NB596_613.out _).trans (((cell_far (p := ⟨gb613, _, none⟩) NB596_613.out _).trans (hHeld.2.1)))))))))), ((cell_far (p := ⟨gb613, _, none⟩) NB596_613.out _).trans (((cell_far (p := ⟨gb613, _, none⟩) NB596_613.out _).trans (((cell_far (p := ⟨gb613, _, none⟩) NB596_613.out _).trans (((cell_far (p := ⟨gb613, _, none⟩) NB596_613.out _).trans (((cell_far (p := ⟨gb613, _, none⟩) NB596_613.out _).trans (hHeld.2.2.1)))))))))), ((cell_far (p := ⟨gb613, _, none⟩) NB596_613.out _).trans (((cell_far (p := ⟨gb613, _, none⟩) NB596_613.out _).trans (((cell_far (p := ⟨gb613, _, none⟩) NB596_613.out _).trans (((cell_far (p := ⟨gb613, _, none⟩) NB596_613.out _).trans (((cell_far (p := ⟨gb613, _, none⟩) NB596_613.out _).trans (hHeld.2.2.2))))))))))⟩ (fun hHeld => ?_)
   clear hK K
   refine done_ (by kernel_rfl) ?_
   obtain ⟨Ao76, co76, eo76⟩ := Kd.R_slice HO_5.out
   subst eo76
   have hnb77 := NB613_596.out
   have hnc77 := NB596_613.out
   have hnb78 := NB613_597.out
   have hnc78 := NB597_613.out
   obtain ⟨hcz79_0, hcz79_1, hcz79_2, hcz79_3, hcz79_4, hfz79_0, hfz79_1, hfz79_2, hfz79_3, hfz79_4⟩ := cellsF5 BK613.out
   try go_wp2
   have n0_ : Aside0 (Kd.R k88 88 (((((w69.setCell ⟨gb613, 0, none⟩ (.string t606)).setCell ⟨gb613, 1, none⟩ (.slice Ao71 t607.length co71)).setCell ⟨gb613, 2, none⟩ (.int .i64 t610)).setCell ⟨gb613, 3, none⟩ (.int .i64 t611)).setCell ⟨gb613, 4, none⟩ (.int .i64 t612)) w.heap.size (fun k_ => some k_ ≠ (.slice Ao71 t607.length co71 : Value).ownBlock) (.slice Ao76 x5_1.length co76) x5_1) := ⟨by (with_reducible repeat (first | apply Kd.R_alloc | apply Kd.R_drewN | apply Kd.R_drew)); exact Kd.R_mono (Kd.R_far (p := ⟨gb613, 4, none⟩) (Kd.R_far (p := ⟨gb613, 3, none⟩) (Kd.R_far (p := ⟨gb613, 2, none⟩) (Kd.R_far (p := ⟨gb613, 1, none⟩) (Kd.R_far (p := ⟨gb613, 0, none⟩) (Kd.R_types HO_5.out BK613.out (by decide)) (fun _ hk => hk.2) (.string t606)) (fun _ hk => hk.2) (.slice Ao71 t607.length co71)) (fun _ hk => hk.2) (.int .i64 t610)) (fun _ hk => hk.2) (.int .i64 t611)) (fun _ hk => hk.2) (.int .i64 t612)) (fun _ hk => hk.1)⟩
   have n1_ : Aside0 (Kd.S k122 122 (((((w69.setCell ⟨gb613, 0, none⟩ (.string t606)).setCell ⟨gb613, 1, none⟩ (.slice Ao71 t607.length co71)).setCell ⟨gb613, 2, none⟩ (.int .i64 t610)).setCell ⟨gb613, 3, none⟩ (.int .i64 t611)).setCell ⟨gb613, 4, none⟩ (.int .i64 t612)) w.heap.size (fun _ => True) (.slice Ao71 t607.length co71) t607) := ⟨by (with_reducible repeat (first | apply Kd.S_alloc | apply Kd.S_drewN | apply Kd.S_drew)); exact Kd.S_mono (Kd.S_far (p := ⟨gb613, 4, none⟩) (Kd.S_far (p := ⟨gb613, 3, none⟩) (Kd.S_far (p := ⟨gb613, 2, none⟩) (Kd.S_far (p := ⟨gb613, 1, none⟩) (Kd.S_far (p := ⟨gb613, 0, none⟩) (Kd.S_types HO609.out BK613.out (by decide)) (fun _ hk => hk.2) (.string t606)) (fun _ hk => hk.2) (.slice Ao71 t607.length co71)) (fun _ hk => hk.2) (.int .i64 t610)) (fun _ hk => hk.2) (.int .i64 t611)) (fun _ hk => hk.2) (.int .i64 t612)) (fun _ hk => trivial)⟩
   have n2_ : Aside0 ((((((w69.setCell ⟨gb613, 0, none⟩ (.string t606)).setCell ⟨gb613, 1, none⟩ (.slice Ao71 t607.length co71)).setCell ⟨gb613, 2, none⟩ (.int .i64 t610)).setCell ⟨gb613, 3, none⟩ (.int .i64 t611)).setCell ⟨gb613, 4, none⟩ (.int .i64 t612)).heap[gb596]? = some (.cells #[.int .i64 a0_0, .int .i64 a0_1, .int .i64 a0_2, .int .i64 a0_3] 45 (0, 0))) := ⟨bf_ BK596⟩
   have n3_ : Aside0 ((((((w69.setCell ⟨gb613, 0, none⟩ (.string t606)).setCell ⟨gb613, 1, none⟩ (.slice Ao71 t607.length co71)).setCell ⟨gb613, 2, none⟩ (.int .i64 t610)).setCell ⟨gb613, 3, none⟩ (.int .i64 t611)).setCell ⟨gb613, 4, none⟩ (.int .i64 t612)).heap[gb597]? = some (.cells #[.slice none 0 0, .int .i64 x598001_1, .int .i64 x598002_1, .int .i64 x598003_1] 51 (0, 0))) := ⟨bf_ BK597⟩
   have n4_ : Aside0 ((((((w69.setCell ⟨gb613, 0, none⟩ (.string t606)).setCell ⟨gb613, 1, none⟩ (.slice Ao71 t607.length co71)).setCell ⟨gb613, 2, none⟩ (.int .i64 t610)).setCell ⟨gb613, 3, none⟩ (.int .i64 t611)).setCell ⟨gb613, 4, none⟩ (.int .i64 t612)).heap[gb613]? = some (.cells #[.string t606, .slice Ao71 t607.length co71, .int .i64 t610, .int .i64 t611, .int .i64 t612] 94 (0, 0))) := ⟨bq_ BK613⟩
   have n5_ : Aside0 (Below w.heap.size w (((((w69.setCell ⟨gb613, 0, none⟩ (.string t606)).setCell ⟨gb613, 1, none⟩ (.slice Ao71 t607.length co71)).setCell ⟨gb613, 2, none⟩ (.int .i64 t610)).setCell ⟨gb613, 3, none⟩ (.int .i64 t611)).setCell ⟨gb613, 4, none⟩ (.int .i64 t612))) := ⟨bl_⟩
   (try clear HO_5)
   (try clear HO609)
   (try clear BK596)
   (try clear BK597)
   (try clear BK613)
   (try clear HB)
   generalize (((((w69.setCell ⟨gb613, 0, none⟩ (.string t606)).setCell ⟨gb613, 1, none⟩ (.slice Ao71 t607.length co71)).setCell ⟨gb613, 2, none⟩ (.int .i64 t610)).setCell ⟨gb613, 3, none⟩ (.int .i64 t611)).setCell ⟨gb613, 4, none⟩ (.int .i64 t612)) = w80 at n0_ n1_ n2_ n3_ n4_ n5_ ⊢
   have HO_5 := n0_
   have HO609 := n1_
   have BK596 := n2_
   have BK597 := n3_
   have BK613 := n4_
   have HB := n5_
   clear n0_ n1_ n2_ n3_ n4_ n5_
   replace HO_5 := am_ (Kd.R_drew HO_5.out)
   replace HO609 := am_ (Kd.S_drew HO609.out)
   replace BK596 := bd_ BK596
   replace BK597 := bd_ BK597
   replace BK613 := bd_ BK613
   replace HB := am_ (below_drew1 HB.out)
   refine start_ (n := 11) (S := fun w' => w'.cell? ⟨gb613, 0, none⟩ = some (.string t606) ∧ w'.cell? ⟨gb613, 1, none⟩ = some (.slice Ao71 t607.length co71) ∧ w'.cell? ⟨gb613, 2, none⟩ = some (.int .i64 t610) ∧ w'.cell? ⟨gb613, 3, none⟩ = some (.int .i64 t611) ∧ w'.cell? ⟨gb613, 4, none⟩ = some (.int .i64 t612)) (ds := []) (bs 11 0) (by kernel_rfl) rfl rfl ⟨(blk_cell BK613.out 0).trans rfl, (blk_cell BK613.out 1).trans rfl, (blk_cell BK613.out 2).trans rfl, (blk_cell BK613.out 3).trans rfl, (blk_cell BK613.out 4).trans rfl⟩ (fun hHeld => ?_); refine with_tabW F21.tab12 F21.bits12 (fun HT_ HW_ => ?_)
   generalize w80.drew = w81 at HO_5 HO609 BK596 BK597 BK613 HB hHeld ⊢
   refine pu_ 0 44 (bs 11 1) HT_ ?_ rfl rfl
   refine pu_ 1 45 (bs 11 3) HT_ ?_ rfl rfl
   refine pu_ 5 49 (bs 11 35) HT_ ?_ rfl rfl
   refine pu_ 6 50 (bs 11 99) HT_ ?_ rfl rfl
   refine tk_ 2 46 (bs 11 103) HT_ HW_ hHeld au5_14 ?_ rfl rfl
   refine tk_ 7 51 (bs 11 231) HT_ HW_ hHeld au5_14 ?_ rfl rfl
   refine pu_ 8 52 (bs 11 487) HT_ ?_ rfl rfl
   refine one_ (i := 3) (N := some 47) (bs 11 495) rfl rfl (one_of HT_.out (by kernel_rfl)) (by decide) (fun K hK => ?_)
   refine value_ (w1 := ?_) (v := ?_) (by rfl) rfl ?_ ?_
   rotate_left 2
   ·go_simp
    constructor
    ·rfl
    ·rfl
   refine hK.out _ _ ⟨(blk_cell (blk_alloc BK613.out _) 0).trans rfl, (blk_cell (blk_alloc BK613.out _) 1).trans rfl, (blk_cell (blk_alloc BK613.out _) 2).trans rfl, (blk_cell (blk_alloc BK613.out _) 3).trans rfl, (blk_cell (blk_alloc BK613.out _) 4).trans rfl⟩ (fun hHeld => ?_)
   clear hK K
   refine no_ 47 ?_
   refine one_ (i := 4) (N := some 48) (bs 11 511) rfl rfl (one_of HT_.out (by kernel_rfl)) (by decide) (fun K hK => ?_)
   refine Kd.R_append_step k88 (w0 := w) w.heap.size (by rfl) (.tmp 44) (.tmp 47) 46 88 (.agg #[(.string ⟨#[]⟩), (.slice none 0 0)]) 40 rfl Try.underlying46 info88 rfl (by decide) (by omega) (.slice Ao76 x5_1.length co76) x5_1 (⟨t606, t607⟩ : S88) [.string t606, .slice Ao71 t607.length co71] (fun _ => True) (fun k_ => ((fun _ => True)) k_ ∧ some k_ ≠ (.slice Ao76 x5_1.length co76 : Value).ownBlock) rfl rfl ?aP (fun _ hk => hk) ?aF ?aO ?aB ?aS ?aL ?_
   (case aP => exact k88_mkM _ _ _ (⟨t606, t607⟩ : S88) (Kd.R_mono (Kd.R_apart' ((Kd.S_R HO609.out)) (Kd.R_typed HO_5.out) (by decide)) (fun k_ hk => ⟨trivial, hk.2⟩)))
   (case aB => exact bl_)
   (case aF => exact (fun _ _ => trivial))
   (case aO => exact (by (with_reducible repeat (first | apply Kd.R_alloc | apply Kd.R_drewN | apply Kd.R_drew)); exact Kd.R_mono HO_5.out (fun _ hk => trivial)))
   (case aS => exact (below_size bl_))
   (case aL => have := LMc65.out; omega)
   intro v618 w82 ho hb hg hat
   rw [← Ny617.out] at ho
   have n0_ := am_ (bg_ BK596 hg (Kd.R_ne HO_5.out BK596.out (by decide)))
   have n1_ := am_ (bg_ BK597 hg (Kd.R_ne HO_5.out BK597.out (by decide)))
   have n2_ := am_ (bg_ BK613 hg (Kd.R_ne HO_5.out BK613.out (by decide)))
   have n3_ := am_ (hb)
   have n4_ := am_ (ho)
   clear BK596
   clear BK597
   clear BK613
   clear HB
   clear HO_5
   clear HO609
   have BK596 := n0_
   have BK597 := n1_
   have BK613 := n2_
   have HB := n3_
   have HO619 := n4_
   clear n0_ n1_ n2_ n3_ n4_
   clear ho hb hg hat
   refine hK.out _ _ ⟨(blk_cell BK613.out 0).trans rfl, (blk_cell BK613.out 1).trans rfl, (blk_cell BK613.out 2).trans rfl, (blk_cell BK613.out 3).trans rfl, (blk_cell BK613.out 4).trans rfl⟩ (fun hHeld => ?_)
   clear hK K
   refine no_ 48 ?_
   refine pu_ 9 5 (bs 11 1023) HT_ ?_ rfl rfl
   refine pu_ 10 6 (bs 11 2047) HT_ ?_ rfl rfl
   refine done_ (done_of HT_.out (by kernel_rfl)) ?_
   try go_wp2
   go_roundg k1
   case measure => have := HK1.out; omega
   case rel => exact ⟨(y617), (wrap64 (x6_1 + t610)), (x598001_1), (x598002_1), (x598003_1), er_, H', ⟨by have := HK1.out; omega⟩, ⟨rk_ HO619⟩, ⟨bk_ BK596⟩, ⟨bk_ BK597⟩, ⟨bl_⟩⟩
/-! ### F53: function 53 -/
mutual
def F53.j0 : Nat → Bool → ByteArray → List (S122) → ByteArray → List (S122) → Option (Bool)
  | 0, _, _, _, _, _ => none
  | k + 1, x20, x621000, x621001, x622000, x622001 => if x20 = true then (some false) else (F53.l0 k 0 x621000 x621001 x622000 x622001)
def F53.l0 : Nat → Int → ByteArray → List (S122) → ByteArray → List (S122) → Option (Bool)
  | 0, _, _, _, _, _ => none
  | k + 1, x5, x621000, x621001, x622000, x622001 => if x5 < (x621001.length : Int) then (if 0 ≤ x5 then (if x5 < (x622001.length : Int) then (if (((rd_T122 x621001 x5).f0).length : Int) = (((rd_T122 x622001 x5).f0).length : Int) then (F53.l1 k x5 0 x621000 x621001 x622000 x622001) else (some false)) else (none)) else (none)) else (some true)
def F53.l1 : Nat → Int → Int → ByteArray → List (S122) → ByteArray → List (S122) → Option (Bool)
  | 0, _, _, _, _, _, _ => none
  | k + 1, x5, x6, x621000, x621001, x622000, x622001 => if 0 ≤ x5 then (if x5 < (x621001.length : Int) then (if x6 < (((rd_T122 x621001 x5).f0).length : Int) then (if 0 ≤ x6 then (if x5 < (x622001.length : Int) then (if x6 < (((rd_T122 x622001 x5).f0).length : Int) then (if (rdOf ByteArray.empty ((rd_T122 x621001 x5).f0) x6).toList = (rdOf ByteArray.empty ((rd_T122 x622001 x5).f0) x6).toList then (F53.l1 k x5 (wrap64 (x6 + 1)) x621000 x621001 x622000 x622001) else (some false)) else (none)) else (none)) else (none)) else (F53.l0 k (wrap64 (x5 + 1)) x621000 x621001 x622000 x622001)) else (none)) else (none)
end
def F53.f (k : Nat) (a0_0 : ByteArray) (l0_1 : List (S122)) (a1_0 : ByteArray) (l1_1 : List (S122)) : Option (Bool) := if a0_0.toList = a1_0.toList then (F53.j0 k ((l0_1.length : Int) != (l1_1.length : Int)) a0_0 l0_1 a1_0 l1_1) else (F53.j0 k true a0_0 l0_1 a1_0 l1_1)
theorem F53.mono_l : ∀ k, (∀ y0 y1 y2 y3 y4, LeO (F53.j0 k y0 y1 y2 y3 y4) (F53.j0 (k + 1) y0 y1 y2 y3 y4)) ∧ (∀ y0 y1 y2 y3 y4, LeO (F53.l0 k y0 y1 y2 y3 y4) (F53.l0 (k + 1) y0 y1 y2 y3 y4)) ∧ (∀ y0 y1 y2 y3 y4 y5, LeO (F53.l1 k y0 y1 y2 y3 y4 y5) (F53.l1 (k + 1) y0 y1 y2 y3 y4 y5))
 | 0 => ⟨fun _ _ _ _ _ r h => by simp [F53.j0] at h, fun _ _ _ _ _ r h => by simp [F53.l0] at h, fun _ _ _ _ _ _ r h => by simp [F53.l1] at h⟩
 | k + 1 => by
  obtain ⟨ih0, ih1, ih2⟩ := F53.mono_l k
  refine ⟨?_, ?_, ?_⟩
  rotate_left
  ·intro y0 y1 y2 y3 y4
   unfold F53.l0
   repeat' with_reducible first | exact ih0 _ _ _ _ _ | exact ih1 _ _ _ _ _ | exact ih2 _ _ _ _ _ _ | exact LeO.refl _ | exact LeO.none _ | refine LeO.ite ?_ ?_ | refine LeO.bind ?_ (fun _ => ?_)
  ·intro y0 y1 y2 y3 y4 y5
   unfold F53.l1
   repeat' with_reducible first | exact ih0 _ _ _ _ _ | exact ih1 _ _ _ _ _ | exact ih2 _ _ _ _ _ _ | exact LeO.refl _ | exact LeO.none _ | refine LeO.ite ?_ ?_ | refine LeO.bind ?_ (fun _ => ?_)
  intro y0 y1 y2 y3 y4
  unfold F53.j0
  repeat' with_reducible first | exact ih0 _ _ _ _ _ | exact ih1 _ _ _ _ _ | exact ih2 _ _ _ _ _ _ | exact LeO.refl _ | exact LeO.none _ | refine LeO.ite ?_ ?_ | refine LeO.bind ?_ (fun _ => ?_)
theorem F53.mono : ∀ a0 a1 a2 a3 k, LeO (F53.f k a0 a1 a2 a3) (F53.f (k + 1) a0 a1 a2 a3) := by
 intro a0 a1 a2 a3 k
 obtain ⟨ih0, ih1, ih2⟩ := F53.mono_l k
 unfold F53.f
 repeat' with_reducible first | exact ih0 _ _ _ _ _ | exact ih1 _ _ _ _ _ | exact ih2 _ _ _ _ _ _ | exact LeO.refl _ | exact LeO.none _ | refine LeO.ite ?_ ?_ | refine LeO.bind ?_ (fun _ => ?_)
theorem F53.calls (k : Nat) (a0_0 : ByteArray) (A0_1 : Option Addr) (c0_1 : Nat) (l0_1 : List (S122)) (a1_0 : ByteArray) (A1_1 : Option Addr) (c1_1 : Nat) (l1_1 : List (S122)) (r : Bool) (w : World) (hr0_1 : Kd.C k122 w A0_1 l0_1.length l0_1) (hc0_1 : l0_1.length ≤ c0_1) (hr1_1 : Kd.C k122 w A1_1 l1_1.length l1_1) (hc1_1 : l1_1.length ≤ c1_1) (h : F53.f k a0_0 l0_1 a1_0 l1_1 = some r) :
  Calls Try.prog 53 #[.agg #[.string a0_0, .slice A0_1 l0_1.length c0_1], .agg #[.string a1_0, .slice A1_1 l1_1.length c1_1]] w fun e w' => e = .returned (.bool r) ∧ Below w.heap.size w w' := by
 have hu88 := Try.underlying88
 have HR0_1 := am_ hr0_1
 have HC0_1 := am_ hc0_1
 clear hr0_1 hc0_1
 have HR1_1 := am_ hr1_1
 have HC1_1 := am_ hc1_1
 clear hr1_1 hc1_1
 have HB := am_ (Below.refl w.heap.size w)
 have H : (if a0_0.toList = a1_0.toList then (F53.j0 k ((l0_1.length : Int) != (l1_1.length : Int)) a0_0 l0_1 a1_0 l1_1) else (F53.j0 k true a0_0 l0_1 a1_0 l1_1)) = some r := h
 clear h
 have HC3 := am_ H
 clear H
 go_enter Try.func53, Try.ntmps53
 go_upto_region 1 with (first | ((with_reducible refine gate_dst (N := 2) rfl ?_); (try (refine gate_guard (by rfl) ?_; dsimp only)); refine be_ 2 #[.string a0_0, .slice A0_1 l0_1.length c0_1] 88 ?_; intro gb620 hg w4 hbox hb; have BK620 := am_ (hbox); have GW620 := am_ (gw_ hg bl_); have GE620 := GW620; replace HB := hs_ w hb; clear hb hbox hg) | ((with_reducible refine gate_dst (N := 3) rfl ?_); (try (refine gate_guard (by rfl) ?_; dsimp only)); refine be_ 3 #[.string a1_0, .slice A1_1 l1_1.length c1_1] 88 ?_; intro gb621 hg w5 hbox hb; have BK621 := am_ (hbox); have GW621 := am_ (gw_ hg bl_); have GE621 := GW621; replace HB := hs_ w hb; have NB620_621 := am_ (gn_ hg (blkl_ BK620)); have NB621_620 := am_ (gm_ hg (blkl_ BK620)); replace BK620 := bb_ BK620 hb; clear hb hbox hg))
 repeat (go_quiet (first | ((with_reducible refine gate_dst (N := 2) rfl ?_); (try (refine gate_guard (by rfl) ?_; dsimp only)); refine be_ 2 #[.string a0_0, .slice A0_1 l0_1.length c0_1] 88 ?_; intro gb620 hg w4 hbox hb; have BK620 := am_ (hbox); have GW620 := am_ (gw_ hg bl_); have GE620 := GW620; replace HB := hs_ w hb; clear hb hbox hg) | ((with_reducible refine gate_dst (N := 3) rfl ?_); (try (refine gate_guard (by rfl) ?_; dsimp only)); refine be_ 3 #[.string a1_0, .slice A1_1 l1_1.length c1_1] 88 ?_; intro gb621 hg w5 hbox hb; have BK621 := am_ (hbox); have GW621 := am_ (gw_ hg bl_); have GE621 := GW621; replace HB := hs_ w hb; have NB620_621 := am_ (gn_ hg (blkl_ BK620)); have NB621_620 := am_ (gm_ hg (blkl_ BK620)); replace BK620 := bb_ BK620 hb; clear hb hbox hg)); go_upto_region 1 with (first | ((with_reducible refine gate_dst (N := 2) rfl ?_); (try (refine gate_guard (by rfl) ?_; dsimp only)); refine be_ 2 #[.string a0_0, .slice A0_1 l0_1.length c0_1] 88 ?_; intro gb620 hg w4 hbox hb; have BK620 := am_ (hbox); have GW620 := am_ (gw_ hg bl_); have GE620 := GW620; replace HB := hs_ w hb; clear hb hbox hg) | ((with_reducible refine gate_dst (N := 3) rfl ?_); (try (refine gate_guard (by rfl) ?_; dsimp only)); refine be_ 3 #[.string a1_0, .slice A1_1 l1_1.length c1_1] 88 ?_; intro gb621 hg w5 hbox hb; have BK621 := am_ (hbox); have GW621 := am_ (gw_ hg bl_); have GE621 := GW621; replace HB := hs_ w hb; have NB620_621 := am_ (gn_ hg (blkl_ BK620)); have NB621_620 := am_ (gm_ hg (blkl_ BK620)); replace BK620 := bb_ BK620 hb; clear hb hbox hg)))
 (try simp only [Act.put, List.setIfInBounds_toArray, List.set_cons_zero, List.set_cons_succ])
 go_cut [20] (fun v20 wc => ∃ (kq : Nat) (x20_2 : Bool), v20 = .bool x20_2 ∧ Aside0 (F53.j0 kq x20_2 a0_0 l0_1 a1_0 l1_1 = some r) ∧ Aside0 (kq ≤ k) ∧ Aside0 (wc.heap[gb620]? = some (.cells #[.string a0_0, (.slice A0_1 l0_1.length c0_1)] 88 (0, 0))) ∧ Aside0 (wc.heap[gb621]? = some (.cells #[.string a1_0, (.slice A1_1 l1_1.length c1_1)] 88 (0, 0))) ∧ Aside0 (Below w.heap.size w wc))
 case first =>
  have H := HC3.out
  clear HC3
  by_cases c6 : a0_0.toList = a1_0.toList
  rotate_left
  ·rw [if_neg c6] at H
   have c6b0 : (a0_0.toList == a1_0.toList) = false := beq_eq_false_iff_ne.mpr c6
   have c6b1 : (a0_0.toList != a1_0.toList) = true := bne_iff_ne.mpr c6
   (first | rw [c6b0] | (simp only [i64_w, i32_w]; rw [c6b0]) | skip)
   have H' := am_ H
   clear H
   have hnb10 := NB620_621.out
   have hnc10 := NB621_620.out
   obtain ⟨hcz11_0, hcz11_1, hfz11_0, hfz11_1⟩ := cellsF2 BK620.out
   obtain ⟨hcz12_0, hcz12_1, hfz12_0, hfz12_1⟩ := cellsF2 BK621.out
   go_wp2
   repeat (go_quiet (fail); try go_wp2)
   go_meet
   case rel => exact ⟨_, (true), er_, H', ⟨au5_18⟩, ⟨bk_ BK620⟩, ⟨bk_ BK621⟩, ⟨bl_⟩⟩
  rw [if_pos c6] at H
  have c6b0 : (a0_0.toList == a1_0.toList) = true := beq_iff_eq.mpr c6
  have c6b1 : (a0_0.toList != a1_0.toList) = false := bne_eq_false_iff_eq.mpr c6
  clear c6
  (first | rw [c6b0] | (simp only [i64_w, i32_w]; rw [c6b0]) | skip)
  have H' := am_ H
  clear H
  have hnb7 := NB620_621.out
  have hnc7 := NB621_620.out
  obtain ⟨hcz8_0, hcz8_1, hfz8_0, hfz8_1⟩ := cellsF2 BK620.out
  obtain ⟨hcz9_0, hcz9_1, hfz9_0, hfz9_1⟩ := cellsF2 BK621.out
  go_wp2
  repeat (go_quiet (fail); try go_wp2)
  go_meet
  case rel => exact ⟨_, (((l0_1.length : Int) != (l1_1.length : Int))), er_, H', ⟨au5_18⟩, ⟨bk_ BK620⟩, ⟨bk_ BK621⟩, ⟨bl_⟩⟩
 case rest =>
  clear HC3
  try clear c6
  try clear c6b0
  try clear c6b1
  try clear hcz11_0 hcz11_1
  try clear hcz12_0 hcz12_1
  try clear hcz8_0 hcz8_1
  try clear hcz9_0 hcz9_1
  try clear hfz11_0 hfz11_1
  try clear hfz12_0 hfz12_1
  try clear hfz8_0 hfz8_1
  try clear hfz9_0 hfz9_1
  obtain ⟨kq, x20_2, rfl, HA, HJ2, BK620, BK621, HB⟩ := hcut
  cases kq with
  | zero => exact absurd HA.out (by simp [F53.j0])
  | succ kj2 =>
   have H := HA.out
   clear HA
   simp only [F53.j0] at H
   replace H := ib_ H; rcases H with ⟨rfl, H⟩ | ⟨rfl, H⟩
   ·obtain rfl := Option.some.inj H
    go_wp2
    repeat (go_quiet (fail); try go_wp2)
    go_ret
    exact ⟨au5_0, bl_⟩
   have H' := am_ H
   clear H
   go_wp2
   repeat (go_quiet (fail); try go_wp2)
   go_loopg [5] kj2 (fun kq v5 w' => ∃ (x5_2 : Int), v5 = .int .i64 x5_2 ∧ Aside0 (F53.l0 kq x5_2 a0_0 l0_1 a1_0 l1_1 = some r) ∧ Aside0 (kq ≤ kj2) ∧ Aside0 (w'.heap[gb620]? = some (.cells #[.string a0_0, (.slice A0_1 l0_1.length c0_1)] 88 (0, 0))) ∧ Aside0 (w'.heap[gb621]? = some (.cells #[.string a1_0, (.slice A1_1 l1_1.length c1_1)] 88 (0, 0))) ∧ Aside0 (Below w.heap.size w w'))
   case atStart => exact ⟨(0), er_, H', ⟨Nat.le_refl _⟩, ⟨bk_ BK620⟩, ⟨bk_ BK621⟩, ⟨bl_⟩⟩
   case round =>
    clear H'
    try clear c6
    try clear c6b0
    try clear c6b1
    try clear hcz11_0 hcz11_1
    try clear hcz12_0 hcz12_1
    try clear hcz8_0 hcz8_1
    try clear hcz9_0 hcz9_1
    try clear hfz11_0 hfz11_1
    try clear hfz12_0 hfz12_1
    try clear hfz8_0 hfz8_1
    try clear hfz9_0 hfz9_1
    obtain ⟨x5_2, rfl, HA, HK2, BK620, BK621, HB⟩ := hrel
    cases gk with
    | zero => exact absurd HA.out (by simp [F53.l0])
    | succ k2 =>
     have H := HA.out
     clear HA
     simp only [F53.l0] at H
     replace H := it_ H; rcases H with ⟨c14b0, H⟩ | ⟨c14b0, H⟩
     rotate_left
     ·obtain rfl := Option.some.inj H
      have hnb39 := NB620_621.out
      have hnc39 := NB621_620.out
      obtain ⟨hcz40_0, hcz40_1, hfz40_0, hfz40_1⟩ := cellsF2 BK620.out
      go_wp2
      repeat (go_quiet (fail); try go_wp2)
      go_ret
      exact ⟨au5_0, bl_⟩

     replace H := itn_ H; rcases H with ⟨c15b0, H⟩
     replace H := itn_ H; rcases H with ⟨c16b0, H⟩
     by_cases c17 : (((rd_T122 l0_1 x5_2).f0).length : Int) = (((rd_T122 l1_1 x5_2).f0).length : Int)
     rotate_left
     ·rw [if_neg c17] at H
      have c17b0 : ((((rd_T122 l0_1 x5_2).f0).length : Int) == (((rd_T122 l1_1 x5_2).f0).length : Int)) = false := beq_eq_false_iff_ne.mpr c17
      have c17b1 : ((((rd_T122 l0_1 x5_2).f0).length : Int) != (((rd_T122 l1_1 x5_2).f0).length : Int)) = true := bne_iff_ne.mpr c17
      have c17b2 : (((rd_T122 l0_1 x5_2).f0).length == ((rd_T122 l1_1 x5_2).f0).length) = false := by first | simpa using c17 | (simp at c17 ⊢; omega)
      obtain rfl := Option.some.inj H
      have hnb36 := NB620_621.out
      have hnc36 := NB621_620.out
      obtain ⟨hcz37_0, hcz37_1, hfz37_0, hfz37_1⟩ := cellsF2 BK620.out
      have p622 : 0 ≤ (x5_2 : Int) := od_
      have q622 : x5_2 < (l0_1.length : Int) := od_
      obtain ⟨ad622, A622_0, c622_0, e622, hx622_0, hl622_0, hi622_0⟩ := at_T122 HR0_1.out x5_2 p622 q622
      cases e622
      replace hx622_0 := (HB.out.cell (World.block_lt_of_cell? _ _ hx622_0)).trans hx622_0
      have HR622_0 := am_ hi622_0
      have HC622_0 := am_ hl622_0
      clear hi622_0 hl622_0
      replace p622 := eq_true p622
      replace q622 := eq_true q622
      obtain ⟨hcz38_0, hcz38_1, hfz38_0, hfz38_1⟩ := cellsF2 BK621.out
      have p623 : 0 ≤ (x5_2 : Int) := od_
      have q623 : x5_2 < (l1_1.length : Int) := od_
      obtain ⟨ad623, A623_0, c623_0, e623, hx623_0, hl623_0, hi623_0⟩ := at_T122 HR1_1.out x5_2 p623 q623
      cases e623
      replace hx623_0 := (HB.out.cell (World.block_lt_of_cell? _ _ hx623_0)).trans hx623_0
      have HR623_0 := am_ hi623_0
      have HC623_0 := am_ hl623_0
      clear hi623_0 hl623_0
      replace p623 := eq_true p623
      replace q623 := eq_true q623
      go_wp2
      repeat (go_quiet (fail); try go_wp2)
      go_ret
      exact ⟨au5_0, bl_⟩
     rw [if_pos c17] at H
     have c17b0 : ((((rd_T122 l0_1 x5_2).f0).length : Int) == (((rd_T122 l1_1 x5_2).f0).length : Int)) = true := beq_iff_eq.mpr c17
     have c17b1 : ((((rd_T122 l0_1 x5_2).f0).length : Int) != (((rd_T122 l1_1 x5_2).f0).length : Int)) = false := bne_eq_false_iff_eq.mpr c17
     have c17b2 : (((rd_T122 l0_1 x5_2).f0).length == ((rd_T122 l1_1 x5_2).f0).length) = true := by first | simpa using c17 | (simp at c17 ⊢; omega)
     clear c17
     have H' := am_ H
     clear H
     have hnb18 := NB620_621.out
     have hnc18 := NB621_620.out
     obtain ⟨hcz19_0, hcz19_1, hfz19_0, hfz19_1⟩ := cellsF2 BK620.out
     have p622 : 0 ≤ (x5_2 : Int) := od_
     have q622 : x5_2 < (l0_1.length : Int) := od_
     obtain ⟨ad622, A622_0, c622_0, e622, hx622_0, hl622_0, hi622_0⟩ := at_T122 HR0_1.out x5_2 p622 q622
     cases e622
     replace hx622_0 := (HB.out.cell (World.block_lt_of_cell? _ _ hx622_0)).trans hx622_0
     have HR622_0 := am_ hi622_0
     have HC622_0 := am_ hl622_0
     clear hi622_0 hl622_0
     replace p622 := eq_true p622
     replace q622 := eq_true q622
     obtain ⟨hcz20_0, hcz20_1, hfz20_0, hfz20_1⟩ := cellsF2 BK621.out
     have p623 : 0 ≤ (x5_2 : Int) := od_
     have q623 : x5_2 < (l1_1.length : Int) := od_
     obtain ⟨ad623, A623_0, c623_0, e623, hx623_0, hl623_0, hi623_0⟩ := at_T122 HR1_1.out x5_2 p623 q623
     cases e623
     replace hx623_0 := (HB.out.cell (World.block_lt_of_cell? _ _ hx623_0)).trans hx623_0
     have HR623_0 := am_ hi623_0
     have HC623_0 := am_ hl623_0
     clear hi623_0 hl623_0
     replace p623 := eq_true p623
     replace q623 := eq_true q623
     go_wp2
     repeat (go_quiet (fail); try go_wp2)
     go_loopg [6] k2 (fun kq v6 w' => ∃ (x6_3 : Int), v6 = .int .i64 x6_3 ∧ Aside0 (F53.l1 kq x5_2 x6_3 a0_0 l0_1 a1_0 l1_1 = some r) ∧ Aside0 (kq ≤ k2) ∧ Aside0 (w'.heap[gb620]? = some (.cells #[.string a0_0, (.slice (some ad622) l0_1.length c0_1)] 88 (0, 0))) ∧ Aside0 (w'.heap[gb621]? = some (.cells #[.string a1_0, (.slice (some ad623) l1_1.length c1_1)] 88 (0, 0))) ∧ Aside0 (Below w.heap.size w w'))
     case atStart => exact ⟨(0), er_, H', ⟨Nat.le_refl _⟩, ⟨bk_ BK620⟩, ⟨bk_ BK621⟩, ⟨bl_⟩⟩
     case round =>
      clear H'
      try clear c6
      try clear c6b0
      try clear c6b1
      try clear c14b0
      try clear c15b0
      try clear c16b0
      try clear c17
      try clear c17b0
      try clear c17b1
      try clear c17b2
      try clear hcz11_0 hcz11_1
      try clear hcz12_0 hcz12_1
      try clear hcz19_0 hcz19_1
      try clear hcz20_0 hcz20_1
      try clear hcz8_0 hcz8_1
      try clear hcz9_0 hcz9_1
      try clear hfz11_0 hfz11_1
      try clear hfz12_0 hfz12_1
      try clear hfz19_0 hfz19_1
      try clear hfz20_0 hfz20_1
      try clear hfz8_0 hfz8_1
      try clear hfz9_0 hfz9_1
      try clear hx622_0
      try clear hx623_0
      try clear p622
      try clear p623
      try clear q622
      try clear q623
      obtain ⟨x6_3, rfl, HA, HK3, BK620, BK621, HB⟩ := hrel
      cases gk with
      | zero => exact absurd HA.out (by simp [F53.l1])
      | succ k3 =>
       have H := HA.out
       clear HA
       simp only [F53.l1] at H
       replace H := itn_ H; rcases H with ⟨c21b0, H⟩
       replace H := itn_ H; rcases H with ⟨c22b0, H⟩
       replace H := it_ H; rcases H with ⟨c23b0, H⟩ | ⟨c23b0, H⟩
       rotate_left
       ·have H' := am_ H
        clear H
        have hnb34 := NB620_621.out
        have hnc34 := NB621_620.out
        obtain ⟨hcz35_0, hcz35_1, hfz35_0, hfz35_1⟩ := cellsF2 BK620.out
        have p624 : 0 ≤ (x5_2 : Int) := od_
        have q624 : x5_2 < (l0_1.length : Int) := od_
        obtain ⟨ad624, A624_0, c624_0, e624, hx624_0, hl624_0, hi624_0⟩ := at_T122 HR0_1.out x5_2 p624 q624
        obtain rfl : ad622 = ad624 := (by injection e624)
        replace hx624_0 := (HB.out.cell (World.block_lt_of_cell? _ _ hx624_0)).trans hx624_0
        have HR624_0 := am_ hi624_0
        have HC624_0 := am_ hl624_0
        clear hi624_0 hl624_0
        replace p624 := eq_true p624
        replace q624 := eq_true q624
        go_wp2
        repeat (go_quiet (fail); try go_wp2)
        go_roundg k3
        case measure => have := HJ2.out; have := HK2.out; have := HK3.out; omega
        case rel => exact ⟨(wrap64 (x5_2 + 1)), er_, H', ⟨by have := HJ2.out; have := HK2.out; have := HK3.out; omega⟩, ⟨bk_ BK620⟩, ⟨bk_ BK621⟩, ⟨bl_⟩⟩
       replace H := itn_ H; rcases H with ⟨c24b0, H⟩
       replace H := itn_ H; rcases H with ⟨c25b0, H⟩
       replace H := itn_ H; rcases H with ⟨c26b0, H⟩
       by_cases c27 : (rdOf ByteArray.empty ((rd_T122 l0_1 x5_2).f0) x6_3).toList = (rdOf ByteArray.empty ((rd_T122 l1_1 x5_2).f0) x6_3).toList
       rotate_left
       ·rw [if_neg c27] at H
        have c27b0 : ((rdOf ByteArray.empty ((rd_T122 l0_1 x5_2).f0) x6_3).toList == (rdOf ByteArray.empty ((rd_T122 l1_1 x5_2).f0) x6_3).toList) = false := beq_eq_false_iff_ne.mpr c27
        have c27b1 : ((rdOf ByteArray.empty ((rd_T122 l0_1 x5_2).f0) x6_3).toList != (rdOf ByteArray.empty ((rd_T122 l1_1 x5_2).f0) x6_3).toList) = true := bne_iff_ne.mpr c27
        obtain rfl := Option.some.inj H
        have hnb31 := NB620_621.out
        have hnc31 := NB621_620.out
        obtain ⟨hcz32_0, hcz32_1, hfz32_0, hfz32_1⟩ := cellsF2 BK620.out
        have p624 : 0 ≤ (x5_2 : Int) := od_
        have q624 : x5_2 < (l0_1.length : Int) := od_
        obtain ⟨ad624, A624_0, c624_0, e624, hx624_0, hl624_0, hi624_0⟩ := at_T122 HR0_1.out x5_2 p624 q624
        obtain rfl : ad622 = ad624 := (by injection e624)
        replace hx624_0 := (HB.out.cell (World.block_lt_of_cell? _ _ hx624_0)).trans hx624_0
        have HR624_0 := am_ hi624_0
        have HC624_0 := am_ hl624_0
        clear hi624_0 hl624_0
        replace p624 := eq_true p624
        replace q624 := eq_true q624
        have p625 : 0 ≤ (x5_2 : Int) := od_
        have q625 : x5_2 < (l0_1.length : Int) := od_
        obtain ⟨ad625, A625_0, c625_0, e625, hx625_0, hl625_0, hi625_0⟩ := at_T122 HR0_1.out x5_2 p625 q625
        obtain rfl : ad622 = ad625 := (by injection e625)
        replace hx625_0 := (HB.out.cell (World.block_lt_of_cell? _ _ hx625_0)).trans hx625_0
        have HR625_0 := am_ hi625_0
        have HC625_0 := am_ hl625_0
        clear hi625_0 hl625_0
        replace p625 := eq_true p625
        replace q625 := eq_true q625
        have ea_ := Option.some.inj (hx624_0.symm.trans hx625_0)
        injection ea_ with ea_ en_ ec_
        subst ea_
        subst ec_
        clear en_
        have p626 : 0 ≤ (x6_3 : Int) := od_
        have q626 : x6_3 < (((rd_T122 l0_1 x5_2).f0).length : Int) := od_
        obtain ⟨ad626, e626, hx626_0⟩ := Kd.at_string HR625_0.out x6_3 p626 q626
        cases e626
        replace hx626_0 := (HB.out.cell (World.block_lt_of_cell? _ _ hx626_0)).trans hx626_0
        replace p626 := eq_true p626
        replace q626 := eq_true q626
        obtain ⟨hcz33_0, hcz33_1, hfz33_0, hfz33_1⟩ := cellsF2 BK621.out
        have p627 : 0 ≤ (x5_2 : Int) := od_
        have q627 : x5_2 < (l1_1.length : Int) := od_
        obtain ⟨ad627, A627_0, c627_0, e627, hx627_0, hl627_0, hi627_0⟩ := at_T122 HR1_1.out x5_2 p627 q627
        obtain rfl : ad623 = ad627 := (by injection e627)
        replace hx627_0 := (HB.out.cell (World.block_lt_of_cell? _ _ hx627_0)).trans hx627_0
        have HR627_0 := am_ hi627_0
        have HC627_0 := am_ hl627_0
        clear hi627_0 hl627_0
        replace p627 := eq_true p627
        replace q627 := eq_true q627
        have p628 : 0 ≤ (x6_3 : Int) := od_
        have q628 : x6_3 < (((rd_T122 l1_1 x5_2).f0).length : Int) := od_
        obtain ⟨ad628, e628, hx628_0⟩ := Kd.at_string HR627_0.out x6_3 p628 q628
        cases e628
        replace hx628_0 := (HB.out.cell (World.block_lt_of_cell? _ _ hx628_0)).trans hx628_0
        replace p628 := eq_true p628
        replace q628 := eq_true q628
        go_wp2
        repeat (go_quiet (fail); try go_wp2)
        go_ret
        exact ⟨au5_0, bl_⟩
       rw [if_pos c27] at H
       have c27b0 : ((rdOf ByteArray.empty ((rd_T122 l0_1 x5_2).f0) x6_3).toList == (rdOf ByteArray.empty ((rd_T122 l1_1 x5_2).f0) x6_3).toList) = true := beq_iff_eq.mpr c27
       have c27b1 : ((rdOf ByteArray.empty ((rd_T122 l0_1 x5_2).f0) x6_3).toList != (rdOf ByteArray.empty ((rd_T122 l1_1 x5_2).f0) x6_3).toList) = false := bne_eq_false_iff_eq.mpr c27
       clear c27
       have H' := am_ H
       clear H
       have hnb28 := NB620_621.out
       have hnc28 := NB621_620.out
       obtain ⟨hcz29_0, hcz29_1, hfz29_0, hfz29_1⟩ := cellsF2 BK620.out
       have p624 : 0 ≤ (x5_2 : Int) := od_
       have q624 : x5_2 < (l0_1.length : Int) := od_
       obtain ⟨ad624, A624_0, c624_0, e624, hx624_0, hl624_0, hi624_0⟩ := at_T122 HR0_1.out x5_2 p624 q624
       obtain rfl : ad622 = ad624 := (by injection e624)
       replace hx624_0 := (HB.out.cell (World.block_lt_of_cell? _ _ hx624_0)).trans hx624_0
       have HR624_0 := am_ hi624_0
       have HC624_0 := am_ hl624_0
       clear hi624_0 hl624_0
       replace p624 := eq_true p624
       replace q624 := eq_true q624
       have p625 : 0 ≤ (x5_2 : Int) := od_
       have q625 : x5_2 < (l0_1.length : Int) := od_
       obtain ⟨ad625, A625_0, c625_0, e625, hx625_0, hl625_0, hi625_0⟩ := at_T122 HR0_1.out x5_2 p625 q625
       obtain rfl : ad622 = ad625 := (by injection e625)
       replace hx625_0 := (HB.out.cell (World.block_lt_of_cell? _ _ hx625_0)).trans hx625_0
       have HR625_0 := am_ hi625_0
       have HC625_0 := am_ hl625_0
       clear hi625_0 hl625_0
       replace p625 := eq_true p625
       replace q625 := eq_true q625
       have ea_ := Option.some.inj (hx624_0.symm.trans hx625_0)
       injection ea_ with ea_ en_ ec_
       subst ea_
       subst ec_
       clear en_
       have p626 : 0 ≤ (x6_3 : Int) := od_
       have q626 : x6_3 < (((rd_T122 l0_1 x5_2).f0).length : Int) := od_
       obtain ⟨ad626, e626, hx626_0⟩ := Kd.at_string HR625_0.out x6_3 p626 q626
       cases e626
       replace hx626_0 := (HB.out.cell (World.block_lt_of_cell? _ _ hx626_0)).trans hx626_0
       replace p626 := eq_true p626
       replace q626 := eq_true q626
       obtain ⟨hcz30_0, hcz30_1, hfz30_0, hfz30_1⟩ := cellsF2 BK621.out
       have p627 : 0 ≤ (x5_2 : Int) := od_
       have q627 : x5_2 < (l1_1.length : Int) := od_
       obtain ⟨ad627, A627_0, c627_0, e627, hx627_0, hl627_0, hi627_0⟩ := at_T122 HR1_1.out x5_2 p627 q627
       obtain rfl : ad623 = ad627 := (by injection e627)
       replace hx627_0 := (HB.out.cell (World.block_lt_of_cell? _ _ hx627_0)).trans hx627_0
       have HR627_0 := am_ hi627_0
       have HC627_0 := am_ hl627_0
       clear hi627_0 hl627_0
       replace p627 := eq_true p627
       replace q627 := eq_true q627
       have p628 : 0 ≤ (x6_3 : Int) := od_
       have q628 : x6_3 < (((rd_T122 l1_1 x5_2).f0).length : Int) := od_
       obtain ⟨ad628, e628, hx628_0⟩ := Kd.at_string HR627_0.out x6_3 p628 q628
       cases e628
       replace hx628_0 := (HB.out.cell (World.block_lt_of_cell? _ _ hx628_0)).trans hx628_0
       replace p628 := eq_true p628
       replace q628 := eq_true q628
       go_wp2
       repeat (go_quiet (fail); try go_wp2)
       go_roundg k3
       case measure => have := HJ2.out; have := HK2.out; have := HK3.out; omega
       case rel => exact ⟨(wrap64 (x6_3 + 1)), er_, H', ⟨by have := HJ2.out; have := HK2.out; have := HK3.out; omega⟩, ⟨bk_ BK620⟩, ⟨bk_ BK621⟩, ⟨bl_⟩⟩
/-! ### F22: function 22 -/
def F22.l0 : Nat → List (S88) → List (S88) → Int → Option (Bool)
  | 0, _, _, _ => none
  | k + 1, x0, x1, x5 => if x5 < (x0.length : Int) then (if 0 ≤ x5 then (if x5 < (x1.length : Int) then ((F53.f k ((rd_T88 x0 x5).f0) ((rd_T88 x0 x5).f1) ((rd_T88 x1 x5).f0) ((rd_T88 x1 x5).f1)).bind fun t631 => (if t631 = true then (F22.l0 k x0 x1 (wrap64 (x5 + 1))) else (some false))) else (none)) else (none)) else (some true)
def F22.f (k : Nat) (l0 : List (S88)) (l1 : List (S88)) : Option (Bool) := if (l0.length : Int) = (l1.length : Int) then (F22.l0 k l0 l1 0) else (some false)
theorem F22.mono_l : ∀ k, (∀ y0 y1 y2, LeO (F22.l0 k y0 y1 y2) (F22.l0 (k + 1) y0 y1 y2))
 | 0 => fun _ _ _ r h => by simp [F22.l0] at h
 | k + 1 => by
  have ih0 := F22.mono_l k
  intro y0 y1 y2
  unfold F22.l0
  repeat' with_reducible first | exact ih0 _ _ _ | exact F53.mono _ _ _ _ _ | exact LeO.refl _ | exact LeO.none _ | refine LeO.ite ?_ ?_ | refine LeO.bind ?_ (fun _ => ?_)
theorem F22.mono : ∀ a0 a1 k, LeO (F22.f k a0 a1) (F22.f (k + 1) a0 a1) := by
 intro a0 a1 k
 have ih0 := F22.mono_l k
 unfold F22.f
 repeat' with_reducible first | exact ih0 _ _ _ | exact F53.mono _ _ _ _ _ | exact LeO.refl _ | exact LeO.none _ | refine LeO.ite ?_ ?_ | refine LeO.bind ?_ (fun _ => ?_)
def F22.T6 : Bool × List (List Nat × List Nat) := (true, [([], []), ([], []), ([0, 1], [0, 1]), ([2], [2]), ([], []), ([], []), ([4, 5], [4, 5]), ([6], [6]), ([3, 7], [3, 7]), ([8], [8])])
def F22.B6 : List Nat := [0, 0, 3, 7, 0, 0, 48, 112, 255, 511]
theorem F22.tab6 : rtab .any (opsOf Try.f22 6) = F22.T6 := by kernel_rfl
theorem F22.bits6 : waitsOk F22.T6.2 F22.B6 = true := by kernel_rfl
theorem F22.calls (k : Nat) (A0 : Option Addr) (c0 : Nat) (l0 : List (S88)) (A1 : Option Addr) (c1 : Nat) (l1 : List (S88)) (r : Bool) (w : World) (hr0 : Kd.C k88 w A0 l0.length l0) (hc0 : l0.length ≤ c0) (hr1 : Kd.C k88 w A1 l1.length l1) (hc1 : l1.length ≤ c1) (h : F22.f k l0 l1 = some r) :
  Calls Try.prog 22 #[.slice A0 l0.length c0, .slice A1 l1.length c1] w fun e w' => e = .returned (.bool r) ∧ Below w.heap.size w w' := by
 have hu88 := Try.underlying88
 have HR0 := am_ hr0
 have HC0 := am_ hc0
 clear hr0 hc0
 have HR1 := am_ hr1
 have HC1 := am_ hc1
 clear hr1 hc1
 have HB := am_ (Below.refl w.heap.size w)
 have H : (if (l0.length : Int) = (l1.length : Int) then (F22.l0 k l0 l1 0) else (some false)) = some r := h
 clear h
 by_cases c3 : (l0.length : Int) = (l1.length : Int)
 rotate_left
 ·rw [if_neg c3] at H
  have c3b0 : ((l0.length : Int) == (l1.length : Int)) = false := beq_eq_false_iff_ne.mpr c3
  have c3b1 : ((l0.length : Int) != (l1.length : Int)) = true := bne_iff_ne.mpr c3
  have c3b2 : (l0.length == l1.length) = false := by first | simpa using c3 | (simp at c3 ⊢; omega)
  obtain rfl := Option.some.inj H
  go_enter Try.func22, Try.ntmps22
  go_wp2
  go_ret
  exact ⟨au5_0, bl_⟩

 rw [if_pos c3] at H
 have c3b0 : ((l0.length : Int) == (l1.length : Int)) = true := beq_iff_eq.mpr c3
 have c3b1 : ((l0.length : Int) != (l1.length : Int)) = false := bne_eq_false_iff_eq.mpr c3
 have c3b2 : (l0.length == l1.length) = true := by first | simpa using c3 | (simp at c3 ⊢; omega)
 clear c3
 have H' := am_ H
 clear H
 go_enter Try.func22, Try.ntmps22
 go_wp2
 go_loopg [5] k (fun kq v5 w' => ∃ (x5_1 : Int), v5 = .int .i64 x5_1 ∧ Aside0 (F22.l0 kq l0 l1 x5_1 = some r) ∧ Aside0 (kq ≤ k) ∧ Aside0 (Below w.heap.size w w'))
 case atStart => exact ⟨(0), er_, H', ⟨Nat.le_refl _⟩, ⟨bl_⟩⟩
 case round =>
  clear H'
  try clear c1
  try clear c3
  try clear c3b0
  try clear c3b1
  try clear c3b2
  obtain ⟨x5_1, rfl, HA, HK1, HB⟩ := hrel
  cases gk with
  | zero => exact absurd HA.out (by simp [F22.l0])
  | succ k1 =>
   have H := HA.out
   clear HA
   simp only [F22.l0] at H
   replace H := it_ H; rcases H with ⟨c4b0, H⟩ | ⟨c4b0, H⟩
   rotate_left
   ·obtain rfl := Option.some.inj H
    go_wp2
    go_ret
    exact ⟨au5_0, bl_⟩
   replace H := itn_ H; rcases H with ⟨c5b0, H⟩
   replace H := itn_ H; rcases H with ⟨c6b0, H⟩
   replace H := bi_ H; rcases H with ⟨t631, A7, H⟩
   replace H := ib_ H; rcases H with ⟨rfl, H⟩ | ⟨rfl, H⟩
   rotate_left
   ·obtain rfl := Option.some.inj H
    try go_wp2
    replace HB := am_ (below_drew1 HB.out)
    have p629 : 0 ≤ (x5_1 : Int) := od_
    have q629 : x5_1 < (l0.length : Int) := od_
    obtain ⟨ad629, A629_1, c629_1, e629, hx629_0, hx629_1, hl629_1, hi629_1⟩ := at_T88 HR0.out x5_1 p629 q629
    have hw629_1 := hx629_1
    have hw629_0 := hx629_0
    cases e629
    replace hx629_0 := (HB.out.cell (World.block_lt_of_cell? _ _ hx629_0)).trans hx629_0
    replace hx629_1 := (HB.out.cell (World.block_lt_of_cell? _ _ hx629_1)).trans hx629_1
    have HR629_1 := am_ hi629_1
    have HC629_1 := am_ hl629_1
    clear hi629_1 hl629_1
    replace p629 := eq_true p629
    replace q629 := eq_true q629
    have p630 : 0 ≤ (x5_1 : Int) := od_
    have q630 : x5_1 < (l1.length : Int) := od_
    obtain ⟨ad630, A630_1, c630_1, e630, hx630_0, hx630_1, hl630_1, hi630_1⟩ := at_T88 HR1.out x5_1 p630 q630
    have hw630_1 := hx630_1
    have hw630_0 := hx630_0
    cases e630
    replace hx630_0 := (HB.out.cell (World.block_lt_of_cell? _ _ hx630_0)).trans hx630_0
    replace hx630_1 := (HB.out.cell (World.block_lt_of_cell? _ _ hx630_1)).trans hx630_1
    have HR630_1 := am_ hi630_1
    have HC630_1 := am_ hl630_1
    clear hi630_1 hl630_1
    replace p630 := eq_true p630
    replace q630 := eq_true q630
    refine start_ (n := 10) (S := fun w' => w'.cell? (ad629.add ((x5_1).toNat * 2)) = some (.string ((rd_T88 l0 x5_1).f0)) ∧ w'.cell? ⟨(ad629.add ((x5_1).toNat * 2)).block, (ad629.add ((x5_1).toNat * 2)).off + 1, none⟩ = some (.slice A629_1 ((rd_T88 l0 x5_1).f1).length c629_1) ∧ w'.cell? (ad630.add ((x5_1).toNat * 2)) = some (.string ((rd_T88 l1 x5_1).f0)) ∧ w'.cell? ⟨(ad630.add ((x5_1).toNat * 2)).block, (ad630.add ((x5_1).toNat * 2)).off + 1, none⟩ = some (.slice A630_1 ((rd_T88 l1 x5_1).f1).length c630_1)) (ds := []) (bs 10 0) (by kernel_rfl) rfl rfl ⟨((HB.out.cell (World.block_lt_of_cell? _ _ hw629_0)).trans hw629_0), ((HB.out.cell (World.block_lt_of_cell? _ _ hw629_1)).trans hw629_1), ((HB.out.cell (World.block_lt_of_cell? _ _ hw630_0)).trans hw630_0), ((HB.out.cell (World.block_lt_of_cell? _ _ hw630_1)).trans hw630_1)⟩ (fun hHeld => ?_); refine with_tabW F22.tab6 F22.bits6 (fun HT_ HW_ => ?_)
    generalize wr.drew = w11 at HB HR629_1 HR630_1 hx629_0 hx629_1 hx630_0 hx630_1 hHeld ⊢
    refine pu_ 0 17 (bs 10 1) HT_ ?_ rfl rfl
    refine pu_ 1 18 (bs 10 3) HT_ ?_ rfl rfl
    refine pu_ 2 19 (bs 10 7) HT_ ?_ rfl rfl
    refine pu_ 4 21 (bs 10 23) HT_ ?_ rfl rfl
    refine pu_ 5 22 (bs 10 55) HT_ ?_ rfl rfl
    refine pu_ 6 23 (bs 10 119) HT_ ?_ rfl rfl
    refine tk_ 3 20 (bs 10 127) HT_ HW_ hHeld au5_6 ?_ rfl rfl
    refine tk_ 7 24 (bs 10 255) HT_ HW_ hHeld au5_6 ?_ rfl rfl
    refine one_ (i := 8) (N := some 25) (bs 10 511) rfl rfl (one_of HT_.out (by kernel_rfl)) (by decide) (fun K hK => ?_)
    refine gr_ Try.func53 #[.agg #[.string ((rd_T88 l0 x5_1).f0), .slice A629_1 ((rd_T88 l0 x5_1).f1).length c629_1], .agg #[.string ((rd_T88 l1 x5_1).f0), .slice A630_1 ((rd_T88 l1 x5_1).f1).length c630_1]] (by rfl) ?_ rfl rfl rfl
    with_reducible refine (F53.calls k1 ((rd_T88 l0 x5_1).f0) _ _ ((rd_T88 l0 x5_1).f1) ((rd_T88 l1 x5_1).f0) _ _ ((rd_T88 l1 x5_1).f1) false _ ?s1 ?s2 ?s3 ?s4 A7.out).mono ?_
    (case s1 => exact au5_11)
    (case s2 => exact HC629_1.out)
    (case s3 => exact au5_12)
    (case s4 => exact HC630_1.out)
    rintro e w12 ⟨rfl, hb⟩
    refine ⟨_, rfl, ?_⟩
    replace HB := hs_ w hb
    (try clear hb)
    (try clear hb2)
    (try clear hk)
    (try clear hi)
    refine hK.out _ _ ⟨((HB.out.cell (World.block_lt_of_cell? _ _ hw629_0)).trans hw629_0), ((HB.out.cell (World.block_lt_of_cell? _ _ hw629_1)).trans hw629_1), ((HB.out.cell (World.block_lt_of_cell? _ _ hw630_0)).trans hw630_0), ((HB.out.cell (World.block_lt_of_cell? _ _ hw630_1)).trans hw630_1)⟩ (fun hHeld => ?_)
    clear hK K
    refine no_ 25 ?_
    refine pu_ 9 26 (bs 10 1023) HT_ ?_ rfl rfl
    refine done_ (done_of HT_.out (by kernel_rfl)) ?_
    try go_wp2
    go_ret
    exact ⟨au5_0, bl_⟩
   have H' := am_ H
   clear H
   try go_wp2
   replace HB := am_ (below_drew1 HB.out)
   have p629 : 0 ≤ (x5_1 : Int) := od_
   have q629 : x5_1 < (l0.length : Int) := od_
   obtain ⟨ad629, A629_1, c629_1, e629, hx629_0, hx629_1, hl629_1, hi629_1⟩ := at_T88 HR0.out x5_1 p629 q629
   have hw629_1 := hx629_1
   have hw629_0 := hx629_0
   cases e629
   replace hx629_0 := (HB.out.cell (World.block_lt_of_cell? _ _ hx629_0)).trans hx629_0
   replace hx629_1 := (HB.out.cell (World.block_lt_of_cell? _ _ hx629_1)).trans hx629_1
   have HR629_1 := am_ hi629_1
   have HC629_1 := am_ hl629_1
   clear hi629_1 hl629_1
   replace p629 := eq_true p629
   replace q629 := eq_true q629
   have p630 : 0 ≤ (x5_1 : Int) := od_
   have q630 : x5_1 < (l1.length : Int) := od_
   obtain ⟨ad630, A630_1, c630_1, e630, hx630_0, hx630_1, hl630_1, hi630_1⟩ := at_T88 HR1.out x5_1 p630 q630
   have hw630_1 := hx630_1
   have hw630_0 := hx630_0
   cases e630
   replace hx630_0 := (HB.out.cell (World.block_lt_of_cell? _ _ hx630_0)).trans hx630_0
   replace hx630_1 := (HB.out.cell (World.block_lt_of_cell? _ _ hx630_1)).trans hx630_1
   have HR630_1 := am_ hi630_1
   have HC630_1 := am_ hl630_1
   clear hi630_1 hl630_1
   replace p630 := eq_true p630
   replace q630 := eq_true q630
   refine start_ (n := 10) (S := fun w' => w'.cell? (ad629.add ((x5_1).toNat * 2)) = some (.string ((rd_T88 l0 x5_1).f0)) ∧ w'.cell? ⟨(ad629.add ((x5_1).toNat * 2)).block, (ad629.add ((x5_1).toNat * 2)).off + 1, none⟩ = some (.slice A629_1 ((rd_T88 l0 x5_1).f1).length c629_1) ∧ w'.cell? (ad630.add ((x5_1).toNat * 2)) = some (.string ((rd_T88 l1 x5_1).f0)) ∧ w'.cell? ⟨(ad630.add ((x5_1).toNat * 2)).block, (ad630.add ((x5_1).toNat * 2)).off + 1, none⟩ = some (.slice A630_1 ((rd_T88 l1 x5_1).f1).length c630_1)) (ds := []) (bs 10 0) (by kernel_rfl) rfl rfl ⟨((HB.out.cell (World.block_lt_of_cell? _ _ hw629_0)).trans hw629_0), ((HB.out.cell (World.block_lt_of_cell? _ _ hw629_1)).trans hw629_1), ((HB.out.cell (World.block_lt_of_cell? _ _ hw630_0)).trans hw630_0), ((HB.out.cell (World.block_lt_of_cell? _ _ hw630_1)).trans hw630_1)⟩ (fun hHeld => ?_); refine with_tabW F22.tab6 F22.bits6 (fun HT_ HW_ => ?_)
   generalize wr.drew = w9 at HB HR629_1 HR630_1 hx629_0 hx629_1 hx630_0 hx630_1 hHeld ⊢
   refine pu_ 0 17 (bs 10 1) HT_ ?_ rfl rfl
   refine pu_ 1 18 (bs 10 3) HT_ ?_ rfl rfl
   refine pu_ 2 19 (bs 10 7) HT_ ?_ rfl rfl
   refine pu_ 4 21 (bs 10 23) HT_ ?_ rfl rfl
   refine pu_ 5 22 (bs 10 55) HT_ ?_ rfl rfl
   refine pu_ 6 23 (bs 10 119) HT_ ?_ rfl rfl
   refine tk_ 3 20 (bs 10 127) HT_ HW_ hHeld au5_6 ?_ rfl rfl
   refine tk_ 7 24 (bs 10 255) HT_ HW_ hHeld au5_6 ?_ rfl rfl
   refine one_ (i := 8) (N := some 25) (bs 10 511) rfl rfl (one_of HT_.out (by kernel_rfl)) (by decide) (fun K hK => ?_)
   refine gr_ Try.func53 #[.agg #[.string ((rd_T88 l0 x5_1).f0), .slice A629_1 ((rd_T88 l0 x5_1).f1).length c629_1], .agg #[.string ((rd_T88 l1 x5_1).f0), .slice A630_1 ((rd_T88 l1 x5_1).f1).length c630_1]] (by rfl) ?_ rfl rfl rfl
   with_reducible refine (F53.calls k1 ((rd_T88 l0 x5_1).f0) _ _ ((rd_T88 l0 x5_1).f1) ((rd_T88 l1 x5_1).f0) _ _ ((rd_T88 l1 x5_1).f1) true _ ?s1 ?s2 ?s3 ?s4 A7.out).mono ?_
   (case s1 => exact au5_11)
   (case s2 => exact HC629_1.out)
   (case s3 => exact au5_12)
   (case s4 => exact HC630_1.out)
   rintro e w10 ⟨rfl, hb⟩
   refine ⟨_, rfl, ?_⟩
   replace HB := hs_ w hb
   (try clear hb)
   (try clear hb2)
   (try clear hk)
   (try clear hi)
   refine hK.out _ _ ⟨((HB.out.cell (World.block_lt_of_cell? _ _ hw629_0)).trans hw629_0), ((HB.out.cell (World.block_lt_of_cell? _ _ hw629_1)).trans hw629_1), ((HB.out.cell (World.block_lt_of_cell? _ _ hw630_0)).trans hw630_0), ((HB.out.cell (World.block_lt_of_cell? _ _ hw630_1)).trans hw630_1)⟩ (fun hHeld => ?_)
   clear hK K
   refine no_ 25 ?_
   refine pu_ 9 26 (bs 10 1023) HT_ ?_ rfl rfl
   refine done_ (done_of HT_.out (by kernel_rfl)) ?_
   try go_wp2
   go_roundg k1
   case measure => have := HK1.out; omega
   case rel => exact ⟨(wrap64 (x5_1 + 1)), er_, H', ⟨by have := HK1.out; omega⟩, ⟨bl_⟩⟩
/-! ### F23: function 23 -/
def F23.f (l0 : List Int) (a1 : Int) (a2 : Int) : Option (Int) := if a2 ≤ 1 then (some 0) else (if (l0.length : Int) = 0 then (some 0) else (if 0 ≤ (Int.tmod a1 (l0.length : Int)) then (if (Int.tmod a1 (l0.length : Int)) < (l0.length : Int) then (if a2 = 0 then (none) else (some (Int.tmod (wrap64 (rd l0 (Int.tmod a1 (l0.length : Int)))) a2))) else (none)) else (none)))
theorem F23.calls (A0 : Option Addr) (c0 : Nat) (l0 : List Int) (a1 : Int) (a2 : Int) (r : Int) (w : World) (hr0 : Kd.C (Kd.int .u8) w A0 l0.length l0) (hc0 : l0.length ≤ c0) (h : F23.f l0 a1 a2 = some r) :
  Calls Try.prog 23 #[.slice A0 l0.length c0, .int .i64 a1, .int .i64 a2] w fun e w' => e = .returned (.int .i64 r) ∧ Drawn0 w w' := by
 have HR0 := am_ hr0
 have HC0 := am_ hc0
 clear hr0 hc0
 have H : (if a2 ≤ 1 then (some 0) else (if (l0.length : Int) = 0 then (some 0) else (if 0 ≤ (Int.tmod a1 (l0.length : Int)) then (if (Int.tmod a1 (l0.length : Int)) < (l0.length : Int) then (if a2 = 0 then (none) else (some (Int.tmod (wrap64 (rd l0 (Int.tmod a1 (l0.length : Int)))) a2))) else (none)) else (none)))) = some r := h
 clear h
 replace H := it_ H; rcases H with ⟨c4b0, H⟩ | ⟨c4b0, H⟩
 ·obtain rfl := Option.some.inj H
  go_enter Try.func23, Try.ntmps23
  go_wp2
  go_ret
  exact ⟨er_, dn_⟩
 by_cases c5 : (l0.length : Int) = 0
 ·rw [if_pos c5] at H
  have c5b0 : ((l0.length : Int) == 0) = true := beq_iff_eq.mpr c5
  have c5b1 : ((l0.length : Int) != 0) = false := bne_eq_false_iff_eq.mpr c5
  clear c5
  obtain rfl := Option.some.inj H
  go_enter Try.func23, Try.ntmps23
  go_wp2
  go_ret
  exact ⟨er_, dn_⟩
 rw [if_neg c5] at H
 have c5b0 : ((l0.length : Int) == 0) = false := beq_eq_false_iff_ne.mpr c5
 have c5b1 : ((l0.length : Int) != 0) = true := bne_iff_ne.mpr c5
 have c5b2 : ¬ (l0 = []) := fun h_ => c5 (by rw [h_]; rfl)
 obtain ⟨ji6, hji6⟩ : ∃ j_ : Int, (Int.tmod a1 (l0.length : Int)) = j_ := ⟨_, rfl⟩
 replace H : (if 0 ≤ (ji6) then (if (ji6) < (l0.length : Int) then (if a2 = 0 then (none) else (some (Int.tmod (wrap64 (rd l0 (ji6))) a2))) else (none)) else (none)) = some r := by first | (rw [hji6] at H; exact H) | (simp only [hji6] at H ⊢; exact H)
 by_cases c7 : 0 ≤ (ji6)
 rotate_left
 ·rw [if_neg c7] at H
  exact absurd H (by simp)

 rw [if_pos c7] at H
 have c7b0 : decide (0 ≤ (ji6)) = true := decide_eq_true c7
 clear c7
 replace H := itn_ H; rcases H with ⟨c8b0, H⟩
 by_cases c9 : a2 = 0
 ·rw [if_pos c9] at H
  exact absurd H (by simp)
 rw [if_neg c9] at H
 have c9b0 : (a2 == 0) = false := beq_eq_false_iff_ne.mpr c9
 have c9b1 : (a2 != 0) = true := bne_iff_ne.mpr c9
 obtain rfl := Option.some.inj H
 have p632 : 0 ≤ ((ji6) : Int) := od_
 have q632 : (ji6) < (l0.length : Int) := od_
 obtain ⟨ad632, e632, hx632_0⟩ := Kd.at_int HR0.out (ji6) p632 q632
 cases e632
 replace p632 := eq_true p632
 replace q632 := eq_true q632
 go_enter Try.func23, Try.ntmps23
 go_wp2
 go_ret
 exact ⟨by first | rfl | (simp; done) | (simp only [← hji6] <;> (first | rfl | simp)) | (simp [*]; done), dn_⟩
/-! ### F6: function 6 -/
mutual
def F6.j0 : Nat → List Int → List Int → Bool → Option (Bool)
  | 0, _, _, _ => none
  | k + 1, x0, x1, x18 => if x18 = true then (some true) else ((F18.f k x0).bind fun bt633 => ((F19.f k bt633.1 bt633.2.1 bt633.2.2.1 bt633.2.2.2.1 bt633.2.2.2.2).bind fun t641 => (if t641.toList = ([] : List UInt8) then (some true) else ((F23.f x1 0 (wrap64 ((bt633.2.2.2.2.length : Int) + 1))).bind fun t642 => ((some (([] : List (S88)) : List (S88))).bind fun y643 => (if 0 ≤ t642 then (if t642 ≤ (bt633.2.2.2.2.length : Int) then ((some (bt633.2.2.2.2.take (t642 : Int).toNat : List (S88))).bind fun y646 => (if y643.length + y646.length < 3518437208883 then ((F20.f k bt633.1 bt633.2.1 bt633.2.2.1 bt633.2.2.2.1 (y643 ++ y646)).bind fun t654 => (if (t654.size : Int) > (t641.size : Int) then (F6.j1 k bt633.2.2.2.2 t642 t654 true bt633.1 bt633.2.1 bt633.2.2.1 bt633.2.2.2.1) else (if 0 ≤ (t654.size : Int) then (if (t654.size : Int) ≤ (t641.size : Int) then (F6.j1 k bt633.2.2.2.2 t642 t654 ((t641.extract 0 ((t654.size : Int) : Int).toNat).toList != t654.toList) bt633.1 bt633.2.1 bt633.2.2.1 bt633.2.2.2.1) else (none)) else (none)))) else (none))) else (none)) else (none)))))))
def F6.j1 : Nat → List (S88) → Int → ByteArray → Bool → Int → Int → Int → Int → Option (Bool)
  | 0, _, _, _, _, _, _, _, _ => none
  | k + 1, x6, x8, x9, x53, x641000, x641001, x641002, x641003 => if x53 = true then (some false) else ((F21.f k x641000 x641001 x641002 x641003 x9).bind fun bt655 => (if bt655.2.2.2 = 0 then (if (bt655.1.length : Int) = x8 then (if 0 ≤ x8 then (if x8 ≤ (x6.length : Int) then ((F22.f k bt655.1 (x6.take (x8 : Int).toNat)).bind fun t667 => (some t667)) else (none)) else (none)) else (some false)) else (some false)))
end
def F6.f (k : Nat) (l0 : List Int) (l1 : List Int) : Option (Bool) := if (l0.length : Int) > 1048576 then (F6.j0 k l0 l1 true) else (F6.j0 k l0 l1 (decide ((l1.length : Int) > 1048576)))
theorem F6.mono_l : ∀ k, (∀ y0 y1 y2, LeO (F6.j0 k y0 y1 y2) (F6.j0 (k + 1) y0 y1 y2)) ∧ (∀ y0 y1 y2 y3 y4 y5 y6 y7, LeO (F6.j1 k y0 y1 y2 y3 y4 y5 y6 y7) (F6.j1 (k + 1) y0 y1 y2 y3 y4 y5 y6 y7))
 | 0 => ⟨fun _ _ _ r h => by simp [F6.j0] at h, fun _ _ _ _ _ _ _ _ r h => by simp [F6.j1] at h⟩
 | k + 1 => by
  obtain ⟨ih0, ih1⟩ := F6.mono_l k
  refine ⟨?_, ?_⟩
  rotate_left
  ·intro y0 y1 y2 y3 y4 y5 y6 y7
   unfold F6.j1
   repeat' with_reducible first | exact ih0 _ _ _ | exact ih1 _ _ _ _ _ _ _ _ | exact F21.mono _ _ _ _ _ _ | exact F20.mono _ _ _ _ _ _ | exact F22.mono _ _ _ | exact F18.mono _ _ | exact F19.mono _ _ _ _ _ _ | exact LeO.refl _ | exact LeO.none _ | refine LeO.ite ?_ ?_ | refine LeO.bind ?_ (fun _ => ?_)
  intro y0 y1 y2
  unfold F6.j0
  repeat' with_reducible first | exact ih0 _ _ _ | exact ih1 _ _ _ _ _ _ _ _ | exact F21.mono _ _ _ _ _ _ | exact F20.mono _ _ _ _ _ _ | exact F22.mono _ _ _ | exact F18.mono _ _ | exact F19.mono _ _ _ _ _ _ | exact LeO.refl _ | exact LeO.none _ | refine LeO.ite ?_ ?_ | refine LeO.bind ?_ (fun _ => ?_)
theorem F6.mono : ∀ a0 a1 k, LeO (F6.f k a0 a1) (F6.f (k + 1) a0 a1) := by
 intro a0 a1 k
 obtain ⟨ih0, ih1⟩ := F6.mono_l k
 unfold F6.f
 repeat' with_reducible first | exact ih0 _ _ _ | exact ih1 _ _ _ _ _ _ _ _ | exact F21.mono _ _ _ _ _ _ | exact F20.mono _ _ _ _ _ _ | exact F22.mono _ _ _ | exact F18.mono _ _ | exact F19.mono _ _ _ _ _ _ | exact LeO.refl _ | exact LeO.none _ | refine LeO.ite ?_ ?_ | refine LeO.bind ?_ (fun _ => ?_)
def F6.T8 : Bool × List (List Nat × List Nat) := (true, [([], []), ([], []), ([], []), ([], []), ([2, 3], [2, 3]), ([1, 4], [1, 4]), ([0, 5, 5], [0, 5]), ([6, 6, 0, 1, 2, 3, 4, 5, 6], [6])])
def F6.B8 : List Nat := [0, 0, 0, 0, 12, 30, 63, 127]
theorem F6.tab8 : rtab .any (opsOf Try.f6 8) = F6.T8 := by kernel_rfl
theorem F6.bits8 : waitsOk F6.T8.2 F6.B8 = true := by kernel_rfl
def F6.T12 : Bool × List (List Nat × List Nat) := (true, [([], []), ([0], [0]), ([1], [1]), ([2], [2]), ([3], [3]), ([4, 3], [3, 4]), ([5, 3], [3, 5]), ([3], [3]), ([6, 7, 3], [3, 6, 7]), ([3, 8], [3, 8]), ([9, 3], [9]), ([10], [10]), ([11, 10], [10, 11]), ([10], [10]), ([10], [10]), ([13, 14, 10], [10, 13, 14]), ([12, 15, 10, 10], [10, 12, 15]), ([10, 16], [10, 16]), ([17, 16, 0, 1, 2, 3, 4, 5, 6, 7, 8, 9, 10, 11, 12, 13, 14, 15, 16, 17], [17])])
def F6.B12 : List Nat := [0, 1, 3, 7, 15, 31, 63, 15, 255, 511, 1023, 2047, 4095, 2047, 2047, 26623, 65535, 131071, 262143]
theorem F6.tab12 : rtab .any (opsOf Try.f6 12) = F6.T12 := by kernel_rfl
theorem F6.bits12 : waitsOk F6.T12.2 F6.B12 = true := by kernel_rfl
theorem F6.calls (k : Nat) (A0 : Option Addr) (c0 : Nat) (l0 : List Int) (A1 : Option Addr) (c1 : Nat) (l1 : List Int) (r : Bool) (w : World) (hr0 : Kd.C (Kd.int .u8) w A0 l0.length l0) (hc0 : l0.length ≤ c0) (hr1 : Kd.C (Kd.int .u8) w A1 l1.length l1) (hc1 : l1.length ≤ c1) (h : F6.f k l0 l1 = some r) :
  Calls Try.prog 6 #[.slice A0 l0.length c0, .slice A1 l1.length c1] w fun e w' => e = .returned (.bool r) ∧ Below w.heap.size w w' := by
 have hu45 := Try.underlying45
 have hu51 := Try.underlying51
 have HR0 := am_ hr0
 have HC0 := am_ hc0
 clear hr0 hc0
 have HR1 := am_ hr1
 have HC1 := am_ hc1
 clear hr1 hc1
 have HB := am_ (Below.refl w.heap.size w)
 have H : (if (l0.length : Int) > 1048576 then (F6.j0 k l0 l1 true) else (F6.j0 k l0 l1 (decide ((l1.length : Int) > 1048576)))) = some r := h
 clear h
 have HC3 := am_ H
 clear H
 go_enter Try.func6, Try.ntmps6
 go_upto_region 1 with (fail)
 go_cut [18] (fun v18 wc => ∃ (kq : Nat) (x18_2 : Bool), v18 = .bool x18_2 ∧ Aside0 (F6.j0 kq l0 l1 x18_2 = some r) ∧ Aside0 (kq ≤ k) ∧ Aside0 (Below w.heap.size w wc))
 case first =>
  have H := HC3.out
  clear HC3
  replace H := it_ H; rcases H with ⟨(c4b0 : decide (1048576 < (l0.length : Int)) = true), H⟩ | ⟨(c4b0 : decide (1048576 < (l0.length : Int)) = false), H⟩
  rotate_left
  ·have c4b1 : decide (1048576 < l0.length) = false := n2_ c4b0
   (first | rw [c4b0] | (simp only [i64_w, i32_w]; rw [c4b0]) | skip)
   have H' := am_ H
   clear H
   go_wp2
   go_meet
   case rel => exact ⟨_, (decide ((l1.length : Int) > 1048576)), er_, H', ⟨au5_18⟩, ⟨bl_⟩⟩
  have c4b1 : decide (1048576 < l0.length) = true := n2_ c4b0
  (first | rw [c4b0] | (simp only [i64_w, i32_w]; rw [c4b0]) | skip)
  have H' := am_ H
  clear H
  go_wp2
  go_meet
  case rel => exact ⟨_, (true), er_, H', ⟨au5_18⟩, ⟨bl_⟩⟩
 case rest =>
  clear HC3
  try clear c1
  try clear c4b0
  try clear c4b1
  obtain ⟨kq, x18_2, rfl, HA, HJ2, HB⟩ := hcut
  cases kq with
  | zero => exact absurd HA.out (by simp [F6.j0])
  | succ kj2 =>
   have H := HA.out
   clear HA
   simp only [F6.j0] at H
   replace H := ib_ H; rcases H with ⟨rfl, H⟩ | ⟨rfl, H⟩
   ·obtain rfl := Option.some.inj H
    go_wp2
    go_ret
    exact ⟨au5_0, bl_⟩
   replace H := bi_ H; rcases H with ⟨⟨t633, t634, t635, t636, t637⟩, A6, H⟩
   replace H := bi_ H; rcases H with ⟨t641, A7, H⟩
   by_cases c8 : t641.toList = ([] : List UInt8)
   ·rw [if_pos c8] at H
    have c8b0 : (t641.toList == ([] : List UInt8)) = true := beq_iff_eq.mpr c8
    have c8b1 : (t641.toList != ([] : List UInt8)) = false := bne_eq_false_iff_eq.mpr c8
    clear c8
    obtain rfl := Option.some.inj H
    go_wp2_with (first | (go_at_call 18; (with_reducible refine (F18.calls kj2 _ _ l0 t633 t634 t635 t636 t637 _ ?s1 ?s2 A6.out).mono ?_); (case s1 => exact au5_13); (case s2 => exact HC0.out); rintro e w9 ⟨v638, rfl, ho0, hb⟩; (try clear A6); have HO639 := am_ (Kd.N_lower (Kd.N_mono (ok' := fun k_ => True) (Kd.R_N (Kd.R_bound ho0)) (fun k_ hk_ => trivial)) (below_size bl_)); replace HB := hs_ w hb; (try clear hb); (try clear ho0)) | ((with_reducible refine gate_dst (N := 5) rfl ?_); (try (refine gate_guard (by rfl) ?_; dsimp only)); refine be_ 5 #[.int .i64 0, .int .i64 0, .int .i64 0, .int .i64 0] 45 ?_; intro gb640 hg w10 hbox hb; replace HO639 := am_ (Kd.N_below (Kd.N_elderB au5_8 gb640 (Nat.le_of_eq hg.symm)) hb); have BK640 := am_ (hbox); have GW640 := am_ (gw_ hg bl_); have GE640 := GW640; replace HB := hs_ w hb; clear hb hbox hg; obtain ⟨hcz11_0, hcz11_1, hcz11_2, hcz11_3, hfz11_0, hfz11_1, hfz11_2, hfz11_3⟩ := cellsF4 BK640.out; obtain ⟨Ao12, co12, eo12⟩ := Kd.N_slice HO639.out; subst eo12) | (go_at_call 19; (with_reducible refine (F19.calls kj2 t633 t634 t635 t636 _ _ t637 t641 _ ?s1 ?s2 A7.out).mono ?_); (case s1 => refine (Kd.N_reads' (e := 88) (base := w.heap.size) (ok := fun k_ => (True ∧ k_ ≠ gb640)) (n := t637.length) (c := co12) ?_).2.2; exact au5_1); (case s2 => exact (Kd.N_reads' HO639.out).2.1); rintro e w13 ⟨rfl, hb⟩; (try clear A7); replace HO639 := am_ (Kd.N_below au5_1 hb); replace BK640 := am_ (blk_below (g := gb640) (o := .cells #[.int .i64 t633, .int .i64 t634, .int .i64 t635, .int .i64 t636] 45 (0, 0)) (bq_ BK640) hb); replace HB := hs_ w hb; (try clear hb); (try clear hb2); (try clear hk); (try clear hi)))
    go_ret
    exact ⟨au5_0, bl_⟩
   rw [if_neg c8] at H
   have c8b0 : (t641.toList == ([] : List UInt8)) = false := beq_eq_false_iff_ne.mpr c8
   have c8b1 : (t641.toList != ([] : List UInt8)) = true := bne_iff_ne.mpr c8
   replace H := bi_ H; rcases H with ⟨t642, A14, H⟩
   obtain ⟨y643, hy643⟩ : ∃ y_ : List (S88), y_ = (([] : List (S88))) := ⟨_, rfl⟩
   replace H : (if 0 ≤ t642 then (if t642 ≤ (t637.length : Int) then ((some (t637.take (t642 : Int).toNat : List (S88))).bind fun y646 => (if y643.length + y646.length < 3518437208883 then ((F20.f kj2 t633 t634 t635 t636 (y643 ++ y646)).bind fun t654 => (if (t654.size : Int) > (t641.size : Int) then (F6.j1 kj2 t637 t642 t654 true t633 t634 t635 t636) else (if 0 ≤ (t654.size : Int) then (if (t654.size : Int) ≤ (t641.size : Int) then (F6.j1 kj2 t637 t642 t654 ((t641.extract 0 ((t654.size : Int) : Int).toNat).toList != t654.toList) t633 t634 t635 t636) else (none)) else (none)))) else (none))) else (none)) else (none)) = some r := by first | (rw [hy643]; exact H) | exact H
   have Ny643 := am_ hy643
   clear hy643
   by_cases c15 : 0 ≤ t642
   rotate_left
   ·rw [if_neg c15] at H
    exact absurd H (by simp)

   rw [if_pos c15] at H
   have c15b0 := eq_true c15
   have c15b1 : decide (0 ≤ t642) = true := decide_eq_true c15
   clear c15
   by_cases c16 : t642 ≤ (t637.length : Int)
   rotate_left
   ·rw [if_neg c16] at H
    exact absurd H (by simp)
   rw [if_pos c16] at H
   have c16b0 := eq_true c16
   have c16b1 : decide (t642 ≤ (t637.length : Int)) = true := decide_eq_true c16
   clear c16
   obtain ⟨y646, hy646⟩ : ∃ y_ : List (S88), y_ = (t637.take (t642 : Int).toNat) := ⟨_, rfl⟩
   replace H : (if y643.length + y646.length < 3518437208883 then ((F20.f kj2 t633 t634 t635 t636 (y643 ++ y646)).bind fun t654 => (if (t654.size : Int) > (t641.size : Int) then (F6.j1 kj2 t637 t642 t654 true t633 t634 t635 t636) else (if 0 ≤ (t654.size : Int) then (if (t654.size : Int) ≤ (t641.size : Int) then (F6.j1 kj2 t637 t642 t654 ((t641.extract 0 ((t654.size : Int) : Int).toNat).toList != t654.toList) t633 t634 t635 t636) else (none)) else (none)))) else (none)) = some r := by first | (rw [hy646]; exact H) | exact H
   have Ny646 := am_ hy646
   clear hy646
   replace H := iln_ H; rcases H with ⟨LMc17, H⟩
   obtain ⟨y651, hy651⟩ : ∃ y_ : List (S88), y_ = (y643 ++ y646) := ⟨_, rfl⟩
   replace H : ((F20.f kj2 t633 t634 t635 t636 y651).bind fun t654 => (if (t654.size : Int) > (t641.size : Int) then (F6.j1 kj2 t637 t642 t654 true t633 t634 t635 t636) else (if 0 ≤ (t654.size : Int) then (if (t654.size : Int) ≤ (t641.size : Int) then (F6.j1 kj2 t637 t642 t654 ((t641.extract 0 ((t654.size : Int) : Int).toNat).toList != t654.toList) t633 t634 t635 t636) else (none)) else (none)))) = some r := by first | (rw [hy651]; exact H) | exact H
   have Ny651 := am_ hy651
   clear hy651
   replace H := bi_ H; rcases H with ⟨t654, A18, H⟩
   have HC19 := am_ H
   clear H
   try go_wp2_with (first | (go_at_call 18; (with_reducible refine (F18.calls kj2 _ _ l0 t633 t634 t635 t636 t637 _ ?s1 ?s2 A6.out).mono ?_); (case s1 => exact au5_13); (case s2 => exact HC0.out); rintro e w20 ⟨v638, rfl, ho0, hb⟩; (try clear A6); have HO639 := am_ (Kd.N_lower (Kd.N_mono (ok' := fun k_ => True) (Kd.R_N (Kd.R_bound ho0)) (fun k_ hk_ => trivial)) (below_size bl_)); replace HB := hs_ w hb; (try clear hb); (try clear ho0)) | ((with_reducible refine gate_dst (N := 5) rfl ?_); (try (refine gate_guard (by rfl) ?_; dsimp only)); refine be_ 5 #[.int .i64 0, .int .i64 0, .int .i64 0, .int .i64 0] 45 ?_; intro gb640 hg w21 hbox hb; replace HO639 := am_ (Kd.N_below (Kd.N_elderB au5_8 gb640 (Nat.le_of_eq hg.symm)) hb); have BK640 := am_ (hbox); have GW640 := am_ (gw_ hg bl_); have GE640 := GW640; replace HB := hs_ w hb; clear hb hbox hg; obtain ⟨hcz22_0, hcz22_1, hcz22_2, hcz22_3, hfz22_0, hfz22_1, hfz22_2, hfz22_3⟩ := cellsF4 BK640.out; obtain ⟨Ao23, co23, eo23⟩ := Kd.N_slice HO639.out; subst eo23) | (go_at_call 19; (with_reducible refine (F19.calls kj2 t633 t634 t635 t636 _ _ t637 t641 _ ?s1 ?s2 A7.out).mono ?_); (case s1 => refine (Kd.N_reads' (e := 88) (base := w.heap.size) (ok := fun k_ => (True ∧ k_ ≠ gb640)) (n := t637.length) (c := co23) ?_).2.2; exact au5_1); (case s2 => exact (Kd.N_reads' HO639.out).2.1); rintro e w24 ⟨rfl, hb⟩; (try clear A7); replace HO639 := am_ (Kd.N_below au5_1 hb); replace BK640 := am_ (blk_below (g := gb640) (o := .cells #[.int .i64 t633, .int .i64 t634, .int .i64 t635, .int .i64 t636] 45 (0, 0)) (bq_ BK640) hb); replace HB := hs_ w hb; (try clear hb); (try clear hb2); (try clear hk); (try clear hi)) | (go_at_call 23; (with_reducible refine (F23.calls _ _ l1 0 (wrap64 ((t637.length : Int) + 1)) t642 _ ?s1 ?s2 A14.out).mono ?_); (case s1 => repeat (first | exact (Kd.C_below HR1.out HB.out) | (with_reducible refine Kd.C_alloc ?_ _) | (with_reducible refine Kd.C_drewN ?_ _) | (with_reducible refine Kd.C_drew ?_))); (case s2 => exact HC1.out); rintro e w' ⟨rfl, ⟨nd, rfl⟩⟩; (try clear A14)))
   (try (rw [drewN_self w24]; generalize hq_ : World.drewN w24 _ = w24; have n0_ : Aside0 (Kd.N k88 88 w24 w.heap.size (fun k_ => k_ ≠ gb640) (.slice Ao23 t637.length co23) t637) := ⟨by rw [← hq_]; exact (by (with_reducible repeat (first | apply Kd.N_alloc | apply Kd.N_drewN | apply Kd.N_drew)); exact Kd.N_mono HO639.out (fun _ hk => hk.2))⟩; have n1_ : Aside0 (w24.heap[gb640]? = some (.cells #[.int .i64 t633, .int .i64 t634, .int .i64 t635, .int .i64 t636] 45 (0, 0))) := ⟨by rw [← hq_]; exact (bk_ BK640)⟩; have n2_ : Aside0 (Below w.heap.size w w24) := ⟨by rw [← hq_]; exact bl_⟩; clear HO639 BK640 HB hq_; have HO639 := n0_; have BK640 := n1_; have HB := n2_; clear n0_ n1_ n2_))
   replace HO639 := am_ (Kd.N_drew HO639.out)
   replace BK640 := bd_ BK640
   replace HB := am_ (below_drew1 HB.out)
   have q26 : (t642 : Int) ≤ ((t637.length : Int) : Int) := od_
   obtain ⟨i026, hi026, _, hsz26, _⟩ := info_parts info88
   have hroom26 : t637.length ≤ co23 := (Kd.N_reads' HO639.out).2.1
   have hC26 : Kd.F k88 _ _ Ao23 t637.length t637 := (Kd.V_at (base := w.heap.size) (Kd.N_V HO639.out)).2.2
   have hcut26 := cut_to (P := Try.prog) 46 88 .i64 Try.underlying46 hi026 Ao23 t637.length co23 t642 (of_decide_eq_true as_) q26 hroom26
   have hr26 := Kd.F_take (m := (t642 : Int).toNat) hC26 (by omega)
   have hy26 : y646.length = (t642 : Int).toNat := (by rw [Ny646.out, List.length_take]; omega)
   rw [← Ny646.out] at hr26
   rw [← hy26] at hcut26
   have HO650 := am_ (show Kd.V k88 88 _ w.heap.size _ (.slice Ao23 y646.length co23) y646 from Kd.V_mk (by omega) hr26)
   have HC650 := am_ (show y646.length ≤ co23 from by omega)
   clear hr26 hC26 hroom26 hi026 hsz26
   have KY26 := am_ hy26
   clear hy26
   replace q26 := eq_true q26
   refine start_ (n := 8) (S := fun w' => w'.cell? ⟨gb640, 0, none⟩ = some (.int .i64 t633) ∧ w'.cell? ⟨gb640, 1, none⟩ = some (.int .i64 t634) ∧ w'.cell? ⟨gb640, 2, none⟩ = some (.int .i64 t635) ∧ w'.cell? ⟨gb640, 3, none⟩ = some (.int .i64 t636)) (ds := []) (bs 8 0) (by kernel_rfl) rfl rfl ⟨(blk_cell BK640.out 0).trans rfl, (blk_cell BK640.out 1).trans rfl, (blk_cell BK640.out 2).trans rfl, (blk_cell BK640.out 3).trans rfl⟩ (fun hHeld => ?_); refine with_tabW F6.tab8 F6.bits8 (fun HT_ HW_ => ?_)
   generalize w24.drew = w25 at HO639 BK640 HB HO650 hHeld ⊢
   refine pu_ 2 36 (bs 8 4) HT_ ?_ rfl rfl
   refine pu_ 3 37 (bs 8 12) HT_ ?_ rfl rfl
   refine pu_ 4 38 (bs 8 28) HT_ ?_ rfl rfl
   refine tk_ 0 34 (bs 8 29) HT_ HW_ hHeld au5_6 ?_ rfl rfl
   refine one_ (i := 1) (N := some 35) (bs 8 31) rfl rfl (one_of HT_.out (by kernel_rfl)) (by decide) (fun K hK => ?_)
   refine Kd.N_lit_step k88 _ 88 ?hg (N' := 35) ?hd (xs := ([] : List (S88))) (inner := []) (ok := (fun k_ => some k_ ≠ (.slice Ao23 t637.length co23 : Value).ownBlock ∧ k_ ≠ gb640)) (okp := (fun k_ => some k_ ≠ (.slice Ao23 t637.length co23 : Value).ownBlock ∧ k_ ≠ gb640)) ?hr ?hp (fun _ hk => hk) ((show ∀ k_, w25.heap.size ≤ k_ → (fun k_ => some k_ ≠ (.slice Ao23 t637.length co23 : Value).ownBlock ∧ k_ ≠ gb640) k_ from fun k_ hk => ⟨Kd.fresh' (Kd.N_lt au5_8) k_ hk, Kd.freshB (g := gb640) (o := .cells #[.int .i64 t633, .int .i64 t634, .int .i64 t635, .int .i64 t636] 45 (0, 0)) (bk_ BK640) k_ hk⟩) _ (Nat.le_refl _)) (Below.refl _ _) (Nat.le_refl _) (by simp) ?_; (case hd => rfl); (case hg => rfl); (case hr => exact hr_); (case hp => exact (Reps.none _ _))
   intro v644 w27 ho28 hb hg_ hnew_
   clear hg_ hnew_
   (first | rw [← Ny643.out] at ho28 | (simp only [Int.reduceToNat] at ho28; rw [← Ny643.out] at ho28))
   replace HO639 := am_ (Kd.N_elder' au5_8 (Kd.N_base ho28) hb)
   replace HO650 := am_ (Kd.V_elder' au5_17 (Kd.N_base ho28) hb)
   have HO645 := am_ (Kd.N_lower ho28 (below_size bl_))
   replace BK640 := bb_ BK640 hb
   replace HB := hs_ w hb
   clear hb ho28
   refine hK.out _ _ ⟨(blk_cell BK640.out 0).trans rfl, (blk_cell BK640.out 1).trans rfl, (blk_cell BK640.out 2).trans rfl, (blk_cell BK640.out 3).trans rfl⟩ (fun hHeld => ?_)
   clear hK K
   refine no_ 35 ?_
   refine one_ (i := 5) (N := some 39) (bs 8 63) rfl rfl (one_of HT_.out (by kernel_rfl)) (by decide) (fun K hK => ?_)
   refine Kd.N_append_rows_step k88 (w0 := w) w.heap.size (by rfl) (.tmp 35) (.tmp 38) 46 88 (.agg #[(.string ⟨#[]⟩), (.slice none 0 0)]) 40 rfl Try.underlying46 info88 rfl (by decide) (by omega) v644 y643 y646 _ _ _ (fun k_ => k_ ≠ gb640) (fun k_ => ((fun k_ => k_ ≠ gb640)) k_ ∧ some k_ ≠ (v644 : Value).ownBlock) rfl rfl ?aO ?aR (fun _ hk => hk) ?aF ?aB ?aS ?aL ?_
   (case aR => exact (by skip; exact Kd.V_F (Kd.V_mono (ok' := (fun k_ => ((fun k_ => k_ ≠ gb640)) k_ ∧ some k_ ≠ (v644 : Value).ownBlock)) (HO650.out) (fun k_ hk => ⟨by first | exact hk.1.2 | exact hk.1, hk.2⟩))))
   (case aB => exact bl_)
   (case aF => exact (fun k_ hk => Kd.freshB (g := gb640) (o := .cells #[.int .i64 t633, .int .i64 t634, .int .i64 t635, .int .i64 t636] 45 (0, 0)) (bk_ BK640) k_ hk))
   (case aO => exact (by (with_reducible repeat (first | apply Kd.N_alloc | apply Kd.N_drewN | apply Kd.N_drew)); exact Kd.N_mono HO645.out (fun _ hk => hk.2)))
   (case aS => exact (below_size bl_))
   (case aL => have := LMc17.out; omega)
   intro v652 w29 ho hb hg hat
   rw [← Ny651.out] at ho
   have n0_ := am_ (Kd.N_afterv (ok := (fun k_ => k_ ≠ gb640)) (by (with_reducible repeat (first | apply Kd.N_alloc | apply Kd.N_drewN | apply Kd.N_drew)); exact Kd.N_mono HO639.out (fun _ hk => ⟨by first | exact hk.1.2 | exact hk.1, hk.2⟩)) hg hat)
   have n1_ := am_ (bg_ BK640 hg (Kd.N_ne HO645.out BK640.out (by decide)))
   have n2_ := am_ (Kd.V_afterv (ok := (fun k_ => k_ ≠ gb640)) (by (with_reducible repeat (first | apply Kd.V_alloc | apply Kd.V_drewN | apply Kd.V_drew)); exact Kd.V_mono HO650.out (fun _ hk => ⟨by first | exact hk.1.2 | exact hk.1, hk.2⟩)) hg hat)
   have n3_ := am_ (hb)
   have n4_ := am_ (ho)
   clear HO639
   clear BK640
   clear HO650
   clear HB
   clear HO645
   have HO639 := n0_
   have BK640 := n1_
   have HO650 := n2_
   have HB := n3_
   have HO653 := n4_
   clear n0_ n1_ n2_ n3_ n4_
   clear ho hb hg hat
   obtain ⟨Ao30, co30, eo30⟩ := Kd.N_slice HO653.out
   (first | subst eo30 | (injection eo30 with f1_ f2_ f3_; have f4_ := f1_.symm; have f5_ := f3_.symm; clear f1_ f2_ f3_; subst f4_; subst f5_))
   refine hK.out _ _ ⟨(blk_cell BK640.out 0).trans rfl, (blk_cell BK640.out 1).trans rfl, (blk_cell BK640.out 2).trans rfl, (blk_cell BK640.out 3).trans rfl⟩ (fun hHeld => ?_)
   clear hK K
   refine no_ 39 ?_
   refine one_ (i := 6) (N := some 40) (bs 8 127) rfl rfl (one_of HT_.out (by kernel_rfl)) (by decide) (fun K hK => ?_)
   refine gr_ Try.func20 #[.agg #[.int .i64 t633, .int .i64 t634, .int .i64 t635, .int .i64 t636], .slice Ao30 y651.length co30] (by rfl) ?_ rfl rfl rfl
   with_reducible refine (F20.calls kj2 t633 t634 t635 t636 _ _ y651 t654 _ ?s1 ?s2 A18.out).mono ?_
   (case s1 => repeat (first | exact (Kd.N_reads' HO653.out).2.2 | (with_reducible refine Kd.C_alloc ?_ _) | (with_reducible refine Kd.C_drewN ?_ _) | (with_reducible refine Kd.C_drew ?_)))
   (case s2 => exact (Kd.N_reads' HO653.out).2.1)
   rintro e w31 ⟨rfl, hb⟩
   refine ⟨_, rfl, ?_⟩
   replace HO639 := am_ (Kd.N_below au5_8 hb)
   replace HO650 := am_ (Kd.V_below au5_17 hb)
   replace HO653 := am_ (Kd.N_below (by (with_reducible repeat (first | apply Kd.N_alloc | apply Kd.N_drewN | apply Kd.N_drew)); exact HO653.out) hb)
   replace BK640 := bb_ BK640 hb
   replace HB := hs_ w hb
   (try clear hb)
   (try clear hb2)
   (try clear hk)
   (try clear hi)
   refine hK.out _ _ ⟨(blk_cell BK640.out 0).trans rfl, (blk_cell BK640.out 1).trans rfl, (blk_cell BK640.out 2).trans rfl, (blk_cell BK640.out 3).trans rfl⟩ (fun hHeld => ?_)
   clear hK K
   refine no_ 40 ?_
   refine pu_ 7 9 (bs 8 255) HT_ ?_ rfl rfl
   refine done_ (done_of HT_.out (by kernel_rfl)) ?_
   go_upto_region 9 with (fail)
   go_cut [53] (fun v53 wc => ∃ (kq : Nat) (x53_18 : Bool), v53 = .bool x53_18 ∧ Aside0 (F6.j1 kq t637 t642 t654 x53_18 t633 t634 t635 t636 = some r) ∧ Aside0 (kq ≤ kj2) ∧ Aside0 (Kd.N k88 88 wc w.heap.size (fun k_ => k_ ≠ gb640) (.slice Ao23 t637.length co23) t637) ∧ Aside0 (wc.heap[gb640]? = some (.cells #[.int .i64 t633, .int .i64 t634, .int .i64 t635, .int .i64 t636] 45 (0, 0))) ∧ Aside0 (Below w.heap.size w wc))
   case first =>
    have H := HC19.out
    clear HC19
    by_cases c32 : (t654.size : Int) > (t641.size : Int)
    ·rw [if_pos c32] at H
     have c32b0 : decide ((t641.size : Int) < (t654.size : Int)) = true := decide_eq_true c32
     have c32b1 : decide (t641.size < t654.size) = true := decide_eq_true (Int.ofNat_lt.mp c32)
     clear c32
     (first | rw [c32b0] | (simp only [i64_w, i32_w]; rw [c32b0]) | skip)
     have H' := am_ H
     clear H
     go_wp2
     go_meet
     case rel => exact ⟨_, (true), er_, H', ⟨by have := HJ2.out; first | omega | exact Nat.le_refl _⟩, ⟨au5_16⟩, ⟨bk_ BK640⟩, ⟨bl_⟩⟩
    rw [if_neg c32] at H
    have c32b0 : decide ((t641.size : Int) < (t654.size : Int)) = false := decide_eq_false c32
    have c32b1 : decide (t641.size < t654.size) = false := decide_eq_false (fun h => c32 (Int.ofNat_lt.mpr h))
    clear c32
    (first | rw [c32b0] | (simp only [i64_w, i32_w]; rw [c32b0]) | skip)
    by_cases c33 : 0 ≤ (t654.size : Int)
    rotate_left
    ·rw [if_neg c33] at H
     exact absurd H (by simp)
    rw [if_pos c33] at H
    have c33b0 := eq_true c33
    have c33b1 : decide (0 ≤ (t654.size : Int)) = true := decide_eq_true c33
    clear c33
    by_cases c34 : (t654.size : Int) ≤ (t641.size : Int)
    rotate_left
    ·rw [if_neg c34] at H
     exact absurd H (by simp)
    rw [if_pos c34] at H
    have c34b0 := eq_true c34
    have c34b1 : decide ((t654.size : Int) ≤ (t641.size : Int)) = true := decide_eq_true c34
    clear c34
    have H' := am_ H
    clear H
    go_wp2
    go_meet
    case rel => exact ⟨_, (((t641.extract 0 ((t654.size : Int) : Int).toNat).toList != t654.toList)), er_, H', ⟨by have := HJ2.out; first | omega | exact Nat.le_refl _⟩, ⟨au5_16⟩, ⟨bk_ BK640⟩, ⟨bl_⟩⟩
   case rest =>
    clear HC19
    try clear c1
    try clear c4b0
    try clear c4b1
    try clear c8
    try clear c8b0
    try clear c8b1
    try clear c15
    try clear c15b0
    try clear c15b1
    try clear c16
    try clear c16b0
    try clear c16b1
    try clear q26
    try clear c32
    try clear c32b0
    try clear c32b1
    try clear c33
    try clear c33b0
    try clear c33b1
    try clear c34
    try clear c34b0
    try clear c34b1
    try clear hcz11_0 hcz11_1 hcz11_2 hcz11_3
    try clear hcz22_0 hcz22_1 hcz22_2 hcz22_3
    try clear hfz11_0 hfz11_1 hfz11_2 hfz11_3
    try clear hfz22_0 hfz22_1 hfz22_2 hfz22_3
    try clear q26
    obtain ⟨kq, x53_18, rfl, HA, HJ18, HO_6, BK640, HB⟩ := hcut
    cases kq with
    | zero => exact absurd HA.out (by simp [F6.j1])
    | succ kj18 =>
     have H := HA.out
     clear HA
     simp only [F6.j1] at H
     replace H := ib_ H; rcases H with ⟨rfl, H⟩ | ⟨rfl, H⟩
     ·obtain rfl := Option.some.inj H
      go_wp2
      go_ret
      exact ⟨au5_0, bl_⟩
     replace H := bi_ H; rcases H with ⟨⟨t655, t658, t659, t660⟩, A36, H⟩
     by_cases c37 : t660 = 0
     rotate_left
     ·rw [if_neg c37] at H
      have c37b0 : (t660 == 0) = false := beq_eq_false_iff_ne.mpr c37
      have c37b1 : (t660 != 0) = true := bne_iff_ne.mpr c37
      obtain rfl := Option.some.inj H
      obtain ⟨hcz60_0, hcz60_1, hcz60_2, hcz60_3, hfz60_0, hfz60_1, hfz60_2, hfz60_3⟩ := cellsF4 BK640.out
      go_wp2_with (first | (go_at_call 21; (with_reducible refine (F21.calls kj18 t633 t634 t635 t636 t654 t655 t658 t659 t660 _ A36.out).mono ?_); rintro e w61 ⟨v656, rfl, ho0, hb⟩; (try clear A36); have HO657 := am_ (Kd.N_lower (Kd.N_mono (ok' := fun k_ => some k_ ≠ (.slice Ao23 t637.length co23 : Value).ownBlock ∧ k_ ≠ gb640) (Kd.R_N (Kd.R_bound ho0)) (fun k_ hk_ => ⟨(Kd.fresh' (Kd.N_lt au5_4) k_ hk_.2.1), (Kd.freshB (g := gb640) (o := .cells #[.int .i64 t633, .int .i64 t634, .int .i64 t635, .int .i64 t636] 45 (0, 0)) (bk_ BK640) k_ hk_.2.1)⟩)) (below_size bl_)); replace HO_6 := am_ (Kd.N_elder' au5_4 (Kd.N_base (Kd.R_N ho0)) hb); replace BK640 := bb_ BK640 hb; replace HB := hs_ w hb; (try clear hb); (try clear hb2); (try clear hk); (try clear hi); (try clear ho0)) | ((with_reducible refine gate_dst (N := 10) rfl ?_); (try (refine gate_guard (by rfl) ?_; dsimp only)); refine be_ 10 #[.slice none 0 0, .int .i64 0, .int .i64 0, .int .i64 0] 51 ?_; intro gb661 hg w62 hbox hb; replace HO_6 := am_ (Kd.N_below (Kd.N_elderB au5_4 gb661 (Nat.le_of_eq hg.symm)) hb); replace HO657 := am_ (Kd.N_below (Kd.N_elderB au5_10 gb661 (Nat.le_of_eq hg.symm)) hb); have BK661 := am_ (hbox); have GW661 := am_ (gw_ hg bl_); have GE661 := GW661; replace HB := hs_ w hb; have NB640_661 := am_ (gn_ hg (blkl_ BK640)); have NB661_640 := am_ (gm_ hg (blkl_ BK640)); replace BK640 := bb_ BK640 hb; clear hb hbox hg; obtain ⟨Ao63, co63, eo63⟩ := Kd.N_slice HO657.out; subst eo63; have hnb64 := NB661_640.out; have hnc64 := NB640_661.out; obtain ⟨hcz65_0, hcz65_1, hcz65_2, hcz65_3, hfz65_0, hfz65_1, hfz65_2, hfz65_3⟩ := cellsF4 BK661.out))
      have n0_ : Aside0 (Kd.N k88 88 ((((w62.setCell ⟨gb661, 0, none⟩ (.slice Ao63 t655.length co63)).setCell ⟨gb661, 1, none⟩ (.int .i64 t658)).setCell ⟨gb661, 2, none⟩ (.int .i64 t659)).setCell ⟨gb661, 3, none⟩ (.int .i64 t660)) w.heap.size (fun k_ => some k_ ≠ (.slice Ao63 t655.length co63 : Value).ownBlock ∧ k_ ≠ gb640 ∧ k_ ≠ gb661) (.slice Ao23 t637.length co23) t637) := ⟨by (with_reducible repeat (first | apply Kd.N_alloc | apply Kd.N_drewN | apply Kd.N_drew)); exact Kd.N_mono (Kd.N_far (p := ⟨gb661, 3, none⟩) (Kd.N_far (p := ⟨gb661, 2, none⟩) (Kd.N_far (p := ⟨gb661, 1, none⟩) (Kd.N_far (p := ⟨gb661, 0, none⟩) (Kd.N_mono HO_6.out (fun k_ hk => (⟨hk, hk.2⟩ : _ ∧ k_ ≠ gb661))) (fun _ hk => hk.2) (.slice Ao63 t655.length co63)) (fun _ hk => hk.2) (.int .i64 t658)) (fun _ hk => hk.2) (.int .i64 t659)) (fun _ hk => hk.2) (.int .i64 t660)) (fun _ hk => ⟨hk.1.1.2, ⟨hk.1.1.1, hk.1.2⟩⟩)⟩
      have n1_ : Aside0 (Kd.N k88 88 ((((w62.setCell ⟨gb661, 0, none⟩ (.slice Ao63 t655.length co63)).setCell ⟨gb661, 1, none⟩ (.int .i64 t658)).setCell ⟨gb661, 2, none⟩ (.int .i64 t659)).setCell ⟨gb661, 3, none⟩ (.int .i64 t660)) w.heap.size (fun k_ => some k_ ≠ (.slice Ao23 t637.length co23 : Value).ownBlock ∧ k_ ≠ gb640 ∧ k_ ≠ gb661) (.slice Ao63 t655.length co63) t655) := ⟨by (with_reducible repeat (first | apply Kd.N_alloc | apply Kd.N_drewN | apply Kd.N_drew)); exact Kd.N_mono (Kd.N_far (p := ⟨gb661, 3, none⟩) (Kd.N_far (p := ⟨gb661, 2, none⟩) (Kd.N_far (p := ⟨gb661, 1, none⟩) (Kd.N_far (p := ⟨gb661, 0, none⟩) (Kd.N_mono HO657.out (fun k_ hk => (⟨hk, hk.2⟩ : _ ∧ k_ ≠ gb661))) (fun _ hk => hk.2) (.slice Ao63 t655.length co63)) (fun _ hk => hk.2) (.int .i64 t658)) (fun _ hk => hk.2) (.int .i64 t659)) (fun _ hk => hk.2) (.int .i64 t660)) (fun _ hk => ⟨hk.1.1.1, ⟨hk.1.1.2, hk.1.2⟩⟩)⟩
      have n2_ : Aside0 (((((w62.setCell ⟨gb661, 0, none⟩ (.slice Ao63 t655.length co63)).setCell ⟨gb661, 1, none⟩ (.int .i64 t658)).setCell ⟨gb661, 2, none⟩ (.int .i64 t659)).setCell ⟨gb661, 3, none⟩ (.int .i64 t660)).heap[gb640]? = some (.cells #[.int .i64 t633, .int .i64 t634, .int .i64 t635, .int .i64 t636] 45 (0, 0))) := ⟨bf_ BK640⟩
      have n3_ : Aside0 (((((w62.setCell ⟨gb661, 0, none⟩ (.slice Ao63 t655.length co63)).setCell ⟨gb661, 1, none⟩ (.int .i64 t658)).setCell ⟨gb661, 2, none⟩ (.int .i64 t659)).setCell ⟨gb661, 3, none⟩ (.int .i64 t660)).heap[gb661]? = some (.cells #[.slice Ao63 t655.length co63, .int .i64 t658, .int .i64 t659, .int .i64 t660] 51 (0, 0))) := ⟨bq_ BK661⟩
      have n4_ : Aside0 (Below w.heap.size w ((((w62.setCell ⟨gb661, 0, none⟩ (.slice Ao63 t655.length co63)).setCell ⟨gb661, 1, none⟩ (.int .i64 t658)).setCell ⟨gb661, 2, none⟩ (.int .i64 t659)).setCell ⟨gb661, 3, none⟩ (.int .i64 t660))) := ⟨bl_⟩
      (try clear HO_6)
      (try clear HO657)
      (try clear BK640)
      (try clear BK661)
      (try clear HB)
      generalize ((((w62.setCell ⟨gb661, 0, none⟩ (.slice Ao63 t655.length co63)).setCell ⟨gb661, 1, none⟩ (.int .i64 t658)).setCell ⟨gb661, 2, none⟩ (.int .i64 t659)).setCell ⟨gb661, 3, none⟩ (.int .i64 t660)) = w66 at n0_ n1_ n2_ n3_ n4_ ⊢
      have HO_6 := n0_
      have HO657 := n1_
      have BK640 := n2_
      have BK661 := n3_
      have HB := n4_
      clear n0_ n1_ n2_ n3_ n4_
      replace HO_6 := am_ (Kd.N_drew HO_6.out)
      replace HO657 := am_ (Kd.N_drew HO657.out)
      replace BK640 := bd_ BK640
      replace BK661 := bd_ BK661
      replace HB := am_ (below_drew1 HB.out)
      refine start_ (n := 19) (S := fun w' => w'.cell? ⟨gb661, 0, none⟩ = some (.slice Ao63 t655.length co63) ∧ w'.cell? ⟨gb661, 1, none⟩ = some (.int .i64 t658) ∧ w'.cell? ⟨gb661, 2, none⟩ = some (.int .i64 t659) ∧ w'.cell? ⟨gb661, 3, none⟩ = some (.int .i64 t660)) (ds := []) (bs 19 0) (by kernel_rfl) rfl rfl ⟨(blk_cell BK661.out 0).trans rfl, (blk_cell BK661.out 1).trans rfl, (blk_cell BK661.out 2).trans rfl, (blk_cell BK661.out 3).trans rfl⟩ (fun hHeld => ?_); refine with_tabW F6.tab12 F6.bits12 (fun HT_ HW_ => ?_)
      generalize w66.drew = w67 at HO_6 HO657 BK640 BK661 HB hHeld ⊢
      refine pu_ 0 57 (bs 19 1) HT_ ?_ rfl rfl
      refine tk_ 1 58 (bs 19 3) HT_ HW_ hHeld au5_6 ?_ rfl rfl
      refine pu_ 2 59 (bs 19 7) HT_ ?_ rfl rfl
      refine pu_ 3 60 (bs 19 15) HT_ ?_ rfl rfl
      refine pv_ 4 61 (bs 19 31) HT_ ?_ rfl rfl
      refine pv_ 5 62 (bs 19 63) HT_ ?_ rfl rfl
      refine pv_ 6 63 (bs 19 127) HT_ ?_ rfl rfl
      refine pv_ 7 64 (bs 19 255) HT_ ?_ rfl rfl
      refine pv_ 8 65 (bs 19 511) HT_ ?_ rfl rfl
      refine pu_ 9 66 (bs 19 1023) HT_ ?_ rfl rfl
      refine pu_ 10 67 (bs 19 2047) HT_ ?_ rfl rfl
      refine pv_ 11 68 (bs 19 4095) HT_ ?_ rfl rfl
      refine pv_ 12 69 (bs 19 8191) HT_ ?_ rfl rfl
      refine pv_ 13 70 (bs 19 16383) HT_ ?_ rfl rfl
      refine pv_ 14 71 (bs 19 32767) HT_ ?_ rfl rfl
      refine pv_ 15 72 (bs 19 65535) HT_ ?_ rfl rfl
      refine pv_ 16 73 (bs 19 131071) HT_ ?_ rfl rfl
      refine pu_ 17 74 (bs 19 262143) HT_ ?_ rfl rfl
      refine pu_ 18 4 (bs 19 524287) HT_ ?_ rfl rfl
      refine done_ (done_of HT_.out (by kernel_rfl)) ?_
      try go_wp2
      go_ret
      exact ⟨au5_0, bl_⟩
     rw [if_pos c37] at H
     have c37b0 : (t660 == 0) = true := beq_iff_eq.mpr c37
     have c37b1 : (t660 != 0) = false := bne_eq_false_iff_eq.mpr c37
     clear c37
     by_cases c38 : (t655.length : Int) = t642
     rotate_left
     ·rw [if_neg c38] at H
      have c38b0 : ((t655.length : Int) == t642) = false := beq_eq_false_iff_ne.mpr c38
      have c38b1 : ((t655.length : Int) != t642) = true := bne_iff_ne.mpr c38
      obtain rfl := Option.some.inj H
      obtain ⟨hcz52_0, hcz52_1, hcz52_2, hcz52_3, hfz52_0, hfz52_1, hfz52_2, hfz52_3⟩ := cellsF4 BK640.out
      try go_wp2_with (first | (go_at_call 21; (with_reducible refine (F21.calls kj18 t633 t634 t635 t636 t654 t655 t658 t659 t660 _ A36.out).mono ?_); rintro e w53 ⟨v656, rfl, ho0, hb⟩; (try clear A36); have HO657 := am_ (Kd.N_lower (Kd.N_mono (ok' := fun k_ => some k_ ≠ (.slice Ao23 t637.length co23 : Value).ownBlock ∧ k_ ≠ gb640) (Kd.R_N (Kd.R_bound ho0)) (fun k_ hk_ => ⟨(Kd.fresh' (Kd.N_lt au5_4) k_ hk_.2.1), (Kd.freshB (g := gb640) (o := .cells #[.int .i64 t633, .int .i64 t634, .int .i64 t635, .int .i64 t636] 45 (0, 0)) (bk_ BK640) k_ hk_.2.1)⟩)) (below_size bl_)); replace HO_6 := am_ (Kd.N_elder' au5_4 (Kd.N_base (Kd.R_N ho0)) hb); replace BK640 := bb_ BK640 hb; replace HB := hs_ w hb; (try clear hb); (try clear hb2); (try clear hk); (try clear hi); (try clear ho0)) | ((with_reducible refine gate_dst (N := 10) rfl ?_); (try (refine gate_guard (by rfl) ?_; dsimp only)); refine be_ 10 #[.slice none 0 0, .int .i64 0, .int .i64 0, .int .i64 0] 51 ?_; intro gb661 hg w54 hbox hb; replace HO_6 := am_ (Kd.N_below (Kd.N_elderB au5_4 gb661 (Nat.le_of_eq hg.symm)) hb); replace HO657 := am_ (Kd.N_below (Kd.N_elderB au5_10 gb661 (Nat.le_of_eq hg.symm)) hb); have BK661 := am_ (hbox); have GW661 := am_ (gw_ hg bl_); have GE661 := GW661; replace HB := hs_ w hb; have NB640_661 := am_ (gn_ hg (blkl_ BK640)); have NB661_640 := am_ (gm_ hg (blkl_ BK640)); replace BK640 := bb_ BK640 hb; clear hb hbox hg; obtain ⟨Ao55, co55, eo55⟩ := Kd.N_slice HO657.out; subst eo55; have hnb56 := NB661_640.out; have hnc56 := NB640_661.out; obtain ⟨hcz57_0, hcz57_1, hcz57_2, hcz57_3, hfz57_0, hfz57_1, hfz57_2, hfz57_3⟩ := cellsF4 BK661.out))
      have n0_ : Aside0 (Kd.N k88 88 ((((w54.setCell ⟨gb661, 0, none⟩ (.slice Ao55 t655.length co55)).setCell ⟨gb661, 1, none⟩ (.int .i64 t658)).setCell ⟨gb661, 2, none⟩ (.int .i64 t659)).setCell ⟨gb661, 3, none⟩ (.int .i64 t660)) w.heap.size (fun k_ => some k_ ≠ (.slice Ao55 t655.length co55 : Value).ownBlock ∧ k_ ≠ gb640 ∧ k_ ≠ gb661) (.slice Ao23 t637.length co23) t637) := ⟨by (with_reducible repeat (first | apply Kd.N_alloc | apply Kd.N_drewN | apply Kd.N_drew)); exact Kd.N_mono (Kd.N_far (p := ⟨gb661, 3, none⟩) (Kd.N_far (p := ⟨gb661, 2, none⟩) (Kd.N_far (p := ⟨gb661, 1, none⟩) (Kd.N_far (p := ⟨gb661, 0, none⟩) (Kd.N_mono HO_6.out (fun k_ hk => (⟨hk, hk.2⟩ : _ ∧ k_ ≠ gb661))) (fun _ hk => hk.2) (.slice Ao55 t655.length co55)) (fun _ hk => hk.2) (.int .i64 t658)) (fun _ hk => hk.2) (.int .i64 t659)) (fun _ hk => hk.2) (.int .i64 t660)) (fun _ hk => ⟨hk.1.1.2, ⟨hk.1.1.1, hk.1.2⟩⟩)⟩
      have n1_ : Aside0 (Kd.N k88 88 ((((w54.setCell ⟨gb661, 0, none⟩ (.slice Ao55 t655.length co55)).setCell ⟨gb661, 1, none⟩ (.int .i64 t658)).setCell ⟨gb661, 2, none⟩ (.int .i64 t659)).setCell ⟨gb661, 3, none⟩ (.int .i64 t660)) w.heap.size (fun k_ => some k_ ≠ (.slice Ao23 t637.length co23 : Value).ownBlock ∧ k_ ≠ gb640 ∧ k_ ≠ gb661) (.slice Ao55 t655.length co55) t655) := ⟨by (with_reducible repeat (first | apply Kd.N_alloc | apply Kd.N_drewN | apply Kd.N_drew)); exact Kd.N_mono (Kd.N_far (p := ⟨gb661, 3, none⟩) (Kd.N_far (p := ⟨gb661, 2, none⟩) (Kd.N_far (p := ⟨gb661, 1, none⟩) (Kd.N_far (p := ⟨gb661, 0, none⟩) (Kd.N_mono HO657.out (fun k_ hk => (⟨hk, hk.2⟩ : _ ∧ k_ ≠ gb661))) (fun _ hk => hk.2) (.slice Ao55 t655.length co55)) (fun _ hk => hk.2) (.int .i64 t658)) (fun _ hk => hk.2) (.int .i64 t659)) (fun _ hk => hk.2) (.int .i64 t660)) (fun _ hk => ⟨hk.1.1.1, ⟨hk.1.1.2, hk.1.2⟩⟩)⟩
      have n2_ : Aside0 (((((w54.setCell ⟨gb661, 0, none⟩ (.slice Ao55 t655.length co55)).setCell ⟨gb661, 1, none⟩ (.int .i64 t658)).setCell ⟨gb661, 2, none⟩ (.int .i64 t659)).setCell ⟨gb661, 3, none⟩ (.int .i64 t660)).heap[gb640]? = some (.cells #[.int .i64 t633, .int .i64 t634, .int .i64 t635, .int .i64 t636] 45 (0, 0))) := ⟨bf_ BK640⟩
      have n3_ : Aside0 (((((w54.setCell ⟨gb661, 0, none⟩ (.slice Ao55 t655.length co55)).setCell ⟨gb661, 1, none⟩ (.int .i64 t658)).setCell ⟨gb661, 2, none⟩ (.int .i64 t659)).setCell ⟨gb661, 3, none⟩ (.int .i64 t660)).heap[gb661]? = some (.cells #[.slice Ao55 t655.length co55, .int .i64 t658, .int .i64 t659, .int .i64 t660] 51 (0, 0))) := ⟨bq_ BK661⟩
      have n4_ : Aside0 (Below w.heap.size w ((((w54.setCell ⟨gb661, 0, none⟩ (.slice Ao55 t655.length co55)).setCell ⟨gb661, 1, none⟩ (.int .i64 t658)).setCell ⟨gb661, 2, none⟩ (.int .i64 t659)).setCell ⟨gb661, 3, none⟩ (.int .i64 t660))) := ⟨bl_⟩
      (try clear HO_6)
      (try clear HO657)
      (try clear BK640)
      (try clear BK661)
      (try clear HB)
      generalize ((((w54.setCell ⟨gb661, 0, none⟩ (.slice Ao55 t655.length co55)).setCell ⟨gb661, 1, none⟩ (.int .i64 t658)).setCell ⟨gb661, 2, none⟩ (.int .i64 t659)).setCell ⟨gb661, 3, none⟩ (.int .i64 t660)) = w58 at n0_ n1_ n2_ n3_ n4_ ⊢
      have HO_6 := n0_
      have HO657 := n1_
      have BK640 := n2_
      have BK661 := n3_
      have HB := n4_
      clear n0_ n1_ n2_ n3_ n4_
      replace HO_6 := am_ (Kd.N_drew HO_6.out)
      replace HO657 := am_ (Kd.N_drew HO657.out)
      replace BK640 := bd_ BK640
      replace BK661 := bd_ BK661
      replace HB := am_ (below_drew1 HB.out)
      refine start_ (n := 19) (S := fun w' => w'.cell? ⟨gb661, 0, none⟩ = some (.slice Ao55 t655.length co55) ∧ w'.cell? ⟨gb661, 1, none⟩ = some (.int .i64 t658) ∧ w'.cell? ⟨gb661, 2, none⟩ = some (.int .i64 t659) ∧ w'.cell? ⟨gb661, 3, none⟩ = some (.int .i64 t660)) (ds := []) (bs 19 0) (by kernel_rfl) rfl rfl ⟨(blk_cell BK661.out 0).trans rfl, (blk_cell BK661.out 1).trans rfl, (blk_cell BK661.out 2).trans rfl, (blk_cell BK661.out 3).trans rfl⟩ (fun hHeld => ?_); refine with_tabW F6.tab12 F6.bits12 (fun HT_ HW_ => ?_)
      generalize w58.drew = w59 at HO_6 HO657 BK640 BK661 HB hHeld ⊢
      refine pu_ 0 57 (bs 19 1) HT_ ?_ rfl rfl
      refine tk_ 1 58 (bs 19 3) HT_ HW_ hHeld au5_6 ?_ rfl rfl
      refine pu_ 2 59 (bs 19 7) HT_ ?_ rfl rfl
      refine pu_ 3 60 (bs 19 15) HT_ ?_ rfl rfl
      refine pu_ 4 61 (bs 19 31) HT_ ?_ rfl rfl
      refine pu_ 7 64 (bs 19 159) HT_ ?_ rfl rfl
      refine tk_ 5 62 (bs 19 191) HT_ HW_ hHeld au5_6 ?_ rfl rfl
      refine pu_ 6 63 (bs 19 255) HT_ ?_ rfl rfl
      refine pu_ 8 65 (bs 19 511) HT_ ?_ rfl rfl
      refine pu_ 9 66 (bs 19 1023) HT_ ?_ rfl rfl
      refine pu_ 10 67 (bs 19 2047) HT_ ?_ rfl rfl
      refine pv_ 11 68 (bs 19 4095) HT_ ?_ rfl rfl
      refine pv_ 12 69 (bs 19 8191) HT_ ?_ rfl rfl
      refine pv_ 13 70 (bs 19 16383) HT_ ?_ rfl rfl
      refine pv_ 14 71 (bs 19 32767) HT_ ?_ rfl rfl
      refine pv_ 15 72 (bs 19 65535) HT_ ?_ rfl rfl
      refine pv_ 16 73 (bs 19 131071) HT_ ?_ rfl rfl
      refine pu_ 17 74 (bs 19 262143) HT_ ?_ rfl rfl
      refine pu_ 18 4 (bs 19 524287) HT_ ?_ rfl rfl
      refine done_ (done_of HT_.out (by kernel_rfl)) ?_
      try go_wp2
      go_ret
      exact ⟨au5_0, bl_⟩
     rw [if_pos c38] at H
     have c38b0 : ((t655.length : Int) == t642) = true := beq_iff_eq.mpr c38
     have c38b1 : ((t655.length : Int) != t642) = false := bne_eq_false_iff_eq.mpr c38
     clear c38
     by_cases c39 : 0 ≤ t642
     rotate_left
     ·rw [if_neg c39] at H
      exact absurd H (by simp)
     rw [if_pos c39] at H
     have c39b0 := eq_true c39
     have c39b1 : decide (0 ≤ t642) = true := decide_eq_true c39
     clear c39
     by_cases c40 : t642 ≤ (t637.length : Int)
     rotate_left
     ·rw [if_neg c40] at H
      exact absurd H (by simp)
     rw [if_pos c40] at H
     have c40b0 := eq_true c40
     have c40b1 : decide (t642 ≤ (t637.length : Int)) = true := decide_eq_true c40
     clear c40
     obtain ⟨y662, hy662⟩ : ∃ y_ : List (S88), y_ = (t637.take (t642 : Int).toNat) := ⟨_, rfl⟩
     replace H : ((F22.f kj18 t655 y662).bind fun t667 => (some t667)) = some r := by first | (rw [hy662]; exact H) | exact H
     have Ny662 := am_ hy662
     clear hy662
     replace H := bi_ H; rcases H with ⟨t667, A41, H⟩
     obtain rfl := Option.some.inj H
     obtain ⟨hcz42_0, hcz42_1, hcz42_2, hcz42_3, hfz42_0, hfz42_1, hfz42_2, hfz42_3⟩ := cellsF4 BK640.out
     try go_wp2_with (first | (go_at_call 21; (with_reducible refine (F21.calls kj18 t633 t634 t635 t636 t654 t655 t658 t659 t660 _ A36.out).mono ?_); rintro e w43 ⟨v656, rfl, ho0, hb⟩; (try clear A36); have HO657 := am_ (Kd.N_lower (Kd.N_mono (ok' := fun k_ => some k_ ≠ (.slice Ao23 t637.length co23 : Value).ownBlock ∧ k_ ≠ gb640) (Kd.R_N (Kd.R_bound ho0)) (fun k_ hk_ => ⟨(Kd.fresh' (Kd.N_lt au5_4) k_ hk_.2.1), (Kd.freshB (g := gb640) (o := .cells #[.int .i64 t633, .int .i64 t634, .int .i64 t635, .int .i64 t636] 45 (0, 0)) (bk_ BK640) k_ hk_.2.1)⟩)) (below_size bl_)); replace HO_6 := am_ (Kd.N_elder' au5_4 (Kd.N_base (Kd.R_N ho0)) hb); replace BK640 := bb_ BK640 hb; replace HB := hs_ w hb; (try clear hb); (try clear hb2); (try clear hk); (try clear hi); (try clear ho0)) | ((with_reducible refine gate_dst (N := 10) rfl ?_); (try (refine gate_guard (by rfl) ?_; dsimp only)); refine be_ 10 #[.slice none 0 0, .int .i64 0, .int .i64 0, .int .i64 0] 51 ?_; intro gb661 hg w44 hbox hb; replace HO_6 := am_ (Kd.N_below (Kd.N_elderB au5_4 gb661 (Nat.le_of_eq hg.symm)) hb); replace HO657 := am_ (Kd.N_below (Kd.N_elderB au5_10 gb661 (Nat.le_of_eq hg.symm)) hb); have BK661 := am_ (hbox); have GW661 := am_ (gw_ hg bl_); have GE661 := GW661; replace HB := hs_ w hb; have NB640_661 := am_ (gn_ hg (blkl_ BK640)); have NB661_640 := am_ (gm_ hg (blkl_ BK640)); replace BK640 := bb_ BK640 hb; clear hb hbox hg; obtain ⟨Ao45, co45, eo45⟩ := Kd.N_slice HO657.out; subst eo45; have hnb46 := NB661_640.out; have hnc46 := NB640_661.out; obtain ⟨hcz47_0, hcz47_1, hcz47_2, hcz47_3, hfz47_0, hfz47_1, hfz47_2, hfz47_3⟩ := cellsF4 BK661.out))
     have n0_ : Aside0 (Kd.N k88 88 ((((w44.setCell ⟨gb661, 0, none⟩ (.slice Ao45 t655.length co45)).setCell ⟨gb661, 1, none⟩ (.int .i64 t658)).setCell ⟨gb661, 2, none⟩ (.int .i64 t659)).setCell ⟨gb661, 3, none⟩ (.int .i64 t660)) w.heap.size (fun k_ => some k_ ≠ (.slice Ao45 t655.length co45 : Value).ownBlock ∧ k_ ≠ gb640 ∧ k_ ≠ gb661) (.slice Ao23 t637.length co23) t637) := ⟨by (with_reducible repeat (first | apply Kd.N_alloc | apply Kd.N_drewN | apply Kd.N_drew)); exact Kd.N_mono (Kd.N_far (p := ⟨gb661, 3, none⟩) (Kd.N_far (p := ⟨gb661, 2, none⟩) (Kd.N_far (p := ⟨gb661, 1, none⟩) (Kd.N_far (p := ⟨gb661, 0, none⟩) (Kd.N_mono HO_6.out (fun k_ hk => (⟨hk, hk.2⟩ : _ ∧ k_ ≠ gb661))) (fun _ hk => hk.2) (.slice Ao45 t655.length co45)) (fun _ hk => hk.2) (.int .i64 t658)) (fun _ hk => hk.2) (.int .i64 t659)) (fun _ hk => hk.2) (.int .i64 t660)) (fun _ hk => ⟨hk.1.1.2, ⟨hk.1.1.1, hk.1.2⟩⟩)⟩
     have n1_ : Aside0 (Kd.N k88 88 ((((w44.setCell ⟨gb661, 0, none⟩ (.slice Ao45 t655.length co45)).setCell ⟨gb661, 1, none⟩ (.int .i64 t658)).setCell ⟨gb661, 2, none⟩ (.int .i64 t659)).setCell ⟨gb661, 3, none⟩ (.int .i64 t660)) w.heap.size (fun k_ => some k_ ≠ (.slice Ao23 t637.length co23 : Value).ownBlock ∧ k_ ≠ gb640 ∧ k_ ≠ gb661) (.slice Ao45 t655.length co45) t655) := ⟨by (with_reducible repeat (first | apply Kd.N_alloc | apply Kd.N_drewN | apply Kd.N_drew)); exact Kd.N_mono (Kd.N_far (p := ⟨gb661, 3, none⟩) (Kd.N_far (p := ⟨gb661, 2, none⟩) (Kd.N_far (p := ⟨gb661, 1, none⟩) (Kd.N_far (p := ⟨gb661, 0, none⟩) (Kd.N_mono HO657.out (fun k_ hk => (⟨hk, hk.2⟩ : _ ∧ k_ ≠ gb661))) (fun _ hk => hk.2) (.slice Ao45 t655.length co45)) (fun _ hk => hk.2) (.int .i64 t658)) (fun _ hk => hk.2) (.int .i64 t659)) (fun _ hk => hk.2) (.int .i64 t660)) (fun _ hk => ⟨hk.1.1.1, ⟨hk.1.1.2, hk.1.2⟩⟩)⟩
     have n2_ : Aside0 (((((w44.setCell ⟨gb661, 0, none⟩ (.slice Ao45 t655.length co45)).setCell ⟨gb661, 1, none⟩ (.int .i64 t658)).setCell ⟨gb661, 2, none⟩ (.int .i64 t659)).setCell ⟨gb661, 3, none⟩ (.int .i64 t660)).heap[gb640]? = some (.cells #[.int .i64 t633, .int .i64 t634, .int .i64 t635, .int .i64 t636] 45 (0, 0))) := ⟨bf_ BK640⟩
     have n3_ : Aside0 (((((w44.setCell ⟨gb661, 0, none⟩ (.slice Ao45 t655.length co45)).setCell ⟨gb661, 1, none⟩ (.int .i64 t658)).setCell ⟨gb661, 2, none⟩ (.int .i64 t659)).setCell ⟨gb661, 3, none⟩ (.int .i64 t660)).heap[gb661]? = some (.cells #[.slice Ao45 t655.length co45, .int .i64 t658, .int .i64 t659, .int .i64 t660] 51 (0, 0))) := ⟨bq_ BK661⟩
     have n4_ : Aside0 (Below w.heap.size w ((((w44.setCell ⟨gb661, 0, none⟩ (.slice Ao45 t655.length co45)).setCell ⟨gb661, 1, none⟩ (.int .i64 t658)).setCell ⟨gb661, 2, none⟩ (.int .i64 t659)).setCell ⟨gb661, 3, none⟩ (.int .i64 t660))) := ⟨bl_⟩
     (try clear HO_6)
     (try clear HO657)
     (try clear BK640)
     (try clear BK661)
     (try clear HB)
     generalize ((((w44.setCell ⟨gb661, 0, none⟩ (.slice Ao45 t655.length co45)).setCell ⟨gb661, 1, none⟩ (.int .i64 t658)).setCell ⟨gb661, 2, none⟩ (.int .i64 t659)).setCell ⟨gb661, 3, none⟩ (.int .i64 t660)) = w48 at n0_ n1_ n2_ n3_ n4_ ⊢
     have HO_6 := n0_
     have HO657 := n1_
     have BK640 := n2_
     have BK661 := n3_
     have HB := n4_
     clear n0_ n1_ n2_ n3_ n4_
     replace HO_6 := am_ (Kd.N_drew HO_6.out)
     replace HO657 := am_ (Kd.N_drew HO657.out)
     replace BK640 := bd_ BK640
     replace BK661 := bd_ BK661
     replace HB := am_ (below_drew1 HB.out)
     have q50 : (t642 : Int) ≤ ((t637.length : Int) : Int) := od_
     obtain ⟨i050, hi050, _, hsz50, _⟩ := info_parts info88
     have hroom50 : t637.length ≤ co23 := (Kd.N_reads' HO_6.out).2.1
     have hC50 : Kd.F k88 _ _ Ao23 t637.length t637 := (Kd.V_at (base := w.heap.size) (Kd.N_V HO_6.out)).2.2
     try clear hcut26
     have hcut50 := cut_to (P := Try.prog) 46 88 .i64 Try.underlying46 hi050 Ao23 t637.length co23 t642 (of_decide_eq_true as_) q50 hroom50
     have hr50 := Kd.F_take (m := (t642 : Int).toNat) hC50 (by omega)
     have hy50 : y662.length = (t642 : Int).toNat := (by rw [Ny662.out, List.length_take]; omega)
     rw [← Ny662.out] at hr50
     rw [← hy50] at hcut50
     have HO666 := am_ (show Kd.V k88 88 _ w.heap.size _ (.slice Ao23 y662.length co23) y662 from Kd.V_mk (by omega) hr50)
     have HC666 := am_ (show y662.length ≤ co23 from by omega)
     clear hr50 hC50 hroom50 hi050 hsz50
     have KY50 := am_ hy50
     clear hy50
     replace q50 := eq_true q50
     refine start_ (n := 19) (S := fun w' => w'.cell? ⟨gb661, 0, none⟩ = some (.slice Ao45 t655.length co45) ∧ w'.cell? ⟨gb661, 1, none⟩ = some (.int .i64 t658) ∧ w'.cell? ⟨gb661, 2, none⟩ = some (.int .i64 t659) ∧ w'.cell? ⟨gb661, 3, none⟩ = some (.int .i64 t660)) (ds := []) (bs 19 0) (by kernel_rfl) rfl rfl ⟨(blk_cell BK661.out 0).trans rfl, (blk_cell BK661.out 1).trans rfl, (blk_cell BK661.out 2).trans rfl, (blk_cell BK661.out 3).trans rfl⟩ (fun hHeld => ?_); refine with_tabW F6.tab12 F6.bits12 (fun HT_ HW_ => ?_)
     generalize w48.drew = w49 at HO_6 HO657 BK640 BK661 HB HO666 hHeld ⊢
     refine pu_ 0 57 (bs 19 1) HT_ ?_ rfl rfl
     refine tk_ 1 58 (bs 19 3) HT_ HW_ hHeld au5_6 ?_ rfl rfl
     refine pu_ 2 59 (bs 19 7) HT_ ?_ rfl rfl
     refine pu_ 3 60 (bs 19 15) HT_ ?_ rfl rfl
     refine pu_ 4 61 (bs 19 31) HT_ ?_ rfl rfl
     refine pu_ 7 64 (bs 19 159) HT_ ?_ rfl rfl
     refine tk_ 5 62 (bs 19 191) HT_ HW_ hHeld au5_6 ?_ rfl rfl
     refine pu_ 6 63 (bs 19 255) HT_ ?_ rfl rfl
     refine pu_ 8 65 (bs 19 511) HT_ ?_ rfl rfl
     refine pu_ 9 66 (bs 19 1023) HT_ ?_ rfl rfl
     refine pu_ 10 67 (bs 19 2047) HT_ ?_ rfl rfl
     refine pu_ 11 68 (bs 19 4095) HT_ ?_ rfl rfl
     refine pu_ 13 70 (bs 19 12287) HT_ ?_ rfl rfl
     refine pu_ 14 71 (bs 19 28671) HT_ ?_ rfl rfl
     refine pu_ 15 72 (bs 19 61439) HT_ ?_ rfl rfl
     refine tk_ 12 69 (bs 19 65535) HT_ HW_ hHeld au5_6 ?_ rfl rfl
     refine one_ (i := 16) (N := some 73) (bs 19 131071) rfl rfl (one_of HT_.out (by kernel_rfl)) (by decide) (fun K hK => ?_)
     refine gr_ Try.func22 #[.slice Ao45 t655.length co45, .slice Ao23 y662.length co23] (by rfl) ?_ rfl rfl rfl
     with_reducible refine (F22.calls kj18 _ _ t655 _ _ y662 t667 _ ?s1 ?s2 ?s3 ?s4 A41.out).mono ?_
     (case s1 => repeat (first | exact (Kd.N_reads' HO657.out).2.2 | (with_reducible refine Kd.C_alloc ?_ _) | (with_reducible refine Kd.C_drewN ?_ _) | (with_reducible refine Kd.C_drew ?_)))
     (case s2 => exact (Kd.N_reads' HO657.out).2.1)
     (case s3 => repeat (first | exact (Kd.V_reads' HO666.out).2.2 | (with_reducible refine Kd.C_alloc ?_ _) | (with_reducible refine Kd.C_drewN ?_ _) | (with_reducible refine Kd.C_drew ?_)))
     (case s4 => exact (Kd.V_reads' HO666.out).2.1)
     rintro e w51 ⟨rfl, hb⟩
     refine ⟨_, rfl, ?_⟩
     replace HO_6 := am_ (Kd.N_below au5_4 hb)
     replace HO657 := am_ (Kd.N_below au5_10 hb)
     replace HO666 := am_ (Kd.V_below (by (with_reducible repeat (first | apply Kd.V_alloc | apply Kd.V_drewN | apply Kd.V_drew)); exact HO666.out) hb)
     replace BK640 := bb_ BK640 hb
     replace BK661 := bb_ BK661 hb
     replace HB := hs_ w hb
     (try clear hb)
     (try clear hb2)
     (try clear hk)
     (try clear hi)
     refine hK.out _ _ ⟨(blk_cell BK661.out 0).trans rfl, (blk_cell BK661.out 1).trans rfl, (blk_cell BK661.out 2).trans rfl, (blk_cell BK661.out 3).trans rfl⟩ (fun hHeld => ?_)
     clear hK K
     refine no_ 73 ?_
     refine pu_ 17 74 (bs 19 262143) HT_ ?_ rfl rfl
     refine pu_ 18 4 (bs 19 524287) HT_ ?_ rfl rfl
     refine done_ (done_of HT_.out (by kernel_rfl)) ?_
     try go_wp2
     go_ret
     exact ⟨au5_0, bl_⟩
/-- THE ONE PURE STATEMENT of F6: yours. -/
def F6.Pure : Prop := ∀ (l0 : List Int) (l1 : List Int), l0.length ≤ maxLen → l0.length * 1 ≤ 140737488351232 → (∀ x ∈ l0, (Lit.int .u8 x).wf = true) → l1.length ≤ maxLen → l1.length * 1 ≤ 140737488351232 → (∀ x ∈ l1, (Lit.int .u8 x).wf = true) → ∃ k, F6.f k l0 l1 = some true
theorem F6.walk (P : F6.Pure) (a0 : Option Addr) (len0 cap0 : Nat) (z0 : List Int) (a1 : Option Addr) (len1 cap1 : Nat) (z1 : List Int) (w : World) (w0 : (a0 = none ∧ len0 = 0 ∧ cap0 = 0 ∧ z0 = []) ∨ ∃ x, a0 = some x ∧ len0 ≤ cap0 ∧ cap0 ≤ maxLen ∧ z0.length = cap0 ∧ (∀ i, i < z0.length → w.cell? (x.add i) = some (.int .u8 (z0.getD i 0))) ∧ ∀ n ∈ z0, (Lit.int .u8 n).wf = true) (y0 : len0 * 1 ≤ 140737488351232) (w1 : (a1 = none ∧ len1 = 0 ∧ cap1 = 0 ∧ z1 = []) ∨ ∃ x, a1 = some x ∧ len1 ≤ cap1 ∧ cap1 ≤ maxLen ∧ z1.length = cap1 ∧ (∀ i, i < z1.length → w.cell? (x.add i) = some (.int .u8 (z1.getD i 0))) ∧ ∀ n ∈ z1, (Lit.int .u8 n).wf = true) (y1 : len1 * 1 ≤ 140737488351232) :
  Calls Try.prog 6 #[.slice a0 len0 cap0, .slice a1 len1 cap1] w fun e w' => e = .returned (.bool true) ∧ Below w.heap.size w w' := by
 obtain ⟨l0, rfl, hr0, hm0, hw0, hc0⟩ := ReadsInt.ofRowC w0
 obtain ⟨l1, rfl, hr1, hm1, hw1, hc1⟩ := ReadsInt.ofRowC w1
 obtain ⟨k, h⟩ := P l0 l1 hm0 y0 hw0 hm1 y1 hw1
 refine (F6.calls k _ _ l0 _ _ l1 true w (Kd.C_of_reads (d := (0 : Int)) (h1 := fun _ => rfl) hr0) hc0 (Kd.C_of_reads (d := (0 : Int)) (h1 := fun _ => rfl) hr1) hc1 h).mono ?_
 rintro e w' ⟨rfl, hd⟩
 exact ⟨rfl, hd⟩
end Go.Proofs.Ytlghcbmkhdibdaa.PFnFirstSegments
