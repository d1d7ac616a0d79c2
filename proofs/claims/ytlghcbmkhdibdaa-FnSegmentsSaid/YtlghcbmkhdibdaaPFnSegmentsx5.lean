-- printed by a program of this session (wip/xp/xprint.py) out of the translation; Lean checks it
import Derived.Test.YtlghcbmkhdibdaaPFnSegmentsx0
import Derived.Test.YtlghcbmkhdibdaaPFnSegmentsx2
import Derived.Test.YtlghcbmkhdibdaaPFnSegmentsx3
import Derived.Test.YtlghcbmkhdibdaaPFnSegmentsx4
namespace Go.Proofs.Ytlghcbmkhdibdaa.PFnSegments
open Go.RowKit Go.Proofs.YtlghcbmkhdibdaaW.PrintWords Go.Proofs.YtlghcbmkhdibdaaW.PrintLast Go.Proofs.YtlghcbmkhdibdaaW.PrintMore
attribute [local go_sem] max2_int min2_int max_two min_two max_three min_three max_four min_four   -- for this text's walks alone
set_option linter.unusedVariables false
set_option linter.unusedSimpArgs false
set_option maxHeartbeats 60000000
set_option maxRecDepth 100000

theorem au5_0 {p : Prop} (h : p := by first | rfl | (simp [errW_none, errW_some] <;> rfl) | (simp [*, errW_none, errW_some] <;> rfl)) : p := h
theorem au5_1 {p : Prop} (h : p := by (with_reducible repeat (first | apply Kd.S_alloc | apply Kd.S_drewN | apply Kd.S_drew)); exact HO609.out) : p := h
theorem au5_2 {p : Prop} (h : p := by (with_reducible repeat (first | apply Kd.R_alloc | apply Kd.R_drewN | apply Kd.R_drew)); exact Kd.R_mono HO_5.out (fun _ hk => hk.2)) : p := h
theorem au5_3 {p : Prop} (h : p := by simp only [putAll, Act.put, List.setIfInBounds_toArray, List.set_cons_zero, List.set_cons_succ]) : p := h
theorem au5_4 {p : Prop} (h : p := by (with_reducible repeat (first | apply Kd.R_alloc | apply Kd.R_drewN | apply Kd.R_drew)); exact (Kd.R_mono (Kd.R_far (p := ⟨gb648, 3, none⟩) (Kd.R_far (p := ⟨gb648, 2, none⟩) (Kd.R_far (p := ⟨gb648, 1, none⟩) (Kd.R_far (p := ⟨gb648, 0, none⟩) (Kd.R_types HO644.out BK648.out (by decide)) (fun _ hk => hk.2) (.slice Ao22 t642.length co22)) (fun _ hk => hk.2) (.int .i64 t645)) (fun _ hk => hk.2) (.int .i64 t646)) (fun _ hk => hk.2) (.int .i64 t647)) (fun _ h_ => h_.1))) : p := h
theorem au5_5 {p : Prop} (h : p := by (with_reducible repeat (first | apply Kd.R_alloc | apply Kd.R_drewN | apply Kd.R_drew)); exact (Kd.R_mono (Kd.R_far (p := ⟨gb648, 3, none⟩) (Kd.R_far (p := ⟨gb648, 2, none⟩) (Kd.R_far (p := ⟨gb648, 1, none⟩) (Kd.R_far (p := ⟨gb648, 0, none⟩) (Kd.R_types HO_4.out BK648.out (by decide)) (fun _ hk => hk.2) (.slice Ao22 t642.length co22)) (fun _ hk => hk.2) (.int .i64 t645)) (fun _ hk => hk.2) (.int .i64 t646)) (fun _ hk => hk.2) (.int .i64 t647)) (fun _ h_ => h_.1))) : p := h
theorem au5_6 {p : Prop} (h : p := by (with_reducible repeat (first | apply Kd.R_alloc | apply Kd.R_drewN | apply Kd.R_drew)); exact (Kd.R_mono (Kd.R_far (p := ⟨gb639, 3, none⟩) (Kd.R_far (p := ⟨gb639, 2, none⟩) (Kd.R_far (p := ⟨gb639, 1, none⟩) (Kd.R_far (p := ⟨gb639, 0, none⟩) (Kd.R_types HO638.out BK639.out (by decide)) (fun _ hk => hk.2) (.int .i64 t632)) (fun _ hk => hk.2) (.int .i64 t633)) (fun _ hk => hk.2) (.int .i64 t634)) (fun _ hk => hk.2) (.int .i64 t635)) (fun _ h_ => h_.1))) : p := h
theorem au5_7 {p : Prop} (h : p := by first | exact Kd.R_nil _ _ _ _ _ | exact Kd.N_nil _ _ _ _ _ | exact Kd.V_nil _ _ _ _ _ | exact Kd.Q_nil _ _ _ _ _ | exact Kd.S_nil _ _ _ _ _) : p := h
theorem au5_8 {p : Prop} (h : p := by repeat (first | exact (Kd.R_reads' HO600.out).2.2 | (with_reducible refine Kd.C_alloc ?_ _) | (with_reducible refine Kd.C_drewN ?_ _) | (with_reducible refine Kd.C_drew ?_))) : p := h
theorem au5_9 {p : Prop} (h : p := by repeat (first | exact (Kd.C_below HR629_1.out HB.out) | (with_reducible refine Kd.C_alloc ?_ _) | (with_reducible refine Kd.C_drewN ?_ _) | (with_reducible refine Kd.C_drew ?_))) : p := h
theorem au5_10 {p : Prop} (h : p := by repeat (first | exact (Kd.C_below HR630_1.out HB.out) | (with_reducible refine Kd.C_alloc ?_ _) | (with_reducible refine Kd.C_drewN ?_ _) | (with_reducible refine Kd.C_drew ?_))) : p := h
theorem au5_11 {p : Prop} (h : p := by rintro w' ⟨s0, s1, s2, s3, s4⟩; go_simp; with_reducible rfl) : p := h
theorem au5_12 {p : Prop} (h : p := by exact (Reps.one (show Kd.M Kd.string _ _ _ a1 [.string a1] from rfl) (Reps.none _ _))) : p := h
theorem au5_13 {p : Prop} (h : p := by rintro w' ⟨s0, s1, s2, s3⟩; go_simp; with_reducible rfl) : p := h
theorem au5_14 {p : Prop} (h : p := by first | omega | exact Nat.le_refl _) : p := h

/-! ### F21: function 21 -/
def F21.l0 : Nat → ByteArray → List (S88) → Int → Int → Int → Int → Int → Option ((List (S88)) × Int × Int × Int)
  | 0, _, _, _, _, _, _, _ => none
  | k + 1, x1, x5, x6, x597000, x597001, x597002, x597003 => if x6 < (x1.size : Int) then (if 0 ≤ x6 then (if x6 ≤ (x1.size : Int) then ((F52.f k x597000 x597001 x597002 x597003 (x1.extract (x6 : Int).toNat x1.size)).bind fun bt606 => (if (x5.length : Int) = 200 then (if 7 = 0 then (if x5.length < 3518437208883 then (F21.l0 k x1 (x5 ++ [(⟨(⟨#[]⟩ : ByteArray), ([] : List (S122))⟩ : S88)]) (wrap64 (x6 + 0)) x597000 x597001 x597002 x597003) else (none)) else (some (([] : List (S88)), wrap64 (x6 + 0), (x5.length : Int), 7))) else (if bt606.2.2.2.2 = 0 then (if x5.length < 3518437208883 then (F21.l0 k x1 (x5 ++ [(⟨bt606.1, bt606.2.1⟩ : S88)]) (wrap64 (x6 + bt606.2.2.1)) x597000 x597001 x597002 x597003) else (none)) else (some (([] : List (S88)), wrap64 (x6 + bt606.2.2.2.1), (x5.length : Int), bt606.2.2.2.2))))) else (none)) else (none)) else (some (x5, 0, 0, 0))
def F21.f (k : Nat) (a0_0 : Int) (a0_1 : Int) (a0_2 : Int) (a0_3 : Int) (a1 : ByteArray) : Option ((List (S88)) × Int × Int × Int) := (F51.f k (([a1] : List ByteArray))).bind fun t601 => (if t601 = true then (some (([] : List (S88)), 0, 0, 2)) else ((F46.f k a0_0 a0_1 a0_2 a0_3).bind fun t602 => (if t602 = true then (F21.l0 k a1 (([] : List (S88))) 0 a0_0 a0_1 a0_2 a0_3) else (some (([] : List (S88)), 0, 0, 1)))))
theorem F21.mono_l : ∀ k, (∀ y0 y1 y2 y3 y4 y5 y6, LeO (F21.l0 k y0 y1 y2 y3 y4 y5 y6) (F21.l0 (k + 1) y0 y1 y2 y3 y4 y5 y6))
 | 0 => fun _ _ _ _ _ _ _ r h => by simp [F21.l0] at h
 | k + 1 => by
  have ih0 := F21.mono_l k
  intro y0 y1 y2 y3 y4 y5 y6
  unfold F21.l0
  repeat' with_reducible first | exact ih0 _ _ _ _ _ _ _ | exact F52.mono _ _ _ _ _ _ | exact F46.mono _ _ _ _ _ | exact F51.mono _ _ | exact LeO.refl _ | exact LeO.none _ | refine LeO.ite ?_ ?_ | refine LeO.bind ?_ (fun _ => ?_)
theorem F21.mono : ∀ a0 a1 a2 a3 a4 k, LeO (F21.f k a0 a1 a2 a3 a4) (F21.f (k + 1) a0 a1 a2 a3 a4) := by
 intro a0 a1 a2 a3 a4 k
 have ih0 := F21.mono_l k
 unfold F21.f
 repeat' with_reducible first | exact ih0 _ _ _ _ _ _ _ | exact F52.mono _ _ _ _ _ _ | exact F46.mono _ _ _ _ _ | exact F51.mono _ _ | exact LeO.refl _ | exact LeO.none _ | refine LeO.ite ?_ ?_ | refine LeO.bind ?_ (fun _ => ?_)
def F21.T12 : Bool × List (List Nat × List Nat) := (true, [([], []), ([], []), ([1], [1]), ([2], [2]), ([0, 3], [0, 3]), ([], []), ([], []), ([6], [6]), ([5, 7], [5, 7]), ([4, 4, 0, 1, 2, 3, 4], [0, 4]), ([8, 9, 0, 1, 2, 3, 4, 5, 6, 7, 8, 9], [5, 8])])
def F21.B12 : List Nat := [0, 0, 2, 6, 15, 0, 0, 64, 224, 31, 1023]
theorem F21.tab12 : rtab .any (opsOf Try.f21 12) = F21.T12 := by kernel_rfl
theorem F21.bits12 : waitsOk F21.T12.2 F21.B12 = true := by kernel_rfl
theorem F21.calls (k : Nat) (a0_0 : Int) (a0_1 : Int) (a0_2 : Int) (a0_3 : Int) (a1 : ByteArray) (r1 : List (S88)) (r2 : Int) (r3 : Int) (r4 : Int) (w : World) (h : F21.f k a0_0 a0_1 a0_2 a0_3 a1 = some (r1, r2, r3, r4)) :
  Calls Try.prog 21 #[.agg #[.int .i64 a0_0, .int .i64 a0_1, .int .i64 a0_2, .int .i64 a0_3], .string a1] w fun e w' => ∃ v0_ : Value, e = .returned (.agg #[v0_, .int .i64 r2, .int .i64 r3, .int .i64 r4]) ∧ Kd.R k88 88 w' w.heap.size (fun _ => True) v0_ r1 ∧ Below w.heap.size w w' := by
 have hu45 := Try.underlying45
 have hu51 := Try.underlying51
 have hu94 := Try.underlying94
 have hu88 := Try.underlying88
 have HB := am_ (Below.refl w.heap.size w)
 have H : ((F51.f k (([a1] : List ByteArray))).bind fun t601 => (if t601 = true then (some (([] : List (S88)), 0, 0, 2)) else ((F46.f k a0_0 a0_1 a0_2 a0_3).bind fun t602 => (if t602 = true then (F21.l0 k a1 (([] : List (S88))) 0 a0_0 a0_1 a0_2 a0_3) else (some (([] : List (S88)), 0, 0, 1)))))) = some (r1, r2, r3, r4) := h
 clear h
 obtain ⟨y598, hy598⟩ : ∃ y_ : List ByteArray, y_ = (([a1] : List ByteArray)) := ⟨_, rfl⟩
 replace H : ((F51.f k y598).bind fun t601 => (if t601 = true then (some (([] : List (S88)), 0, 0, 2)) else ((F46.f k a0_0 a0_1 a0_2 a0_3).bind fun t602 => (if t602 = true then (F21.l0 k a1 (([] : List (S88))) 0 a0_0 a0_1 a0_2 a0_3) else (some (([] : List (S88)), 0, 0, 1)))))) = some (r1, r2, r3, r4) := by first | (rw [hy598]; exact H) | exact H
 have Ny598 := am_ hy598
 clear hy598
 replace H := bi_ H; rcases H with ⟨t601, A3, H⟩
 replace H := ib_ H; rcases H with ⟨rfl, H⟩ | ⟨rfl, H⟩
 ·simp only [Option.some.injEq, Prod.mk.injEq] at H
  obtain ⟨rfl, rfl, rfl, rfl⟩ := H
  go_enter Try.func21, Try.ntmps21
  go_wp2_with (first | ((with_reducible refine gate_dst (N := 2) rfl ?_); refine be_ 2 #[.int .i64 a0_0, .int .i64 a0_1, .int .i64 a0_2, .int .i64 a0_3] 45 ?_; intro gb596 hg w5 hbox hb; have BK596 := am_ (hbox); have GW596 := am_ (gw_ hg bl_); have GE596 := GW596; replace HB := hs_ w hb; clear hb hbox hg) | ((with_reducible refine gate_dst (N := 4) rfl ?_); refine be_ 4 #[.slice none 0 0, .int .i64 0, .int .i64 0, .int .i64 0] 51 ?_; intro gb597 hg w6 hbox hb; have BK597 := am_ (hbox); have GW597 := am_ (gw_ hg bl_); have GE597 := GW597; replace HB := hs_ w hb; have NB596_597 := am_ (gn_ hg (blkl_ BK596)); have NB597_596 := am_ (gm_ hg (blkl_ BK596)); replace BK596 := bb_ BK596 hb; clear hb hbox hg) | ((with_reducible refine gate_dst (N := 10) rfl ?_); refine Kd.R_lit Kd.string _ 9 ?hg (N := 10) ?hd (xs := ([a1] : List ByteArray)) (inner := [.string a1]) (ok := fun _ => True) (okp := fun _ => True) ?hr ?hp (fun _ hk => hk) trivial (Below.refl _ _) (Nat.le_refl _) (by simp) ?_; (case hd => rfl); (case hg => rfl); (case hr => exact hr_); (case hp => exact au5_12); intro v599 w7 ho8 hb hg_ hnew_; clear hg_ hnew_; (first | rw [← Ny598.out] at ho8 | (simp only [Int.reduceToNat] at ho8; rw [← Ny598.out] at ho8)); have HO600 := am_ (Kd.R_lower ho8 (below_size bl_)); replace BK596 := bb_ BK596 hb; replace BK597 := bb_ BK597 hb; replace HB := hs_ w hb; clear hb ho8; obtain ⟨Ao9, co9, eo9⟩ := Kd.R_slice HO600.out; subst eo9) | ((with_reducible refine gate_callee (f := 51) rfl ?_); refine gl_ 11 Try.func51 #[.slice Ao9 y598.length co9] ?_ rfl rfl rfl rfl; (with_reducible refine (F51.calls k _ _ y598 true _ ?s1 ?s2 A3.out).mono ?_); (case s1 => exact au5_8); (case s2 => exact (Kd.R_reads' HO600.out).2.1); rintro e w' ⟨rfl, ⟨nd, rfl⟩⟩; refine ⟨_, rfl, ?_⟩; (try (rw [drewN_self w7]; generalize hq_ : World.drewN w7 _ = w7; have n0_ : Aside0 (Kd.R Kd.string 9 w7 w.heap.size (fun _ => True) (.slice Ao9 y598.length co9) y598) := ⟨by rw [← hq_]; exact (rk_ HO600)⟩; have n1_ : Aside0 (w7.heap[gb596]? = some (.cells #[.int .i64 a0_0, .int .i64 a0_1, .int .i64 a0_2, .int .i64 a0_3] 45 (0, 0))) := ⟨by rw [← hq_]; exact (bk_ BK596)⟩; have n2_ : Aside0 (w7.heap[gb597]? = some (.cells #[.slice none 0 0, .int .i64 0, .int .i64 0, .int .i64 0] 51 (0, 0))) := ⟨by rw [← hq_]; exact (bk_ BK597)⟩; have n3_ : Aside0 (Below w.heap.size w w7) := ⟨by rw [← hq_]; exact bl_⟩; clear HO600 BK596 BK597 HB hq_; have HO600 := n0_; have BK596 := n1_; have BK597 := n2_; have HB := n3_; clear n0_ n1_ n2_ n3_)); have hnb10 := NB597_596.out; have hnc10 := NB596_597.out; obtain ⟨hcz11_0, hcz11_1, hcz11_2, hcz11_3, hfz11_0, hfz11_1, hfz11_2, hfz11_3⟩ := cellsF4 BK597.out))
  refine bodyPost_ret (results_cell_row rfl _ _ gb597 51 #[.slice none 0 0, .int .i64 0, .int .i64 0, .int .i64 2] (0, 0) _ rfl (bq_ BK597) Try.underlying51 rfl (by kernel_rfl)) rfl ?_
  exact ⟨_, au5_0, au5_7, bl_⟩
 replace H := bi_ H; rcases H with ⟨t602, A12, H⟩
 replace H := ib_ H; rcases H with ⟨rfl, H⟩ | ⟨rfl, H⟩
 rotate_left
 ·simp only [Option.some.injEq, Prod.mk.injEq] at H
  obtain ⟨rfl, rfl, rfl, rfl⟩ := H
  go_enter Try.func21, Try.ntmps21
  go_wp2_with (first | ((with_reducible refine gate_dst (N := 2) rfl ?_); refine be_ 2 #[.int .i64 a0_0, .int .i64 a0_1, .int .i64 a0_2, .int .i64 a0_3] 45 ?_; intro gb596 hg w102 hbox hb; have BK596 := am_ (hbox); have GW596 := am_ (gw_ hg bl_); have GE596 := GW596; replace HB := hs_ w hb; clear hb hbox hg) | ((with_reducible refine gate_dst (N := 4) rfl ?_); refine be_ 4 #[.slice none 0 0, .int .i64 0, .int .i64 0, .int .i64 0] 51 ?_; intro gb597 hg w103 hbox hb; have BK597 := am_ (hbox); have GW597 := am_ (gw_ hg bl_); have GE597 := GW597; replace HB := hs_ w hb; have NB596_597 := am_ (gn_ hg (blkl_ BK596)); have NB597_596 := am_ (gm_ hg (blkl_ BK596)); replace BK596 := bb_ BK596 hb; clear hb hbox hg) | ((with_reducible refine gate_dst (N := 10) rfl ?_); refine Kd.R_lit Kd.string _ 9 ?hg (N := 10) ?hd (xs := ([a1] : List ByteArray)) (inner := [.string a1]) (ok := fun _ => True) (okp := fun _ => True) ?hr ?hp (fun _ hk => hk) trivial (Below.refl _ _) (Nat.le_refl _) (by simp) ?_; (case hd => rfl); (case hg => rfl); (case hr => exact hr_); (case hp => exact au5_12); intro v599 w104 ho105 hb hg_ hnew_; clear hg_ hnew_; (first | rw [← Ny598.out] at ho105 | (simp only [Int.reduceToNat] at ho105; rw [← Ny598.out] at ho105)); have HO600 := am_ (Kd.R_lower ho105 (below_size bl_)); replace BK596 := bb_ BK596 hb; replace BK597 := bb_ BK597 hb; replace HB := hs_ w hb; clear hb ho105; obtain ⟨Ao106, co106, eo106⟩ := Kd.R_slice HO600.out; subst eo106) | ((with_reducible refine gate_callee (f := 51) rfl ?_); refine gl_ 11 Try.func51 #[.slice Ao106 y598.length co106] ?_ rfl rfl rfl rfl; (with_reducible refine (F51.calls k _ _ y598 false _ ?s1 ?s2 A3.out).mono ?_); (case s1 => exact au5_8); (case s2 => exact (Kd.R_reads' HO600.out).2.1); rintro e w' ⟨rfl, ⟨nd, rfl⟩⟩; refine ⟨_, rfl, ?_⟩; (try (rw [drewN_self w104]; generalize hq_ : World.drewN w104 _ = w104; have n0_ : Aside0 (Kd.R Kd.string 9 w104 w.heap.size (fun _ => True) (.slice Ao106 y598.length co106) y598) := ⟨by rw [← hq_]; exact (rk_ HO600)⟩; have n1_ : Aside0 (w104.heap[gb596]? = some (.cells #[.int .i64 a0_0, .int .i64 a0_1, .int .i64 a0_2, .int .i64 a0_3] 45 (0, 0))) := ⟨by rw [← hq_]; exact (bk_ BK596)⟩; have n2_ : Aside0 (w104.heap[gb597]? = some (.cells #[.slice none 0 0, .int .i64 0, .int .i64 0, .int .i64 0] 51 (0, 0))) := ⟨by rw [← hq_]; exact (bk_ BK597)⟩; have n3_ : Aside0 (Below w.heap.size w w104) := ⟨by rw [← hq_]; exact bl_⟩; clear HO600 BK596 BK597 HB hq_; have HO600 := n0_; have BK596 := n1_; have BK597 := n2_; have HB := n3_; clear n0_ n1_ n2_ n3_)); have hnb107 := NB596_597.out; have hnc107 := NB597_596.out; obtain ⟨hcz108_0, hcz108_1, hcz108_2, hcz108_3, hfz108_0, hfz108_1, hfz108_2, hfz108_3⟩ := cellsF4 BK596.out) | ((with_reducible refine gate_callee (f := 46) rfl ?_); refine gl_ 15 Try.func46 #[.agg #[.int .i64 a0_0, .int .i64 a0_1, .int .i64 a0_2, .int .i64 a0_3]] ?_ rfl rfl rfl rfl; (with_reducible refine (F46.calls k a0_0 a0_1 a0_2 a0_3 false _ A12.out).mono ?_); rintro e w109 ⟨rfl, hb⟩; refine ⟨_, rfl, ?_⟩; replace HO600 := am_ (Kd.R_below (rk_ HO600) hb); replace BK596 := bb_ BK596 hb; replace BK597 := bb_ BK597 hb; replace HB := hs_ w hb; (try clear hb); obtain ⟨hcz110_0, hcz110_1, hcz110_2, hcz110_3, hfz110_0, hfz110_1, hfz110_2, hfz110_3⟩ := cellsF4 BK597.out))
  refine bodyPost_ret (results_cell_row rfl _ _ gb597 51 #[.slice none 0 0, .int .i64 0, .int .i64 0, .int .i64 1] (0, 0) _ rfl (bq_ BK597) Try.underlying51 rfl (by kernel_rfl)) rfl ?_
  exact ⟨_, au5_0, au5_7, bl_⟩

 obtain ⟨y603, hy603⟩ : ∃ y_ : List (S88), y_ = (([] : List (S88))) := ⟨_, rfl⟩
 replace H : (F21.l0 k a1 y603 0 a0_0 a0_1 a0_2 a0_3) = some (r1, r2, r3, r4) := by first | (rw [hy603]; exact H) | exact H
 have Ny603 := am_ hy603
 clear hy603
 have H' := am_ H
 clear H
 go_enter Try.func21, Try.ntmps21
 go_wp2_with (first | ((with_reducible refine gate_dst (N := 2) rfl ?_); refine be_ 2 #[.int .i64 a0_0, .int .i64 a0_1, .int .i64 a0_2, .int .i64 a0_3] 45 ?_; intro gb596 hg w14 hbox hb; have BK596 := am_ (hbox); have GW596 := am_ (gw_ hg bl_); have GE596 := GW596; replace HB := hs_ w hb; clear hb hbox hg) | ((with_reducible refine gate_dst (N := 4) rfl ?_); refine be_ 4 #[.slice none 0 0, .int .i64 0, .int .i64 0, .int .i64 0] 51 ?_; intro gb597 hg w15 hbox hb; have BK597 := am_ (hbox); have GW597 := am_ (gw_ hg bl_); have GE597 := GW597; replace HB := hs_ w hb; have NB596_597 := am_ (gn_ hg (blkl_ BK596)); have NB597_596 := am_ (gm_ hg (blkl_ BK596)); replace BK596 := bb_ BK596 hb; clear hb hbox hg) | ((with_reducible refine gate_dst (N := 10) rfl ?_); refine Kd.R_lit Kd.string _ 9 ?hg (N := 10) ?hd (xs := ([a1] : List ByteArray)) (inner := [.string a1]) (ok := fun _ => True) (okp := fun _ => True) ?hr ?hp (fun _ hk => hk) trivial (Below.refl _ _) (Nat.le_refl _) (by simp) ?_; (case hd => rfl); (case hg => rfl); (case hr => exact hr_); (case hp => exact au5_12); intro v599 w16 ho17 hb hg_ hnew_; clear hg_ hnew_; (first | rw [← Ny598.out] at ho17 | (simp only [Int.reduceToNat] at ho17; rw [← Ny598.out] at ho17)); have HO600 := am_ (Kd.R_lower ho17 (below_size bl_)); replace BK596 := bb_ BK596 hb; replace BK597 := bb_ BK597 hb; replace HB := hs_ w hb; clear hb ho17; obtain ⟨Ao18, co18, eo18⟩ := Kd.R_slice HO600.out; subst eo18) | ((with_reducible refine gate_callee (f := 51) rfl ?_); refine gl_ 11 Try.func51 #[.slice Ao18 y598.length co18] ?_ rfl rfl rfl rfl; (with_reducible refine (F51.calls k _ _ y598 false _ ?s1 ?s2 A3.out).mono ?_); (case s1 => exact au5_8); (case s2 => exact (Kd.R_reads' HO600.out).2.1); rintro e w' ⟨rfl, ⟨nd, rfl⟩⟩; refine ⟨_, rfl, ?_⟩; have hnb19 := NB596_597.out; have hnc19 := NB597_596.out; obtain ⟨hcz20_0, hcz20_1, hcz20_2, hcz20_3, hfz20_0, hfz20_1, hfz20_2, hfz20_3⟩ := cellsF4 BK596.out) | ((with_reducible refine gate_callee (f := 46) rfl ?_); refine gl_ 15 Try.func46 #[.agg #[.int .i64 a0_0, .int .i64 a0_1, .int .i64 a0_2, .int .i64 a0_3]] ?_ rfl rfl rfl rfl; (with_reducible refine (F46.calls k a0_0 a0_1 a0_2 a0_3 true _ A12.out).mono ?_); rintro e w21 ⟨rfl, hb⟩; refine ⟨_, rfl, ?_⟩; replace HO600 := am_ (Kd.R_below (rk_ HO600) hb); replace BK596 := bb_ BK596 hb; replace BK597 := bb_ BK597 hb; replace HB := hs_ w hb; (try clear hb)) | ((with_reducible refine gate_dst (N := 18) rfl ?_); refine Kd.R_lit k88 _ 88 ?hg (N := 18) ?hd (xs := ([] : List (S88))) (inner := []) (ok := fun _ => True) (okp := fun _ => True) ?hr ?hp (fun _ hk => hk) trivial (Below.refl _ _) (Nat.le_refl _) (by simp) ?_; (case hd => rfl); (case hg => rfl); (case hr => exact hr_); (case hp => exact (Reps.none _ _)); intro v604 w22 ho23 hb hg_ hnew_; clear hg_ hnew_; (first | rw [← Ny603.out] at ho23 | (simp only [Int.reduceToNat] at ho23; rw [← Ny603.out] at ho23)); have HO605 := am_ (Kd.R_lower (Kd.R_new' ho23 (Kd.R_lt (rk_ HO600))) (below_size bl_)); replace HO600 := am_ (Kd.R_below (rk_ HO600) hb); replace BK596 := bb_ BK596 hb; replace BK597 := bb_ BK597 hb; replace HB := hs_ w hb; clear hb ho23))
 go_loopg [5, 6] k (fun kq v5 v6 w' => ∃ (x5_1 : List (S88)) (x6_1 : Int) (x598001_1 : Int) (x598002_1 : Int) (x598003_1 : Int), v6 = .int .i64 x6_1 ∧ Aside0 (F21.l0 kq a1 x5_1 x6_1 a0_0 a0_1 a0_2 a0_3 = some (r1, r2, r3, r4)) ∧ Aside0 (kq ≤ k) ∧ Aside0 (Kd.R k88 88 w' w.heap.size (fun _ => True) v5 x5_1) ∧ Aside0 (w'.heap[gb596]? = some (.cells #[.int .i64 a0_0, .int .i64 a0_1, .int .i64 a0_2, .int .i64 a0_3] 45 (0, 0))) ∧ Aside0 (w'.heap[gb597]? = some (.cells #[(.slice none 0 0), .int .i64 x598001_1, .int .i64 x598002_1, .int .i64 x598003_1] 51 (0, 0))) ∧ Aside0 (Below w.heap.size w w'))
 case atStart => exact ⟨(y603), (0), (0), (0), (0), er_, H', ⟨Nat.le_refl _⟩, ⟨by (with_reducible repeat (first | apply Kd.R_alloc | apply Kd.R_drewN | apply Kd.R_drew)); exact Kd.R_mono HO605.out (fun _ hk => trivial)⟩, ⟨bk_ BK596⟩, ⟨bk_ BK597⟩, ⟨bl_⟩⟩
 case round =>
  clear H'
  try clear hcz11_0 hcz11_1 hcz11_2 hcz11_3
  try clear hcz20_0 hcz20_1 hcz20_2 hcz20_3
  try clear hfz11_0 hfz11_1 hfz11_2 hfz11_3
  try clear hfz20_0 hfz20_1 hfz20_2 hfz20_3
  obtain ⟨x5_1, x6_1, x598001_1, x598002_1, x598003_1, rfl, HA, HK1, HO_5, BK596, BK597, HB⟩ := hrel
  cases gk with
  | zero => exact absurd HA.out (by simp [F21.l0])
  | succ k1 =>
   have H := HA.out
   clear HA
   simp only [F21.l0] at H
   replace H := it_ H; rcases H with ⟨c24b0, H⟩ | ⟨c24b0, H⟩
   rotate_left
   ·simp only [Option.some.injEq, Prod.mk.injEq] at H
    obtain ⟨rfl, rfl, rfl, rfl⟩ := H
    obtain ⟨Ao99, co99, eo99⟩ := Kd.R_slice HO_5.out
    subst eo99
    have hnb100 := NB597_596.out
    have hnc100 := NB596_597.out
    obtain ⟨hcz101_0, hcz101_1, hcz101_2, hcz101_3, hfz101_0, hfz101_1, hfz101_2, hfz101_3⟩ := cellsF4 BK597.out
    go_wp2
    refine bodyPost_ret (results_cell_row rfl _ _ gb597 51 #[.slice Ao99 x5_1.length co99, .int .i64 0, .int .i64 0, .int .i64 0] (0, 0) _ rfl (bq_ BK597) Try.underlying51 rfl (by kernel_rfl)) rfl ?_
    exact ⟨_, au5_0, by (with_reducible repeat (first | apply Kd.R_alloc | apply Kd.R_drewN | apply Kd.R_drew)); exact Kd.R_mono (Kd.R_far (p := ⟨gb597, 3, none⟩) (Kd.R_far (p := ⟨gb597, 2, none⟩) (Kd.R_far (p := ⟨gb597, 1, none⟩) (Kd.R_far (p := ⟨gb597, 0, none⟩) (Kd.R_types HO_5.out BK597.out (by decide)) (fun _ hk => hk.2) (.slice Ao99 x5_1.length co99)) (fun _ hk => hk.2) (.int .i64 0)) (fun _ hk => hk.2) (.int .i64 0)) (fun _ hk => hk.2) (.int .i64 0)) (fun _ hk => trivial), bl_⟩
   by_cases c25 : 0 ≤ x6_1
   rotate_left
   ·rw [if_neg c25] at H
    exact absurd H (by simp)
   rw [if_pos c25] at H
   have c25b0 := eq_true c25
   have c25b1 : decide (0 ≤ x6_1) = true := decide_eq_true c25
   clear c25
   by_cases c26 : x6_1 ≤ (a1.size : Int)
   rotate_left
   ·rw [if_neg c26] at H
    exact absurd H (by simp)
   rw [if_pos c26] at H
   have c26b0 := eq_true c26
   have c26b1 : decide (x6_1 ≤ (a1.size : Int)) = true := decide_eq_true c26
   clear c26
   replace H := bi_ H; rcases H with ⟨⟨t606, t607, t610, t611, t612⟩, A27, H⟩
   by_cases c28 : (x5_1.length : Int) = 200
   ·rw [if_pos c28] at H
    have c28b0 : ((x5_1.length : Int) == 200) = true := beq_iff_eq.mpr c28
    have c28b1 : ((x5_1.length : Int) != 200) = false := bne_eq_false_iff_eq.mpr c28
    clear c28
    by_cases c29 : 7 = 0
    ·exact absurd c29 (by decide)
    rw [if_neg c29] at H
    have c29b0 : (7 == 0) = false := beq_eq_false_iff_ne.mpr c29
    have c29b1 : (7 != 0) = true := bne_iff_ne.mpr c29
    simp only [Option.some.injEq, Prod.mk.injEq] at H
    obtain ⟨rfl, rfl, rfl, rfl⟩ := H
    try go_wp2
    replace HO_5 := am_ (Kd.R_drew HO_5.out)
    replace BK596 := bd_ BK596
    replace BK597 := bd_ BK597
    replace HB := am_ (below_drew1 HB.out)
    refine start_ (n := 7) (S := fun w' => w'.cell? ⟨gb596, 0, none⟩ = some (.int .i64 a0_0) ∧ w'.cell? ⟨gb596, 1, none⟩ = some (.int .i64 a0_1) ∧ w'.cell? ⟨gb596, 2, none⟩ = some (.int .i64 a0_2) ∧ w'.cell? ⟨gb596, 3, none⟩ = some (.int .i64 a0_3)) (ds := []) (bs 7 0) (by kernel_rfl) rfl rfl ⟨(blk_cell BK596.out 0).trans rfl, (blk_cell BK596.out 1).trans rfl, (blk_cell BK596.out 2).trans rfl, (blk_cell BK596.out 3).trans rfl⟩ (fun hHeld => ?_)
    generalize wr.drew = w48 at HO_5 BK596 BK597 HB hHeld ⊢
    refine pk_ 1 24 (bs 7 2) ?_ rfl rfl
    refine pk_ 2 25 (bs 7 6) ?_ rfl rfl
    refine pk_ 3 26 (bs 7 14) ?_ rfl rfl
    refine take_ (i := 0) (N := some 23) (v := ?_) (a' := ?_) (bs 7 15) rfl rfl (by kernel_rfl) (fun _ _ _ h => h) (Or.inl ⟨by rfl, ?_⟩) hHeld ?_ ?_
    rotate_left
    ·rintro w' ⟨s0, s1, s2, s3⟩
     go_simp
     with_reducible rfl
    rotate_left
    ·simp only [Act.put, List.setIfInBounds_toArray, List.set_cons_zero, List.set_cons_succ, i64_w, i32_w]
     rfl
    refine join_ (σ := Value × Nat) 1 (bs 7 63) (fun s_ => [(27, .agg #[.string t606, s_.1, .int .i64 t610, .int .i64 t611, .int .i64 t612]), (7, .pointer (some ⟨s_.2, 0, none⟩))]) (fun s_ w' => (w'.cell? ⟨gb596, 0, none⟩ = some (.int .i64 a0_0) ∧ w'.cell? ⟨gb596, 1, none⟩ = some (.int .i64 a0_1) ∧ w'.cell? ⟨gb596, 2, none⟩ = some (.int .i64 a0_2) ∧ w'.cell? ⟨gb596, 3, none⟩ = some (.int .i64 a0_3)) ∧ (Kd.S k122 122 w' w.heap.size (fun _ => True) s_.1 t607) ∧ (Kd.R k88 88 w' w.heap.size (fun k_ => some k_ ≠ (s_.1 : Value).ownBlock) u5 x5_1) ∧ (w'.heap[gb596]? = some (.cells #[.int .i64 a0_0, .int .i64 a0_1, .int .i64 a0_2, .int .i64 a0_3] 45 (0, 0))) ∧ (w'.heap[gb597]? = some (.cells #[.slice none 0 0, .int .i64 x598001_1, .int .i64 x598002_1, .int .i64 x598003_1] 51 (0, 0))) ∧ (w'.heap[s_.2]? = some (.cells #[.string (⟨#[]⟩ : ByteArray), .slice none 0 0, .int .i64 0, .int .i64 0, .int .i64 0] 94 (0, 0))) ∧ (w.heap.size ≤ s_.2) ∧ (w.heap.size ≤ s_.2) ∧ (gb596 ≠ s_.2) ∧ (s_.2 ≠ gb596) ∧ (gb597 ≠ s_.2) ∧ (s_.2 ≠ gb597) ∧ (Below w.heap.size w w')) ?_ ?_
    rotate_left
    ·intro hCont
     refine two_ (i := 4) (j := 5) (Ni := some 27) (Nj := some 7) (bs 7 31) (bs 7 47) rfl rfl rfl rfl (by kernel_rfl) (by decide) (by decide) (fun K hK => ?_) (fun K hK => ?_)
     rotate_left
     ·skip
      refine box_step ?hg (N := 7) ?hd (cs := #[.string (⟨#[]⟩ : ByteArray), .slice none 0 0, .int .i64 0, .int .i64 0, .int .i64 0]) (t := 94) ?hr ?_; (case hd => rfl); (case hg => rfl); (case hr => exact hr_)
      intro gb613 hg w49 hbox hb
      replace HO_5 := am_ (Kd.R_below (rk_ HO_5) hb)
      have BK613 := am_ (hbox)
      have GW613 := am_ (gw_ hg bl_)
      have GE613 := am_ (gw_ hg bl_)
      replace HB := hs_ w hb
      have NB596_613 := am_ (gn_ hg (blkl_ BK596))
      have NB613_596 := am_ (gm_ hg (blkl_ BK596))
      replace BK596 := bb_ BK596 hb
      have NB597_613 := am_ (gn_ hg (blkl_ BK597))
      have NB613_597 := am_ (gm_ hg (blkl_ BK597))
      replace BK597 := bb_ BK597 hb
      clear hb hbox hg
      refine hK.out _ _ ⟨(blk_cell BK596.out 0).trans rfl, (blk_cell BK596.out 1).trans rfl, (blk_cell BK596.out 2).trans rfl, (blk_cell BK596.out 3).trans rfl⟩ (fun hHeld => ?_)
      clear hK K
      refine no_ 7 ?_
      refine one_ (i := 4) (N := some 27) (bs 7 63) rfl rfl (by kernel_rfl) (by decide) (fun K hK => ?_)
      refine gr_ Try.func52 #[.agg #[.int .i64 a0_0, .int .i64 a0_1, .int .i64 a0_2, .int .i64 a0_3], .string (a1.extract (x6_1 : Int).toNat a1.size)] (by rfl) ?_ rfl rfl rfl
      with_reducible refine (F52.calls k1 a0_0 a0_1 a0_2 a0_3 (a1.extract (x6_1 : Int).toNat a1.size) t606 t607 t610 t611 t612 _ A27.out).mono ?_
      rintro e w50 ⟨v608, rfl, ho0, hb⟩
      refine ⟨_, rfl, ?_⟩
      replace HO_5 := am_ (Kd.R_elder' (rk_ HO_5) (Kd.S_base ho0) hb)
      have HO609 := am_ (Kd.S_lower ho0 (below_size bl_))
      replace BK596 := bb_ BK596 hb
      replace BK597 := bb_ BK597 hb
      replace BK613 := bb_ BK613 hb
      replace HB := hs_ w hb
      (try clear hb)
      (try clear hb2)
      (try clear hk)
      (try clear hi)
      (try clear ho0)
      refine hK.out _ _ ⟨(blk_cell BK596.out 0).trans rfl, (blk_cell BK596.out 1).trans rfl, (blk_cell BK596.out 2).trans rfl, (blk_cell BK596.out 3).trans rfl⟩ (fun hHeld => ?_)
      clear hK K
      refine no_ 27 ?_
      exact norm_ au5_3 (hCont (v608, gb613) _ ⟨hHeld, au5_1, au5_2, (bk_ BK596), (bk_ BK597), (bk_ BK613), GW613.out, GE613.out, NB596_613.out, NB613_596.out, NB597_613.out, NB613_597.out, bl_⟩)
     skip
     refine gr_ Try.func52 #[.agg #[.int .i64 a0_0, .int .i64 a0_1, .int .i64 a0_2, .int .i64 a0_3], .string (a1.extract (x6_1 : Int).toNat a1.size)] (by rfl) ?_ rfl rfl rfl
     with_reducible refine (F52.calls k1 a0_0 a0_1 a0_2 a0_3 (a1.extract (x6_1 : Int).toNat a1.size) t606 t607 t610 t611 t612 _ A27.out).mono ?_
     rintro e w49 ⟨v608, rfl, ho0, hb⟩
     refine ⟨_, rfl, ?_⟩
     replace HO_5 := am_ (Kd.R_elder' (rk_ HO_5) (Kd.S_base ho0) hb)
     have HO609 := am_ (Kd.S_lower ho0 (below_size bl_))
     replace BK596 := bb_ BK596 hb
     replace BK597 := bb_ BK597 hb
     replace HB := hs_ w hb
     (try clear hb)
     (try clear hb2)
     (try clear hk)
     (try clear hi)
     (try clear ho0)
     refine hK.out _ _ ⟨(blk_cell BK596.out 0).trans rfl, (blk_cell BK596.out 1).trans rfl, (blk_cell BK596.out 2).trans rfl, (blk_cell BK596.out 3).trans rfl⟩ (fun hHeld => ?_)
     clear hK K
     refine no_ 27 ?_
     refine one_ (i := 5) (N := some 7) (bs 7 63) rfl rfl (by kernel_rfl) (by decide) (fun K hK => ?_)
     refine box_step ?hg (N := 7) ?hd (cs := #[.string (⟨#[]⟩ : ByteArray), .slice none 0 0, .int .i64 0, .int .i64 0, .int .i64 0]) (t := 94) ?hr ?_; (case hd => rfl); (case hg => rfl); (case hr => exact hr_)
     intro gb613 hg w50 hbox hb
     replace HO_5 := am_ (Kd.R_below (rk_ HO_5) hb)
     replace HO609 := am_ (Kd.S_below au5_1 hb)
     have BK613 := am_ (hbox)
     have GW613 := am_ (gw_ hg bl_)
     have GE613 := am_ (gw_ hg bl_)
     replace HB := hs_ w hb
     have NB596_613 := am_ (gn_ hg (blkl_ BK596))
     have NB613_596 := am_ (gm_ hg (blkl_ BK596))
     replace BK596 := bb_ BK596 hb
     have NB597_613 := am_ (gn_ hg (blkl_ BK597))
     have NB613_597 := am_ (gm_ hg (blkl_ BK597))
     replace BK597 := bb_ BK597 hb
     clear hb hbox hg
     refine hK.out _ _ ⟨(blk_cell BK596.out 0).trans rfl, (blk_cell BK596.out 1).trans rfl, (blk_cell BK596.out 2).trans rfl, (blk_cell BK596.out 3).trans rfl⟩ (fun hHeld => ?_)
     clear hK K
     refine no_ 7 ?_
     exact norm_ au5_3 (hCont (v608, gb613) _ ⟨hHeld, au5_1, au5_2, (bk_ BK596), (bk_ BK597), (bk_ BK613), GW613.out, GE613.out, NB596_613.out, NB613_596.out, NB597_613.out, NB613_597.out, bl_⟩)
    rintro ⟨v608, gb613⟩ w51 ⟨hS_, h0_, h1_, h2_, h3_, h4_, h5_, h6_, h7_, h8_, h9_, h10_, h11_⟩
    have n0_ : Aside0 (Kd.S k122 122 w51 w.heap.size (fun _ => True) v608 t607) := ⟨h0_⟩
    have n1_ : Aside0 (Kd.R k88 88 w51 w.heap.size (fun k_ => some k_ ≠ (v608 : Value).ownBlock) u5 x5_1) := ⟨h1_⟩
    have n2_ : Aside0 (w51.heap[gb596]? = some (.cells #[.int .i64 a0_0, .int .i64 a0_1, .int .i64 a0_2, .int .i64 a0_3] 45 (0, 0))) := ⟨h2_⟩
    have n3_ : Aside0 (w51.heap[gb597]? = some (.cells #[.slice none 0 0, .int .i64 x598001_1, .int .i64 x598002_1, .int .i64 x598003_1] 51 (0, 0))) := ⟨h3_⟩
    have n4_ : Aside0 (w51.heap[gb613]? = some (.cells #[.string (⟨#[]⟩ : ByteArray), .slice none 0 0, .int .i64 0, .int .i64 0, .int .i64 0] 94 (0, 0))) := ⟨h4_⟩
    have n5_ : Aside0 (w.heap.size ≤ gb613) := ⟨h5_⟩
    have n6_ : Aside0 (w.heap.size ≤ gb613) := ⟨h6_⟩
    have n7_ : Aside0 (gb596 ≠ gb613) := ⟨h7_⟩
    have n8_ : Aside0 (gb613 ≠ gb596) := ⟨h8_⟩
    have n9_ : Aside0 (gb597 ≠ gb613) := ⟨h9_⟩
    have n10_ : Aside0 (gb613 ≠ gb597) := ⟨h10_⟩
    have n11_ : Aside0 (Below w.heap.size w w51) := ⟨h11_⟩
    clear HO_5
    clear BK596
    clear BK597
    clear HB
    clear h0_ h1_ h2_ h3_ h4_ h5_ h6_ h7_ h8_ h9_ h10_ h11_
    have HO609 := n0_
    have HO_5 := n1_
    have BK596 := n2_
    have BK597 := n3_
    have BK613 := n4_
    have GW613 := n5_
    have GE613 := n6_
    have NB596_613 := n7_
    have NB613_596 := n8_
    have NB597_613 := n9_
    have NB613_597 := n10_
    have HB := n11_
    clear n0_ n1_ n2_ n3_ n4_ n5_ n6_ n7_ n8_ n9_ n10_ n11_
    have hHeld : w51.cell? ⟨gb596, 0, none⟩ = some (.int .i64 a0_0) ∧ w51.cell? ⟨gb596, 1, none⟩ = some (.int .i64 a0_1) ∧ w51.cell? ⟨gb596, 2, none⟩ = some (.int .i64 a0_2) ∧ w51.cell? ⟨gb596, 3, none⟩ = some (.int .i64 a0_3) := hS_
    obtain ⟨Ao53, co53, eo53⟩ := Kd.S_slice HO609.out
    (first | subst eo53 | (injection eo53 with f1_ f2_ f3_; have f4_ := f1_.symm; have f5_ := f3_.symm; clear f1_ f2_ f3_; subst f4_; subst f5_))
    refine norm_ (a' := ?_) ?_ ?_
    rotate_left
    ·simp only [putAll, Act.put, List.setIfInBounds_toArray, List.set_cons_zero, List.set_cons_succ]
     rfl
    refine one_ (i := 6) (N := none) (bs 7 127) rfl rfl (by kernel_rfl) (by decide) (fun K hK => ?_)
    have hs52 : w51.cell? ⟨gb613, 0, none⟩ = some (.string (⟨#[]⟩ : ByteArray)) := (blk_cell BK613.out 0).trans rfl
    have hfs52 := blk_frozen BK613.out 0
    have hns52_0 := NB596_613.out
    have hns52_1 := NB597_613.out
    have hms52_0 := NB613_596.out
    have hms52_1 := NB613_597.out
    have hs54 : w51.cell? ⟨gb613, 1, none⟩ = some (.slice none 0 0) := (blk_cell BK613.out 1).trans rfl
    have hfs54 := blk_frozen BK613.out 1
    have hns54_0 := NB596_613.out
    have hns54_1 := NB597_613.out
    have hms54_0 := NB613_596.out
    have hms54_1 := NB613_597.out
    have hs55 : w51.cell? ⟨gb613, 2, none⟩ = some (.int .i64 0) := (blk_cell BK613.out 2).trans rfl
    have hfs55 := blk_frozen BK613.out 2
    have hns55_0 := NB596_613.out
    have hns55_1 := NB597_613.out
    have hms55_0 := NB613_596.out
    have hms55_1 := NB613_597.out
    have hs56 : w51.cell? ⟨gb613, 3, none⟩ = some (.int .i64 0) := (blk_cell BK613.out 3).trans rfl
    have hfs56 := blk_frozen BK613.out 3
    have hns56_0 := NB596_613.out
    have hns56_1 := NB597_613.out
    have hms56_0 := NB613_596.out
    have hms56_1 := NB613_597.out
    have hs57 : w51.cell? ⟨gb613, 4, none⟩ = some (.int .i64 0) := (blk_cell BK613.out 4).trans rfl
    have hfs57 := blk_frozen BK613.out 4
    have hns57_0 := NB596_613.out
    have hns57_1 := NB597_613.out
    have hms57_0 := NB613_596.out
    have hms57_1 := NB613_597.out
    refine skip_ (w1 := ?_) (by rfl) rfl ?_ ?_
    rotate_left
    ·go_simp
     rfl
    refine hK.out _ _ ⟨((cell_far (p := ⟨gb613, _, none⟩) NB596_613.out _).trans (((cell_far (p := ⟨gb613, _, none⟩) NB596_613.out _).trans (((cell_far (p := ⟨gb613, _, none⟩) NB596_613.out _).trans (((cell_far (p := ⟨gb613, _, none⟩) NB596_613.out _).trans (((cell_far (p := ⟨gb613, _, none⟩) NB596_613.out _).trans (hHeld.1)))))))))), ((cell_far (p := ⟨gb613, _, none⟩) NB596_613.out _).trans (((cell_far (p := ⟨gb613, _, none⟩) NB596_613.out _).trans (((cell_far (p := ⟨gb613, _, none⟩) NB596_613.out _).trans (((cell_far (p := ⟨gb613, _, none⟩) NB596_613.out _).trans (((cell_far (p := ⟨gb613, _, none⟩) NB596_613.out _).trans (hHeld.2.1)))))))))), ((cell_far (p := ⟨gb613, _, none⟩) NB596_613.out _).trans (((cell_far (p := ⟨gb613, _, none⟩) NB596_613.out _).trans (((cell_far (p := ⟨gb613, _, none⟩) NB596_613.out _).trans (((cell_far (p := ⟨gb613, _, none⟩) NB596_613.out _).trans (((cell_far (p := ⟨gb613, _, none⟩) NB596_613.out _).trans (hHeld.2.2.1)))))))))), ((cell_far (p := ⟨gb613, _, none⟩) NB596_613.out _).trans (((cell_far (p := ⟨gb613, _, none⟩) NB596_613.out _).trans (((cell_far (p := ⟨gb613, _, none⟩) NB596_613.out _).trans (((cell_far (p := ⟨gb613, _, none⟩) NB596_613.out _).trans (((cell_far (p := ⟨gb613, _, none⟩) NB596_613.out _).trans (hHeld.2.2.2))))))))))⟩ (fun hHeld => ?_)
    clear hK K
    refine done_ (by kernel_rfl) ?_
    obtain ⟨Ao58, co58, eo58⟩ := Kd.R_slice HO_5.out
    subst eo58
    refine fo_ ?_
    intro w52_ hw52_
    replace BK613 := am_ (show w52_.heap[gb613]? = some (.cells #[.string t606, .slice Ao53 t607.length co53, .int .i64 t610, .int .i64 t611, .int .i64 t612] 94 (0, 0)) from by rw [hw52_]; exact bq_ BK613)
    replace BK596 := fb_ hw52_ BK596
    replace BK597 := fb_ hw52_ BK597
    replace HB := am_ (show Below w.heap.size w w52_ from by rw [hw52_]; exact bl_)
    clear hw52_
    have hnb59 := NB613_596.out
    have hnc59 := NB596_613.out
    have hnb60 := NB613_597.out
    have hnc60 := NB597_613.out
    obtain ⟨hcz61_0, hcz61_1, hcz61_2, hcz61_3, hcz61_4, hfz61_0, hfz61_1, hfz61_2, hfz61_3, hfz61_4⟩ := cellsF5 BK613.out
    have hnb62 := NB597_596.out
    have hnc62 := NB596_597.out
    obtain ⟨hcz63_0, hcz63_1, hcz63_2, hcz63_3, hfz63_0, hfz63_1, hfz63_2, hfz63_3⟩ := cellsF4 BK597.out
    try go_wp2
    refine bodyPost_ret (results_cell_row rfl _ _ gb597 51 #[.slice none 0 0, .int .i64 (wrap64 x6_1), .int .i64 (x5_1.length : Int), .int .i64 7] (0, 0) _ rfl (bq_ BK597) Try.underlying51 rfl (by kernel_rfl)) rfl ?_
    exact ⟨_, au5_0, au5_7, bl_⟩
   rw [if_neg c28] at H
   have c28b0 : ((x5_1.length : Int) == 200) = false := beq_eq_false_iff_ne.mpr c28
   have c28b1 : ((x5_1.length : Int) != 200) = true := bne_iff_ne.mpr c28
   by_cases c64 : t612 = 0
   rotate_left
   ·rw [if_neg c64] at H
    have c64b0 : (t612 == 0) = false := beq_eq_false_iff_ne.mpr c64
    have c64b1 : (t612 != 0) = true := bne_iff_ne.mpr c64
    simp only [Option.some.injEq, Prod.mk.injEq] at H
    obtain ⟨rfl, rfl, rfl, rfl⟩ := H
    try go_wp2
    replace HO_5 := am_ (Kd.R_drew HO_5.out)
    replace BK596 := bd_ BK596
    replace BK597 := bd_ BK597
    replace HB := am_ (below_drew1 HB.out)
    refine start_ (n := 7) (S := fun w' => w'.cell? ⟨gb596, 0, none⟩ = some (.int .i64 a0_0) ∧ w'.cell? ⟨gb596, 1, none⟩ = some (.int .i64 a0_1) ∧ w'.cell? ⟨gb596, 2, none⟩ = some (.int .i64 a0_2) ∧ w'.cell? ⟨gb596, 3, none⟩ = some (.int .i64 a0_3)) (ds := []) (bs 7 0) (by kernel_rfl) rfl rfl ⟨(blk_cell BK596.out 0).trans rfl, (blk_cell BK596.out 1).trans rfl, (blk_cell BK596.out 2).trans rfl, (blk_cell BK596.out 3).trans rfl⟩ (fun hHeld => ?_)
    generalize wr.drew = w83 at HO_5 BK596 BK597 HB hHeld ⊢
    refine pk_ 1 24 (bs 7 2) ?_ rfl rfl
    refine pk_ 2 25 (bs 7 6) ?_ rfl rfl
    refine pk_ 3 26 (bs 7 14) ?_ rfl rfl
    refine take_ (i := 0) (N := some 23) (v := ?_) (a' := ?_) (bs 7 15) rfl rfl (by kernel_rfl) (fun _ _ _ h => h) (Or.inl ⟨by rfl, ?_⟩) hHeld ?_ ?_
    rotate_left
    ·rintro w' ⟨s0, s1, s2, s3⟩
     go_simp
     with_reducible rfl
    rotate_left
    ·simp only [Act.put, List.setIfInBounds_toArray, List.set_cons_zero, List.set_cons_succ, i64_w, i32_w]
     rfl
    refine join_ (σ := Value × Nat) 1 (bs 7 63) (fun s_ => [(27, .agg #[.string t606, s_.1, .int .i64 t610, .int .i64 t611, .int .i64 t612]), (7, .pointer (some ⟨s_.2, 0, none⟩))]) (fun s_ w' => (w'.cell? ⟨gb596, 0, none⟩ = some (.int .i64 a0_0) ∧ w'.cell? ⟨gb596, 1, none⟩ = some (.int .i64 a0_1) ∧ w'.cell? ⟨gb596, 2, none⟩ = some (.int .i64 a0_2) ∧ w'.cell? ⟨gb596, 3, none⟩ = some (.int .i64 a0_3)) ∧ (Kd.S k122 122 w' w.heap.size (fun _ => True) s_.1 t607) ∧ (Kd.R k88 88 w' w.heap.size (fun k_ => some k_ ≠ (s_.1 : Value).ownBlock) u5 x5_1) ∧ (w'.heap[gb596]? = some (.cells #[.int .i64 a0_0, .int .i64 a0_1, .int .i64 a0_2, .int .i64 a0_3] 45 (0, 0))) ∧ (w'.heap[gb597]? = some (.cells #[.slice none 0 0, .int .i64 x598001_1, .int .i64 x598002_1, .int .i64 x598003_1] 51 (0, 0))) ∧ (w'.heap[s_.2]? = some (.cells #[.string (⟨#[]⟩ : ByteArray), .slice none 0 0, .int .i64 0, .int .i64 0, .int .i64 0] 94 (0, 0))) ∧ (w.heap.size ≤ s_.2) ∧ (w.heap.size ≤ s_.2) ∧ (gb596 ≠ s_.2) ∧ (s_.2 ≠ gb596) ∧ (gb597 ≠ s_.2) ∧ (s_.2 ≠ gb597) ∧ (Below w.heap.size w w')) ?_ ?_
    rotate_left
    ·intro hCont
     refine two_ (i := 4) (j := 5) (Ni := some 27) (Nj := some 7) (bs 7 31) (bs 7 47) rfl rfl rfl rfl (by kernel_rfl) (by decide) (by decide) (fun K hK => ?_) (fun K hK => ?_)
     rotate_left
     ·skip
      refine box_step ?hg (N := 7) ?hd (cs := #[.string (⟨#[]⟩ : ByteArray), .slice none 0 0, .int .i64 0, .int .i64 0, .int .i64 0]) (t := 94) ?hr ?_; (case hd => rfl); (case hg => rfl); (case hr => exact hr_)
      intro gb613 hg w84 hbox hb
      replace HO_5 := am_ (Kd.R_below (rk_ HO_5) hb)
      have BK613 := am_ (hbox)
      have GW613 := am_ (gw_ hg bl_)
      have GE613 := am_ (gw_ hg bl_)
      replace HB := hs_ w hb
      have NB596_613 := am_ (gn_ hg (blkl_ BK596))
      have NB613_596 := am_ (gm_ hg (blkl_ BK596))
      replace BK596 := bb_ BK596 hb
      have NB597_613 := am_ (gn_ hg (blkl_ BK597))
      have NB613_597 := am_ (gm_ hg (blkl_ BK597))
      replace BK597 := bb_ BK597 hb
      clear hb hbox hg
      refine hK.out _ _ ⟨(blk_cell BK596.out 0).trans rfl, (blk_cell BK596.out 1).trans rfl, (blk_cell BK596.out 2).trans rfl, (blk_cell BK596.out 3).trans rfl⟩ (fun hHeld => ?_)
      clear hK K
      refine no_ 7 ?_
      refine one_ (i := 4) (N := some 27) (bs 7 63) rfl rfl (by kernel_rfl) (by decide) (fun K hK => ?_)
      refine gr_ Try.func52 #[.agg #[.int .i64 a0_0, .int .i64 a0_1, .int .i64 a0_2, .int .i64 a0_3], .string (a1.extract (x6_1 : Int).toNat a1.size)] (by rfl) ?_ rfl rfl rfl
      with_reducible refine (F52.calls k1 a0_0 a0_1 a0_2 a0_3 (a1.extract (x6_1 : Int).toNat a1.size) t606 t607 t610 t611 t612 _ A27.out).mono ?_
      rintro e w85 ⟨v608, rfl, ho0, hb⟩
      refine ⟨_, rfl, ?_⟩
      replace HO_5 := am_ (Kd.R_elder' (rk_ HO_5) (Kd.S_base ho0) hb)
      have HO609 := am_ (Kd.S_lower ho0 (below_size bl_))
      replace BK596 := bb_ BK596 hb
      replace BK597 := bb_ BK597 hb
      replace BK613 := bb_ BK613 hb
      replace HB := hs_ w hb
      (try clear hb)
      (try clear hb2)
      (try clear hk)
      (try clear hi)
      (try clear ho0)
      refine hK.out _ _ ⟨(blk_cell BK596.out 0).trans rfl, (blk_cell BK596.out 1).trans rfl, (blk_cell BK596.out 2).trans rfl, (blk_cell BK596.out 3).trans rfl⟩ (fun hHeld => ?_)
      clear hK K
      refine no_ 27 ?_
      exact norm_ au5_3 (hCont (v608, gb613) _ ⟨hHeld, au5_1, au5_2, (bk_ BK596), (bk_ BK597), (bk_ BK613), GW613.out, GE613.out, NB596_613.out, NB613_596.out, NB597_613.out, NB613_597.out, bl_⟩)
     skip
     refine gr_ Try.func52 #[.agg #[.int .i64 a0_0, .int .i64 a0_1, .int .i64 a0_2, .int .i64 a0_3], .string (a1.extract (x6_1 : Int).toNat a1.size)] (by rfl) ?_ rfl rfl rfl
     with_reducible refine (F52.calls k1 a0_0 a0_1 a0_2 a0_3 (a1.extract (x6_1 : Int).toNat a1.size) t606 t607 t610 t611 t612 _ A27.out).mono ?_
     rintro e w84 ⟨v608, rfl, ho0, hb⟩
     refine ⟨_, rfl, ?_⟩
     replace HO_5 := am_ (Kd.R_elder' (rk_ HO_5) (Kd.S_base ho0) hb)
     have HO609 := am_ (Kd.S_lower ho0 (below_size bl_))
     replace BK596 := bb_ BK596 hb
     replace BK597 := bb_ BK597 hb
     replace HB := hs_ w hb
     (try clear hb)
     (try clear hb2)
     (try clear hk)
     (try clear hi)
     (try clear ho0)
     refine hK.out _ _ ⟨(blk_cell BK596.out 0).trans rfl, (blk_cell BK596.out 1).trans rfl, (blk_cell BK596.out 2).trans rfl, (blk_cell BK596.out 3).trans rfl⟩ (fun hHeld => ?_)
     clear hK K
     refine no_ 27 ?_
     refine one_ (i := 5) (N := some 7) (bs 7 63) rfl rfl (by kernel_rfl) (by decide) (fun K hK => ?_)
     refine box_step ?hg (N := 7) ?hd (cs := #[.string (⟨#[]⟩ : ByteArray), .slice none 0 0, .int .i64 0, .int .i64 0, .int .i64 0]) (t := 94) ?hr ?_; (case hd => rfl); (case hg => rfl); (case hr => exact hr_)
     intro gb613 hg w85 hbox hb
     replace HO_5 := am_ (Kd.R_below (rk_ HO_5) hb)
     replace HO609 := am_ (Kd.S_below au5_1 hb)
     have BK613 := am_ (hbox)
     have GW613 := am_ (gw_ hg bl_)
     have GE613 := am_ (gw_ hg bl_)
     replace HB := hs_ w hb
     have NB596_613 := am_ (gn_ hg (blkl_ BK596))
     have NB613_596 := am_ (gm_ hg (blkl_ BK596))
     replace BK596 := bb_ BK596 hb
     have NB597_613 := am_ (gn_ hg (blkl_ BK597))
     have NB613_597 := am_ (gm_ hg (blkl_ BK597))
     replace BK597 := bb_ BK597 hb
     clear hb hbox hg
     refine hK.out _ _ ⟨(blk_cell BK596.out 0).trans rfl, (blk_cell BK596.out 1).trans rfl, (blk_cell BK596.out 2).trans rfl, (blk_cell BK596.out 3).trans rfl⟩ (fun hHeld => ?_)
     clear hK K
     refine no_ 7 ?_
     exact norm_ au5_3 (hCont (v608, gb613) _ ⟨hHeld, au5_1, au5_2, (bk_ BK596), (bk_ BK597), (bk_ BK613), GW613.out, GE613.out, NB596_613.out, NB613_596.out, NB597_613.out, NB613_597.out, bl_⟩)
    rintro ⟨v608, gb613⟩ w86 ⟨hS_, h0_, h1_, h2_, h3_, h4_, h5_, h6_, h7_, h8_, h9_, h10_, h11_⟩
    have n0_ : Aside0 (Kd.S k122 122 w86 w.heap.size (fun _ => True) v608 t607) := ⟨h0_⟩
    have n1_ : Aside0 (Kd.R k88 88 w86 w.heap.size (fun k_ => some k_ ≠ (v608 : Value).ownBlock) u5 x5_1) := ⟨h1_⟩
    have n2_ : Aside0 (w86.heap[gb596]? = some (.cells #[.int .i64 a0_0, .int .i64 a0_1, .int .i64 a0_2, .int .i64 a0_3] 45 (0, 0))) := ⟨h2_⟩
    have n3_ : Aside0 (w86.heap[gb597]? = some (.cells #[.slice none 0 0, .int .i64 x598001_1, .int .i64 x598002_1, .int .i64 x598003_1] 51 (0, 0))) := ⟨h3_⟩
    have n4_ : Aside0 (w86.heap[gb613]? = some (.cells #[.string (⟨#[]⟩ : ByteArray), .slice none 0 0, .int .i64 0, .int .i64 0, .int .i64 0] 94 (0, 0))) := ⟨h4_⟩
    have n5_ : Aside0 (w.heap.size ≤ gb613) := ⟨h5_⟩
    have n6_ : Aside0 (w.heap.size ≤ gb613) := ⟨h6_⟩
    have n7_ : Aside0 (gb596 ≠ gb613) := ⟨h7_⟩
    have n8_ : Aside0 (gb613 ≠ gb596) := ⟨h8_⟩
    have n9_ : Aside0 (gb597 ≠ gb613) := ⟨h9_⟩
    have n10_ : Aside0 (gb613 ≠ gb597) := ⟨h10_⟩
    have n11_ : Aside0 (Below w.heap.size w w86) := ⟨h11_⟩
    clear HO_5
    clear BK596
    clear BK597
    clear HB
    clear h0_ h1_ h2_ h3_ h4_ h5_ h6_ h7_ h8_ h9_ h10_ h11_
    have HO609 := n0_
    have HO_5 := n1_
    have BK596 := n2_
    have BK597 := n3_
    have BK613 := n4_
    have GW613 := n5_
    have GE613 := n6_
    have NB596_613 := n7_
    have NB613_596 := n8_
    have NB597_613 := n9_
    have NB613_597 := n10_
    have HB := n11_
    clear n0_ n1_ n2_ n3_ n4_ n5_ n6_ n7_ n8_ n9_ n10_ n11_
    have hHeld : w86.cell? ⟨gb596, 0, none⟩ = some (.int .i64 a0_0) ∧ w86.cell? ⟨gb596, 1, none⟩ = some (.int .i64 a0_1) ∧ w86.cell? ⟨gb596, 2, none⟩ = some (.int .i64 a0_2) ∧ w86.cell? ⟨gb596, 3, none⟩ = some (.int .i64 a0_3) := hS_
    obtain ⟨Ao88, co88, eo88⟩ := Kd.S_slice HO609.out
    (first | subst eo88 | (injection eo88 with f1_ f2_ f3_; have f4_ := f1_.symm; have f5_ := f3_.symm; clear f1_ f2_ f3_; subst f4_; subst f5_))
    refine norm_ (a' := ?_) ?_ ?_
    rotate_left
    ·simp only [putAll, Act.put, List.setIfInBounds_toArray, List.set_cons_zero, List.set_cons_succ]
     rfl
    refine one_ (i := 6) (N := none) (bs 7 127) rfl rfl (by kernel_rfl) (by decide) (fun K hK => ?_)
    have hs87 : w86.cell? ⟨gb613, 0, none⟩ = some (.string (⟨#[]⟩ : ByteArray)) := (blk_cell BK613.out 0).trans rfl
    have hfs87 := blk_frozen BK613.out 0
    have hns87_0 := NB596_613.out
    have hns87_1 := NB597_613.out
    have hms87_0 := NB613_596.out
    have hms87_1 := NB613_597.out
    have hs89 : w86.cell? ⟨gb613, 1, none⟩ = some (.slice none 0 0) := (blk_cell BK613.out 1).trans rfl
    have hfs89 := blk_frozen BK613.out 1
    have hns89_0 := NB596_613.out
    have hns89_1 := NB597_613.out
    have hms89_0 := NB613_596.out
    have hms89_1 := NB613_597.out
    have hs90 : w86.cell? ⟨gb613, 2, none⟩ = some (.int .i64 0) := (blk_cell BK613.out 2).trans rfl
    have hfs90 := blk_frozen BK613.out 2
    have hns90_0 := NB596_613.out
    have hns90_1 := NB597_613.out
    have hms90_0 := NB613_596.out
    have hms90_1 := NB613_597.out
    have hs91 : w86.cell? ⟨gb613, 3, none⟩ = some (.int .i64 0) := (blk_cell BK613.out 3).trans rfl
    have hfs91 := blk_frozen BK613.out 3
    have hns91_0 := NB596_613.out
    have hns91_1 := NB597_613.out
    have hms91_0 := NB613_596.out
    have hms91_1 := NB613_597.out
    have hs92 : w86.cell? ⟨gb613, 4, none⟩ = some (.int .i64 0) := (blk_cell BK613.out 4).trans rfl
    have hfs92 := blk_frozen BK613.out 4
    have hns92_0 := NB596_613.out
    have hns92_1 := NB597_613.out
    have hms92_0 := NB613_596.out
    have hms92_1 := NB613_597.out
    refine skip_ (w1 := ?_) (by rfl) rfl ?_ ?_
    rotate_left
    ·go_simp
     rfl
    refine hK.out _ _ ⟨((cell_far (p := ⟨gb613, _, none⟩) NB596_613.out _).trans (((cell_far (p := ⟨gb613, _, none⟩) NB596_613.out _).trans (((cell_far (p := ⟨gb613, _, none⟩) NB596_613.out _).trans (((cell_far (p := ⟨gb613, _, none⟩) NB596_613.out _).trans (((cell_far (p := ⟨gb613, _, none⟩) NB596_613.out _).trans (hHeld.1)))))))))), ((cell_far (p := ⟨gb613, _, none⟩) NB596_613.out _).trans (((cell_far (p := ⟨gb613, _, none⟩) NB596_613.out _).trans (((cell_far (p := ⟨gb613, _, none⟩) NB596_613.out _).trans (((cell_far (p := ⟨gb613, _, none⟩) NB596_613.out _).trans (((cell_far (p := ⟨gb613, _, none⟩) NB596_613.out _).trans (hHeld.2.1)))))))))), ((cell_far (p := ⟨gb613, _, none⟩) NB596_613.out _).trans (((cell_far (p := ⟨gb613, _, none⟩) NB596_613.out _).trans (((cell_far (p := ⟨gb613, _, none⟩) NB596_613.out _).trans (((cell_far (p := ⟨gb613, _, none⟩) NB596_613.out _).trans (((cell_far (p := ⟨gb613, _, none⟩) NB596_613.out _).trans (hHeld.2.2.1)))))))))), ((cell_far (p := ⟨gb613, _, none⟩) NB596_613.out _).trans (((cell_far (p := ⟨gb613, _, none⟩) NB596_613.out _).trans (((cell_far (p := ⟨gb613, _, none⟩) NB596_613.out _).trans (((cell_far (p := ⟨gb613, _, none⟩) NB596_613.out _).trans (((cell_far (p := ⟨gb613, _, none⟩) NB596_613.out _).trans (hHeld.2.2.2))))))))))⟩ (fun hHeld => ?_)
    clear hK K
    refine done_ (by kernel_rfl) ?_
    obtain ⟨Ao93, co93, eo93⟩ := Kd.R_slice HO_5.out
    subst eo93
    have hnb94 := NB613_596.out
    have hnc94 := NB596_613.out
    have hnb95 := NB613_597.out
    have hnc95 := NB597_613.out
    obtain ⟨hcz96_0, hcz96_1, hcz96_2, hcz96_3, hcz96_4, hfz96_0, hfz96_1, hfz96_2, hfz96_3, hfz96_4⟩ := cellsF5 BK613.out
    have hnb97 := NB597_596.out
    have hnc97 := NB596_597.out
    obtain ⟨hcz98_0, hcz98_1, hcz98_2, hcz98_3, hfz98_0, hfz98_1, hfz98_2, hfz98_3⟩ := cellsF4 BK597.out
    try go_wp2
    refine bodyPost_ret (results_cell_row rfl _ _ gb597 51 #[.slice none 0 0, .int .i64 (wrap64 (x6_1 + t611)), .int .i64 (x5_1.length : Int), .int .i64 t612] (0, 0) _ rfl (bq_ BK597) Try.underlying51 rfl (by kernel_rfl)) rfl ?_
    exact ⟨_, au5_0, au5_7, bl_⟩
   rw [if_pos c64] at H
   have c64b0 : (t612 == 0) = true := beq_iff_eq.mpr c64
   have c64b1 : (t612 != 0) = false := bne_eq_false_iff_eq.mpr c64
   clear c64
   replace H := iln_ H; rcases H with ⟨LMc65, H⟩
   obtain ⟨y617, hy617⟩ : ∃ y_ : List (S88), y_ = (x5_1 ++ [(⟨t606, t607⟩ : S88)]) := ⟨_, rfl⟩
   replace H : (F21.l0 k1 a1 y617 (wrap64 (x6_1 + t610)) a0_0 a0_1 a0_2 a0_3) = some (r1, r2, r3, r4) := by first | (rw [hy617]; exact H) | exact H
   have Ny617 := am_ hy617
   clear hy617
   have H' := am_ H
   clear H
   try go_wp2
   replace HO_5 := am_ (Kd.R_drew HO_5.out)
   replace BK596 := bd_ BK596
   replace BK597 := bd_ BK597
   replace HB := am_ (below_drew1 HB.out)
   refine start_ (n := 7) (S := fun w' => w'.cell? ⟨gb596, 0, none⟩ = some (.int .i64 a0_0) ∧ w'.cell? ⟨gb596, 1, none⟩ = some (.int .i64 a0_1) ∧ w'.cell? ⟨gb596, 2, none⟩ = some (.int .i64 a0_2) ∧ w'.cell? ⟨gb596, 3, none⟩ = some (.int .i64 a0_3)) (ds := []) (bs 7 0) (by kernel_rfl) rfl rfl ⟨(blk_cell BK596.out 0).trans rfl, (blk_cell BK596.out 1).trans rfl, (blk_cell BK596.out 2).trans rfl, (blk_cell BK596.out 3).trans rfl⟩ (fun hHeld => ?_)
   generalize wr.drew = w66 at HO_5 BK596 BK597 HB hHeld ⊢
   refine pk_ 1 24 (bs 7 2) ?_ rfl rfl
   refine pk_ 2 25 (bs 7 6) ?_ rfl rfl
   refine pk_ 3 26 (bs 7 14) ?_ rfl rfl
   refine take_ (i := 0) (N := some 23) (v := ?_) (a' := ?_) (bs 7 15) rfl rfl (by kernel_rfl) (fun _ _ _ h => h) (Or.inl ⟨by rfl, ?_⟩) hHeld ?_ ?_
   rotate_left
   ·rintro w' ⟨s0, s1, s2, s3⟩
    go_simp
    with_reducible rfl
   rotate_left
   ·simp only [Act.put, List.setIfInBounds_toArray, List.set_cons_zero, List.set_cons_succ, i64_w, i32_w]
    rfl
   refine join_ (σ := Value × Nat) 1 (bs 7 63) (fun s_ => [(27, .agg #[.string t606, s_.1, .int .i64 t610, .int .i64 t611, .int .i64 t612]), (7, .pointer (some ⟨s_.2, 0, none⟩))]) (fun s_ w' => (w'.cell? ⟨gb596, 0, none⟩ = some (.int .i64 a0_0) ∧ w'.cell? ⟨gb596, 1, none⟩ = some (.int .i64 a0_1) ∧ w'.cell? ⟨gb596, 2, none⟩ = some (.int .i64 a0_2) ∧ w'.cell? ⟨gb596, 3, none⟩ = some (.int .i64 a0_3)) ∧ (Kd.S k122 122 w' w.heap.size (fun _ => True) s_.1 t607) ∧ (Kd.R k88 88 w' w.heap.size (fun k_ => some k_ ≠ (s_.1 : Value).ownBlock) u5 x5_1) ∧ (w'.heap[gb596]? = some (.cells #[.int .i64 a0_0, .int .i64 a0_1, .int .i64 a0_2, .int .i64 a0_3] 45 (0, 0))) ∧ (w'.heap[gb597]? = some (.cells #[.slice none 0 0, .int .i64 x598001_1, .int .i64 x598002_1, .int .i64 x598003_1] 51 (0, 0))) ∧ (w'.heap[s_.2]? = some (.cells #[.string (⟨#[]⟩ : ByteArray), .slice none 0 0, .int .i64 0, .int .i64 0, .int .i64 0] 94 (0, 0))) ∧ (w.heap.size ≤ s_.2) ∧ (w.heap.size ≤ s_.2) ∧ (gb596 ≠ s_.2) ∧ (s_.2 ≠ gb596) ∧ (gb597 ≠ s_.2) ∧ (s_.2 ≠ gb597) ∧ (Below w.heap.size w w')) ?_ ?_
   rotate_left
   ·intro hCont
    refine two_ (i := 4) (j := 5) (Ni := some 27) (Nj := some 7) (bs 7 31) (bs 7 47) rfl rfl rfl rfl (by kernel_rfl) (by decide) (by decide) (fun K hK => ?_) (fun K hK => ?_)
    rotate_left
    ·skip
     refine box_step ?hg (N := 7) ?hd (cs := #[.string (⟨#[]⟩ : ByteArray), .slice none 0 0, .int .i64 0, .int .i64 0, .int .i64 0]) (t := 94) ?hr ?_; (case hd => rfl); (case hg => rfl); (case hr => exact hr_)
     intro gb613 hg w67 hbox hb
     replace HO_5 := am_ (Kd.R_below (rk_ HO_5) hb)
     have BK613 := am_ (hbox)
     have GW613 := am_ (gw_ hg bl_)
     have GE613 := am_ (gw_ hg bl_)
     replace HB := hs_ w hb
     have NB596_613 := am_ (gn_ hg (blkl_ BK596))
     have NB613_596 := am_ (gm_ hg (blkl_ BK596))
     replace BK596 := bb_ BK596 hb
     have NB597_613 := am_ (gn_ hg (blkl_ BK597))
     have NB613_597 := am_ (gm_ hg (blkl_ BK597))
     replace BK597 := bb_ BK597 hb
     clear hb hbox hg
     refine hK.out _ _ ⟨(blk_cell BK596.out 0).trans rfl, (blk_cell BK596.out 1).trans rfl, (blk_cell BK596.out 2).trans rfl, (blk_cell BK596.out 3).trans rfl⟩ (fun hHeld => ?_)
     clear hK K
     refine no_ 7 ?_
     refine one_ (i := 4) (N := some 27) (bs 7 63) rfl rfl (by kernel_rfl) (by decide) (fun K hK => ?_)
     refine gr_ Try.func52 #[.agg #[.int .i64 a0_0, .int .i64 a0_1, .int .i64 a0_2, .int .i64 a0_3], .string (a1.extract (x6_1 : Int).toNat a1.size)] (by rfl) ?_ rfl rfl rfl
     with_reducible refine (F52.calls k1 a0_0 a0_1 a0_2 a0_3 (a1.extract (x6_1 : Int).toNat a1.size) t606 t607 t610 t611 t612 _ A27.out).mono ?_
     rintro e w68 ⟨v608, rfl, ho0, hb⟩
     refine ⟨_, rfl, ?_⟩
     replace HO_5 := am_ (Kd.R_elder' (rk_ HO_5) (Kd.S_base ho0) hb)
     have HO609 := am_ (Kd.S_lower ho0 (below_size bl_))
     replace BK596 := bb_ BK596 hb
     replace BK597 := bb_ BK597 hb
     replace BK613 := bb_ BK613 hb
     replace HB := hs_ w hb
     (try clear hb)
     (try clear hb2)
     (try clear hk)
     (try clear hi)
     (try clear ho0)
     refine hK.out _ _ ⟨(blk_cell BK596.out 0).trans rfl, (blk_cell BK596.out 1).trans rfl, (blk_cell BK596.out 2).trans rfl, (blk_cell BK596.out 3).trans rfl⟩ (fun hHeld => ?_)
     clear hK K
     refine no_ 27 ?_
     exact norm_ au5_3 (hCont (v608, gb613) _ ⟨hHeld, au5_1, au5_2, (bk_ BK596), (bk_ BK597), (bk_ BK613), GW613.out, GE613.out, NB596_613.out, NB613_596.out, NB597_613.out, NB613_597.out, bl_⟩)
    skip
    refine gr_ Try.func52 #[.agg #[.int .i64 a0_0, .int .i64 a0_1, .int .i64 a0_2, .int .i64 a0_3], .string (a1.extract (x6_1 : Int).toNat a1.size)] (by rfl) ?_ rfl rfl rfl
    with_reducible refine (F52.calls k1 a0_0 a0_1 a0_2 a0_3 (a1.extract (x6_1 : Int).toNat a1.size) t606 t607 t610 t611 t612 _ A27.out).mono ?_
    rintro e w67 ⟨v608, rfl, ho0, hb⟩
    refine ⟨_, rfl, ?_⟩
    replace HO_5 := am_ (Kd.R_elder' (rk_ HO_5) (Kd.S_base ho0) hb)
    have HO609 := am_ (Kd.S_lower ho0 (below_size bl_))
    replace BK596 := bb_ BK596 hb
    replace BK597 := bb_ BK597 hb
    replace HB := hs_ w hb
    (try clear hb)
    (try clear hb2)
    (try clear hk)
    (try clear hi)
    (try clear ho0)
    refine hK.out _ _ ⟨(blk_cell BK596.out 0).trans rfl, (blk_cell BK596.out 1).trans rfl, (blk_cell BK596.out 2).trans rfl, (blk_cell BK596.out 3).trans rfl⟩ (fun hHeld => ?_)
    clear hK K
    refine no_ 27 ?_
    refine one_ (i := 5) (N := some 7) (bs 7 63) rfl rfl (by kernel_rfl) (by decide) (fun K hK => ?_)
    refine box_step ?hg (N := 7) ?hd (cs := #[.string (⟨#[]⟩ : ByteArray), .slice none 0 0, .int .i64 0, .int .i64 0, .int .i64 0]) (t := 94) ?hr ?_; (case hd => rfl); (case hg => rfl); (case hr => exact hr_)
    intro gb613 hg w68 hbox hb
    replace HO_5 := am_ (Kd.R_below (rk_ HO_5) hb)
    replace HO609 := am_ (Kd.S_below au5_1 hb)
    have BK613 := am_ (hbox)
    have GW613 := am_ (gw_ hg bl_)
    have GE613 := am_ (gw_ hg bl_)
    replace HB := hs_ w hb
    have NB596_613 := am_ (gn_ hg (blkl_ BK596))
    have NB613_596 := am_ (gm_ hg (blkl_ BK596))
    replace BK596 := bb_ BK596 hb
    have NB597_613 := am_ (gn_ hg (blkl_ BK597))
    have NB613_597 := am_ (gm_ hg (blkl_ BK597))
    replace BK597 := bb_ BK597 hb
    clear hb hbox hg
    refine hK.out _ _ ⟨(blk_cell BK596.out 0).trans rfl, (blk_cell BK596.out 1).trans rfl, (blk_cell BK596.out 2).trans rfl, (blk_cell BK596.out 3).trans rfl⟩ (fun hHeld => ?_)
    clear hK K
    refine no_ 7 ?_
    exact norm_ au5_3 (hCont (v608, gb613) _ ⟨hHeld, au5_1, au5_2, (bk_ BK596), (bk_ BK597), (bk_ BK613), GW613.out, GE613.out, NB596_613.out, NB613_596.out, NB597_613.out, NB613_597.out, bl_⟩)
   rintro ⟨v608, gb613⟩ w69 ⟨hS_, h0_, h1_, h2_, h3_, h4_, h5_, h6_, h7_, h8_, h9_, h10_, h11_⟩
   have n0_ : Aside0 (Kd.S k122 122 w69 w.heap.size (fun _ => True) v608 t607) := ⟨h0_⟩
   have n1_ : Aside0 (Kd.R k88 88 w69 w.heap.size (fun k_ => some k_ ≠ (v608 : Value).ownBlock) u5 x5_1) := ⟨h1_⟩
   have n2_ : Aside0 (w69.heap[gb596]? = some (.cells #[.int .i64 a0_0, .int .i64 a0_1, .int .i64 a0_2, .int .i64 a0_3] 45 (0, 0))) := ⟨h2_⟩
   have n3_ : Aside0 (w69.heap[gb597]? = some (.cells #[.slice none 0 0, .int .i64 x598001_1, .int .i64 x598002_1, .int .i64 x598003_1] 51 (0, 0))) := ⟨h3_⟩
   have n4_ : Aside0 (w69.heap[gb613]? = some (.cells #[.string (⟨#[]⟩ : ByteArray), .slice none 0 0, .int .i64 0, .int .i64 0, .int .i64 0] 94 (0, 0))) := ⟨h4_⟩
   have n5_ : Aside0 (w.heap.size ≤ gb613) := ⟨h5_⟩
   have n6_ : Aside0 (w.heap.size ≤ gb613) := ⟨h6_⟩
   have n7_ : Aside0 (gb596 ≠ gb613) := ⟨h7_⟩
   have n8_ : Aside0 (gb613 ≠ gb596) := ⟨h8_⟩
   have n9_ : Aside0 (gb597 ≠ gb613) := ⟨h9_⟩
   have n10_ : Aside0 (gb613 ≠ gb597) := ⟨h10_⟩
   have n11_ : Aside0 (Below w.heap.size w w69) := ⟨h11_⟩
   clear HO_5
   clear BK596
   clear BK597
   clear HB
   clear h0_ h1_ h2_ h3_ h4_ h5_ h6_ h7_ h8_ h9_ h10_ h11_
   have HO609 := n0_
   have HO_5 := n1_
   have BK596 := n2_
   have BK597 := n3_
   have BK613 := n4_
   have GW613 := n5_
   have GE613 := n6_
   have NB596_613 := n7_
   have NB613_596 := n8_
   have NB597_613 := n9_
   have NB613_597 := n10_
   have HB := n11_
   clear n0_ n1_ n2_ n3_ n4_ n5_ n6_ n7_ n8_ n9_ n10_ n11_
   have hHeld : w69.cell? ⟨gb596, 0, none⟩ = some (.int .i64 a0_0) ∧ w69.cell? ⟨gb596, 1, none⟩ = some (.int .i64 a0_1) ∧ w69.cell? ⟨gb596, 2, none⟩ = some (.int .i64 a0_2) ∧ w69.cell? ⟨gb596, 3, none⟩ = some (.int .i64 a0_3) := hS_
   obtain ⟨Ao71, co71, eo71⟩ := Kd.S_slice HO609.out
   (first | subst eo71 | (injection eo71 with f1_ f2_ f3_; have f4_ := f1_.symm; have f5_ := f3_.symm; clear f1_ f2_ f3_; subst f4_; subst f5_))
   refine norm_ (a' := ?_) ?_ ?_
   rotate_left
   ·simp only [putAll, Act.put, List.setIfInBounds_toArray, List.set_cons_zero, List.set_cons_succ]
    rfl
   refine one_ (i := 6) (N := none) (bs 7 127) rfl rfl (by kernel_rfl) (by decide) (fun K hK => ?_)
   have hs70 : w69.cell? ⟨gb613, 0, none⟩ = some (.string (⟨#[]⟩ : ByteArray)) := (blk_cell BK613.out 0).trans rfl
   have hfs70 := blk_frozen BK613.out 0
   have hns70_0 := NB596_613.out
   have hns70_1 := NB597_613.out
   have hms70_0 := NB613_596.out
   have hms70_1 := NB613_597.out
   have hs72 : w69.cell? ⟨gb613, 1, none⟩ = some (.slice none 0 0) := (blk_cell BK613.out 1).trans rfl
   have hfs72 := blk_frozen BK613.out 1
   have hns72_0 := NB596_613.out
   have hns72_1 := NB597_613.out
   have hms72_0 := NB613_596.out
   have hms72_1 := NB613_597.out
   have hs73 : w69.cell? ⟨gb613, 2, none⟩ = some (.int .i64 0) := (blk_cell BK613.out 2).trans rfl
   have hfs73 := blk_frozen BK613.out 2
   have hns73_0 := NB596_613.out
   have hns73_1 := NB597_613.out
   have hms73_0 := NB613_596.out
   have hms73_1 := NB613_597.out
   have hs74 : w69.cell? ⟨gb613, 3, none⟩ = some (.int .i64 0) := (blk_cell BK613.out 3).trans rfl
   have hfs74 := blk_frozen BK613.out 3
   have hns74_0 := NB596_613.out
   have hns74_1 := NB597_613.out
   have hms74_0 := NB613_596.out
   have hms74_1 := NB613_597.out
   have hs75 : w69.cell? ⟨gb613, 4, none⟩ = some (.int .i64 0) := (blk_cell BK613.out 4).trans rfl
   have hfs75 := blk_frozen BK613.out 4
   have hns75_0 := NB596_613.out
   have hns75_1 := NB597_613.out
   have hms75_0 := NB613_596.out
   have hms75_1 := NB613_597.out
   refine skip_ (w1 := ?_) (by rfl) rfl ?_ ?_
   rotate_left
   ·go_simp
    rfl
   refine hK.out _ _ ⟨((cell_far (p := ⟨gb613, _, none⟩) NB596_613.out _).trans (((cell_far (p := ⟨gb613, _, none⟩) NB596_613.out _).trans (((cell_far (p := ⟨gb613, _, none⟩) NB596_613.out _).trans (((cell_far (p := ⟨gb613, _, none⟩) NB596_613.out _).trans (((cell_far (p := ⟨gb613, _, none⟩) NB596_613.out _).trans (hHeld.1)))))))))), ((cell_far (p := ⟨gb613, _, none⟩) NB596_613.out _).trans (((cell_far (p := ⟨gb613, _, none⟩) NB596_613.out _).trans (((cell_far (p := ⟨gb613, _, none⟩) NB596_613.out _).trans (((cell_far (p := ⟨gb613, _, none⟩) NB596_613.out _).trans (((cell_far (p := ⟨gb613, _, none⟩) NB596_613.out _).trans (hHeld.2.1)))))))))), ((cell_far (p := ⟨gb613, _, none⟩) NB596_613.out _).trans (((cell_far (p := ⟨gb613, _, none⟩) NB596_613.out _).trans (((cell_far (p := ⟨gb613, _, none⟩) NB596_613.out _).trans (((cell_far (p := ⟨gb613, _, none⟩) NB596_613.out _).trans (((cell_far (p := ⟨gb613, _, none⟩) NB596_613.out _).trans (hHeld.2.2.1)))))))))), ((cell_far (p := ⟨gb613, _, none⟩) NB596_613.out _).trans (((cell_far (p := ⟨gb613, _, none⟩) NB596_613.out _).trans (((cell_far (p := ⟨gb613, _, none⟩) NB596_613.out _).trans (((cell_far (p := ⟨gb613, _, none⟩) NB596_613.out _).trans (((cell_far (p := ⟨gb613, _, none⟩) NB596_613.out _).trans (hHeld.2.2.2))))))))))⟩ (fun hHeld => ?_)
   clear hK K
   refine done_ (by kernel_rfl) ?_
   obtain ⟨Ao76, co76, eo76⟩ := Kd.R_slice HO_5.out
   subst eo76
   have hnb77 := NB613_596.out
   have hnc77 := NB596_613.out
   have hnb78 := NB613_597.out
   have hnc78 := NB597_613.out
   obtain ⟨hcz79_0, hcz79_1, hcz79_2, hcz79_3, hcz79_4, hfz79_0, hfz79_1, hfz79_2, hfz79_3, hfz79_4⟩ := cellsF5 BK613.out
   try go_wp2
   have n0_ : Aside0 (Kd.R k88 88 (((((w69.setCell ⟨gb613, 0, none⟩ (.string t606)).setCell ⟨gb613, 1, none⟩ (.slice Ao71 t607.length co71)).setCell ⟨gb613, 2, none⟩ (.int .i64 t610)).setCell ⟨gb613, 3, none⟩ (.int .i64 t611)).setCell ⟨gb613, 4, none⟩ (.int .i64 t612)) w.heap.size (fun k_ => some k_ ≠ (.slice Ao71 t607.length co71 : Value).ownBlock) (.slice Ao76 x5_1.length co76) x5_1) := ⟨by (with_reducible repeat (first | apply Kd.R_alloc | apply Kd.R_drewN | apply Kd.R_drew)); exact Kd.R_mono (Kd.R_far (p := ⟨gb613, 4, none⟩) (Kd.R_far (p := ⟨gb613, 3, none⟩) (Kd.R_far (p := ⟨gb613, 2, none⟩) (Kd.R_far (p := ⟨gb613, 1, none⟩) (Kd.R_far (p := ⟨gb613, 0, none⟩) (Kd.R_types HO_5.out BK613.out (by decide)) (fun _ hk => hk.2) (.string t606)) (fun _ hk => hk.2) (.slice Ao71 t607.length co71)) (fun _ hk => hk.2) (.int .i64 t610)) (fun _ hk => hk.2) (.int .i64 t611)) (fun _ hk => hk.2) (.int .i64 t612)) (fun _ hk => hk.1)⟩
   have n1_ : Aside0 (Kd.S k122 122 (((((w69.setCell ⟨gb613, 0, none⟩ (.string t606)).setCell ⟨gb613, 1, none⟩ (.slice Ao71 t607.length co71)).setCell ⟨gb613, 2, none⟩ (.int .i64 t610)).setCell ⟨gb613, 3, none⟩ (.int .i64 t611)).setCell ⟨gb613, 4, none⟩ (.int .i64 t612)) w.heap.size (fun _ => True) (.slice Ao71 t607.length co71) t607) := ⟨by (with_reducible repeat (first | apply Kd.S_alloc | apply Kd.S_drewN | apply Kd.S_drew)); exact Kd.S_mono (Kd.S_far (p := ⟨gb613, 4, none⟩) (Kd.S_far (p := ⟨gb613, 3, none⟩) (Kd.S_far (p := ⟨gb613, 2, none⟩) (Kd.S_far (p := ⟨gb613, 1, none⟩) (Kd.S_far (p := ⟨gb613, 0, none⟩) (Kd.S_types HO609.out BK613.out (by decide)) (fun _ hk => hk.2) (.string t606)) (fun _ hk => hk.2) (.slice Ao71 t607.length co71)) (fun _ hk => hk.2) (.int .i64 t610)) (fun _ hk => hk.2) (.int .i64 t611)) (fun _ hk => hk.2) (.int .i64 t612)) (fun _ hk => trivial)⟩
   have n2_ : Aside0 ((((((w69.setCell ⟨gb613, 0, none⟩ (.string t606)).setCell ⟨gb613, 1, none⟩ (.slice Ao71 t607.length co71)).setCell ⟨gb613, 2, none⟩ (.int .i64 t610)).setCell ⟨gb613, 3, none⟩ (.int .i64 t611)).setCell ⟨gb613, 4, none⟩ (.int .i64 t612)).heap[gb596]? = some (.cells #[.int .i64 a0_0, .int .i64 a0_1, .int .i64 a0_2, .int .i64 a0_3] 45 (0, 0))) := ⟨bf_ BK596⟩
   have n3_ : Aside0 ((((((w69.setCell ⟨gb613, 0, none⟩ (.string t606)).setCell ⟨gb613, 1, none⟩ (.slice Ao71 t607.length co71)).setCell ⟨gb613, 2, none⟩ (.int .i64 t610)).setCell ⟨gb613, 3, none⟩ (.int .i64 t611)).setCell ⟨gb613, 4, none⟩ (.int .i64 t612)).heap[gb597]? = some (.cells #[.slice none 0 0, .int .i64 x598001_1, .int .i64 x598002_1, .int .i64 x598003_1] 51 (0, 0))) := ⟨bf_ BK597⟩
   have n4_ : Aside0 ((((((w69.setCell ⟨gb613, 0, none⟩ (.string t606)).setCell ⟨gb613, 1, none⟩ (.slice Ao71 t607.length co71)).setCell ⟨gb613, 2, none⟩ (.int .i64 t610)).setCell ⟨gb613, 3, none⟩ (.int .i64 t611)).setCell ⟨gb613, 4, none⟩ (.int .i64 t612)).heap[gb613]? = some (.cells #[.string t606, .slice Ao71 t607.length co71, .int .i64 t610, .int .i64 t611, .int .i64 t612] 94 (0, 0))) := ⟨bq_ BK613⟩
   have n5_ : Aside0 (Below w.heap.size w (((((w69.setCell ⟨gb613, 0, none⟩ (.string t606)).setCell ⟨gb613, 1, none⟩ (.slice Ao71 t607.length co71)).setCell ⟨gb613, 2, none⟩ (.int .i64 t610)).setCell ⟨gb613, 3, none⟩ (.int .i64 t611)).setCell ⟨gb613, 4, none⟩ (.int .i64 t612))) := ⟨bl_⟩
   (try clear HO_5)
   (try clear HO609)
   (try clear BK596)
   (try clear BK597)
   (try clear BK613)
   (try clear HB)
   generalize (((((w69.setCell ⟨gb613, 0, none⟩ (.string t606)).setCell ⟨gb613, 1, none⟩ (.slice Ao71 t607.length co71)).setCell ⟨gb613, 2, none⟩ (.int .i64 t610)).setCell ⟨gb613, 3, none⟩ (.int .i64 t611)).setCell ⟨gb613, 4, none⟩ (.int .i64 t612)) = w80 at n0_ n1_ n2_ n3_ n4_ n5_ ⊢
   have HO_5 := n0_
   have HO609 := n1_
   have BK596 := n2_
   have BK597 := n3_
   have BK613 := n4_
   have HB := n5_
   clear n0_ n1_ n2_ n3_ n4_ n5_
   replace HO_5 := am_ (Kd.R_drew HO_5.out)
   replace HO609 := am_ (Kd.S_drew HO609.out)
   replace BK596 := bd_ BK596
   replace BK597 := bd_ BK597
   replace BK613 := bd_ BK613
   replace HB := am_ (below_drew1 HB.out)
   refine start_ (n := 11) (S := fun w' => w'.cell? ⟨gb613, 0, none⟩ = some (.string t606) ∧ w'.cell? ⟨gb613, 1, none⟩ = some (.slice Ao71 t607.length co71) ∧ w'.cell? ⟨gb613, 2, none⟩ = some (.int .i64 t610) ∧ w'.cell? ⟨gb613, 3, none⟩ = some (.int .i64 t611) ∧ w'.cell? ⟨gb613, 4, none⟩ = some (.int .i64 t612)) (ds := []) (bs 11 0) (by kernel_rfl) rfl rfl ⟨(blk_cell BK613.out 0).trans rfl, (blk_cell BK613.out 1).trans rfl, (blk_cell BK613.out 2).trans rfl, (blk_cell BK613.out 3).trans rfl, (blk_cell BK613.out 4).trans rfl⟩ (fun hHeld => ?_); refine with_tabW F21.tab12 F21.bits12 (fun HT_ HW_ => ?_)
   generalize w80.drew = w81 at HO_5 HO609 BK596 BK597 BK613 HB hHeld ⊢
   refine pu_ 0 44 (bs 11 1) HT_ ?_ rfl rfl
   refine pu_ 1 45 (bs 11 3) HT_ ?_ rfl rfl
   refine pu_ 5 49 (bs 11 35) HT_ ?_ rfl rfl
   refine pu_ 6 50 (bs 11 99) HT_ ?_ rfl rfl
   refine tk_ 2 46 (bs 11 103) HT_ HW_ hHeld au5_11 ?_ rfl rfl
   refine tk_ 7 51 (bs 11 231) HT_ HW_ hHeld au5_11 ?_ rfl rfl
   refine pu_ 8 52 (bs 11 487) HT_ ?_ rfl rfl
   refine one_ (i := 3) (N := some 47) (bs 11 495) rfl rfl (one_of HT_.out (by kernel_rfl)) (by decide) (fun K hK => ?_)
   refine value_ (w1 := ?_) (v := ?_) (by rfl) rfl ?_ ?_
   rotate_left 2
   ·go_simp
    constructor
    ·rfl
    ·rfl
   refine hK.out _ _ ⟨(blk_cell (blk_alloc BK613.out _) 0).trans rfl, (blk_cell (blk_alloc BK613.out _) 1).trans rfl, (blk_cell (blk_alloc BK613.out _) 2).trans rfl, (blk_cell (blk_alloc BK613.out _) 3).trans rfl, (blk_cell (blk_alloc BK613.out _) 4).trans rfl⟩ (fun hHeld => ?_)
   clear hK K
   refine no_ 47 ?_
   refine one_ (i := 4) (N := some 48) (bs 11 511) rfl rfl (one_of HT_.out (by kernel_rfl)) (by decide) (fun K hK => ?_)
   refine Kd.R_append_step k88 (w0 := w) w.heap.size (by rfl) (.tmp 44) (.tmp 47) 46 88 (.agg #[(.string ⟨#[]⟩), (.slice none 0 0)]) 40 rfl Try.underlying46 info88 rfl (by decide) (by omega) (.slice Ao76 x5_1.length co76) x5_1 (⟨t606, t607⟩ : S88) [.string t606, .slice Ao71 t607.length co71] (fun _ => True) (fun k_ => ((fun _ => True)) k_ ∧ some k_ ≠ (.slice Ao76 x5_1.length co76 : Value).ownBlock) rfl rfl ?aP (fun _ hk => hk) ?aF ?aO ?aB ?aS ?aL ?_
   (case aP => exact k88_mkM _ _ _ (⟨t606, t607⟩ : S88) (Kd.R_mono (Kd.R_apart' ((Kd.S_R HO609.out)) (Kd.R_typed HO_5.out) (by decide)) (fun k_ hk => ⟨trivial, hk.2⟩)))
   (case aB => exact bl_)
   (case aF => exact (fun _ _ => trivial))
   (case aO => exact (by (with_reducible repeat (first | apply Kd.R_alloc | apply Kd.R_drewN | apply Kd.R_drew)); exact Kd.R_mono HO_5.out (fun _ hk => trivial)))
   (case aS => exact (below_size bl_))
   (case aL => have := LMc65.out; omega)
   intro v618 w82 ho hb hg hat
   rw [← Ny617.out] at ho
   have n0_ := am_ (bg_ BK596 hg (Kd.R_ne HO_5.out BK596.out (by decide)))
   have n1_ := am_ (bg_ BK597 hg (Kd.R_ne HO_5.out BK597.out (by decide)))
   have n2_ := am_ (bg_ BK613 hg (Kd.R_ne HO_5.out BK613.out (by decide)))
   have n3_ := am_ (hb)
   have n4_ := am_ (ho)
   clear BK596
   clear BK597
   clear BK613
   clear HB
   clear HO_5
   clear HO609
   have BK596 := n0_
   have BK597 := n1_
   have BK613 := n2_
   have HB := n3_
   have HO619 := n4_
   clear n0_ n1_ n2_ n3_ n4_
   clear ho hb hg hat
   refine hK.out _ _ ⟨(blk_cell BK613.out 0).trans rfl, (blk_cell BK613.out 1).trans rfl, (blk_cell BK613.out 2).trans rfl, (blk_cell BK613.out 3).trans rfl, (blk_cell BK613.out 4).trans rfl⟩ (fun hHeld => ?_)
   clear hK K
   refine no_ 48 ?_
   refine pu_ 9 5 (bs 11 1023) HT_ ?_ rfl rfl
   refine pu_ 10 6 (bs 11 2047) HT_ ?_ rfl rfl
   refine done_ (done_of HT_.out (by kernel_rfl)) ?_
   try go_wp2
   go_roundg k1
   case measure => have := HK1.out; omega
   case rel => exact ⟨(y617), (wrap64 (x6_1 + t610)), (x598001_1), (x598002_1), (x598003_1), er_, H', ⟨by have := HK1.out; omega⟩, ⟨rk_ HO619⟩, ⟨bk_ BK596⟩, ⟨bk_ BK597⟩, ⟨bl_⟩⟩
/-! ### F53: function 53 -/
mutual
def F53.j0 : Nat → Bool → ByteArray → List (S122) → ByteArray → List (S122) → Option (Bool)
  | 0, _, _, _, _, _ => none
  | k + 1, x20, x621000, x621001, x622000, x622001 => if x20 = true then (some false) else (F53.l0 k 0 x621000 x621001 x622000 x622001)
def F53.l0 : Nat → Int → ByteArray → List (S122) → ByteArray → List (S122) → Option (Bool)
  | 0, _, _, _, _, _ => none
  | k + 1, x5, x621000, x621001, x622000, x622001 => if x5 < (x621001.length : Int) then (if 0 ≤ x5 then (if x5 < (x622001.length : Int) then (if (((rd_T122 x621001 x5).f0).length : Int) = (((rd_T122 x622001 x5).f0).length : Int) then (F53.l1 k x5 0 x621000 x621001 x622000 x622001) else (some false)) else (none)) else (none)) else (some true)
def F53.l1 : Nat → Int → Int → ByteArray → List (S122) → ByteArray → List (S122) → Option (Bool)
  | 0, _, _, _, _, _, _ => none
  | k + 1, x5, x6, x621000, x621001, x622000, x622001 => if 0 ≤ x5 then (if x5 < (x621001.length : Int) then (if x6 < (((rd_T122 x621001 x5).f0).length : Int) then (if 0 ≤ x6 then (if x5 < (x622001.length : Int) then (if x6 < (((rd_T122 x622001 x5).f0).length : Int) then (if (rdOf ByteArray.empty ((rd_T122 x621001 x5).f0) x6).toList = (rdOf ByteArray.empty ((rd_T122 x622001 x5).f0) x6).toList then (F53.l1 k x5 (wrap64 (x6 + 1)) x621000 x621001 x622000 x622001) else (some false)) else (none)) else (none)) else (none)) else (F53.l0 k (wrap64 (x5 + 1)) x621000 x621001 x622000 x622001)) else (none)) else (none)
end
def F53.f (k : Nat) (a0_0 : ByteArray) (l0_1 : List (S122)) (a1_0 : ByteArray) (l1_1 : List (S122)) : Option (Bool) := if a0_0.toList = a1_0.toList then (F53.j0 k ((l0_1.length : Int) != (l1_1.length : Int)) a0_0 l0_1 a1_0 l1_1) else (F53.j0 k true a0_0 l0_1 a1_0 l1_1)
theorem F53.mono_l : ∀ k, (∀ y0 y1 y2 y3 y4, LeO (F53.j0 k y0 y1 y2 y3 y4) (F53.j0 (k + 1) y0 y1 y2 y3 y4)) ∧ (∀ y0 y1 y2 y3 y4, LeO (F53.l0 k y0 y1 y2 y3 y4) (F53.l0 (k + 1) y0 y1 y2 y3 y4)) ∧ (∀ y0 y1 y2 y3 y4 y5, LeO (F53.l1 k y0 y1 y2 y3 y4 y5) (F53.l1 (k + 1) y0 y1 y2 y3 y4 y5))
 | 0 => ⟨fun _ _ _ _ _ r h => by simp [F53.j0] at h, fun _ _ _ _ _ r h => by simp [F53.l0] at h, fun _ _ _ _ _ _ r h => by simp [F53.l1] at h⟩
 | k + 1 => by
  obtain ⟨ih0, ih1, ih2⟩ := F53.mono_l k
  refine ⟨?_, ?_, ?_⟩
  rotate_left
  ·intro y0 y1 y2 y3 y4
   unfold F53.l0
   repeat' with_reducible first | exact ih0 _ _ _ _ _ | exact ih1 _ _ _ _ _ | exact ih2 _ _ _ _ _ _ | exact LeO.refl _ | exact LeO.none _ | refine LeO.ite ?_ ?_ | refine LeO.bind ?_ (fun _ => ?_)
  ·intro y0 y1 y2 y3 y4 y5
   unfold F53.l1
   repeat' with_reducible first | exact ih0 _ _ _ _ _ | exact ih1 _ _ _ _ _ | exact ih2 _ _ _ _ _ _ | exact LeO.refl _ | exact LeO.none _ | refine LeO.ite ?_ ?_ | refine LeO.bind ?_ (fun _ => ?_)
  intro y0 y1 y2 y3 y4
  unfold F53.j0
  repeat' with_reducible first | exact ih0 _ _ _ _ _ | exact ih1 _ _ _ _ _ | exact ih2 _ _ _ _ _ _ | exact LeO.refl _ | exact LeO.none _ | refine LeO.ite ?_ ?_ | refine LeO.bind ?_ (fun _ => ?_)
theorem F53.mono : ∀ a0 a1 a2 a3 k, LeO (F53.f k a0 a1 a2 a3) (F53.f (k + 1) a0 a1 a2 a3) := by
 intro a0 a1 a2 a3 k
 obtain ⟨ih0, ih1, ih2⟩ := F53.mono_l k
 unfold F53.f
 repeat' with_reducible first | exact ih0 _ _ _ _ _ | exact ih1 _ _ _ _ _ | exact ih2 _ _ _ _ _ _ | exact LeO.refl _ | exact LeO.none _ | refine LeO.ite ?_ ?_ | refine LeO.bind ?_ (fun _ => ?_)
theorem F53.calls (k : Nat) (a0_0 : ByteArray) (A0_1 : Option Addr) (c0_1 : Nat) (l0_1 : List (S122)) (a1_0 : ByteArray) (A1_1 : Option Addr) (c1_1 : Nat) (l1_1 : List (S122)) (r : Bool) (w : World) (hr0_1 : Kd.C k122 w A0_1 l0_1.length l0_1) (hc0_1 : l0_1.length ≤ c0_1) (hr1_1 : Kd.C k122 w A1_1 l1_1.length l1_1) (hc1_1 : l1_1.length ≤ c1_1) (h : F53.f k a0_0 l0_1 a1_0 l1_1 = some r) :
  Calls Try.prog 53 #[.agg #[.string a0_0, .slice A0_1 l0_1.length c0_1], .agg #[.string a1_0, .slice A1_1 l1_1.length c1_1]] w fun e w' => e = .returned (.bool r) ∧ Below w.heap.size w w' := by
 have hu88 := Try.underlying88
 have HR0_1 := am_ hr0_1
 have HC0_1 := am_ hc0_1
 clear hr0_1 hc0_1
 have HR1_1 := am_ hr1_1
 have HC1_1 := am_ hc1_1
 clear hr1_1 hc1_1
 have HB := am_ (Below.refl w.heap.size w)
 have H : (if a0_0.toList = a1_0.toList then (F53.j0 k ((l0_1.length : Int) != (l1_1.length : Int)) a0_0 l0_1 a1_0 l1_1) else (F53.j0 k true a0_0 l0_1 a1_0 l1_1)) = some r := h
 clear h
 have HC3 := am_ H
 clear H
 go_enter Try.func53, Try.ntmps53
 go_upto_region 1 with (first | ((with_reducible refine gate_dst (N := 2) rfl ?_); (try (refine gate_guard (by rfl) ?_; dsimp only)); refine be_ 2 #[.string a0_0, .slice A0_1 l0_1.length c0_1] 88 ?_; intro gb620 hg w4 hbox hb; have BK620 := am_ (hbox); have GW620 := am_ (gw_ hg bl_); have GE620 := GW620; replace HB := hs_ w hb; clear hb hbox hg) | ((with_reducible refine gate_dst (N := 3) rfl ?_); (try (refine gate_guard (by rfl) ?_; dsimp only)); refine be_ 3 #[.string a1_0, .slice A1_1 l1_1.length c1_1] 88 ?_; intro gb621 hg w5 hbox hb; have BK621 := am_ (hbox); have GW621 := am_ (gw_ hg bl_); have GE621 := GW621; replace HB := hs_ w hb; have NB620_621 := am_ (gn_ hg (blkl_ BK620)); have NB621_620 := am_ (gm_ hg (blkl_ BK620)); replace BK620 := bb_ BK620 hb; clear hb hbox hg))
 repeat (go_quiet (first | ((with_reducible refine gate_dst (N := 2) rfl ?_); (try (refine gate_guard (by rfl) ?_; dsimp only)); refine be_ 2 #[.string a0_0, .slice A0_1 l0_1.length c0_1] 88 ?_; intro gb620 hg w4 hbox hb; have BK620 := am_ (hbox); have GW620 := am_ (gw_ hg bl_); have GE620 := GW620; replace HB := hs_ w hb; clear hb hbox hg) | ((with_reducible refine gate_dst (N := 3) rfl ?_); (try (refine gate_guard (by rfl) ?_; dsimp only)); refine be_ 3 #[.string a1_0, .slice A1_1 l1_1.length c1_1] 88 ?_; intro gb621 hg w5 hbox hb; have BK621 := am_ (hbox); have GW621 := am_ (gw_ hg bl_); have GE621 := GW621; replace HB := hs_ w hb; have NB620_621 := am_ (gn_ hg (blkl_ BK620)); have NB621_620 := am_ (gm_ hg (blkl_ BK620)); replace BK620 := bb_ BK620 hb; clear hb hbox hg)); go_upto_region 1 with (first | ((with_reducible refine gate_dst (N := 2) rfl ?_); (try (refine gate_guard (by rfl) ?_; dsimp only)); refine be_ 2 #[.string a0_0, .slice A0_1 l0_1.length c0_1] 88 ?_; intro gb620 hg w4 hbox hb; have BK620 := am_ (hbox); have GW620 := am_ (gw_ hg bl_); have GE620 := GW620; replace HB := hs_ w hb; clear hb hbox hg) | ((with_reducible refine gate_dst (N := 3) rfl ?_); (try (refine gate_guard (by rfl) ?_; dsimp only)); refine be_ 3 #[.string a1_0, .slice A1_1 l1_1.length c1_1] 88 ?_; intro gb621 hg w5 hbox hb; have BK621 := am_ (hbox); have GW621 := am_ (gw_ hg bl_); have GE621 := GW621; replace HB := hs_ w hb; have NB620_621 := am_ (gn_ hg (blkl_ BK620)); have NB621_620 := am_ (gm_ hg (blkl_ BK620)); replace BK620 := bb_ BK620 hb; clear hb hbox hg)))
 (try simp only [Act.put, List.setIfInBounds_toArray, List.set_cons_zero, List.set_cons_succ])
 go_cut [20] (fun v20 wc => ∃ (kq : Nat) (x20_2 : Bool), v20 = .bool x20_2 ∧ Aside0 (F53.j0 kq x20_2 a0_0 l0_1 a1_0 l1_1 = some r) ∧ Aside0 (kq ≤ k) ∧ Aside0 (wc.heap[gb620]? = some (.cells #[.string a0_0, (.slice A0_1 l0_1.length c0_1)] 88 (0, 0))) ∧ Aside0 (wc.heap[gb621]? = some (.cells #[.string a1_0, (.slice A1_1 l1_1.length c1_1)] 88 (0, 0))) ∧ Aside0 (Below w.heap.size w wc))
 case first =>
  have H := HC3.out
  clear HC3
  by_cases c6 : a0_0.toList = a1_0.toList
  rotate_left
  ·rw [if_neg c6] at H
   have c6b0 : (a0_0.toList == a1_0.toList) = false := beq_eq_false_iff_ne.mpr c6
   have c6b1 : (a0_0.toList != a1_0.toList) = true := bne_iff_ne.mpr c6
   (first | rw [c6b0] | (simp only [i64_w, i32_w]; rw [c6b0]) | skip)
   have H' := am_ H
   clear H
   have hnb10 := NB620_621.out
   have hnc10 := NB621_620.out
   obtain ⟨hcz11_0, hcz11_1, hfz11_0, hfz11_1⟩ := cellsF2 BK620.out
   obtain ⟨hcz12_0, hcz12_1, hfz12_0, hfz12_1⟩ := cellsF2 BK621.out
   go_wp2
   repeat (go_quiet (fail); try go_wp2)
   go_meet
   case rel => exact ⟨_, (true), er_, H', ⟨au5_14⟩, ⟨bk_ BK620⟩, ⟨bk_ BK621⟩, ⟨bl_⟩⟩
  rw [if_pos c6] at H
  have c6b0 : (a0_0.toList == a1_0.toList) = true := beq_iff_eq.mpr c6
  have c6b1 : (a0_0.toList != a1_0.toList) = false := bne_eq_false_iff_eq.mpr c6
  clear c6
  (first | rw [c6b0] | (simp only [i64_w, i32_w]; rw [c6b0]) | skip)
  have H' := am_ H
  clear H
  have hnb7 := NB620_621.out
  have hnc7 := NB621_620.out
  obtain ⟨hcz8_0, hcz8_1, hfz8_0, hfz8_1⟩ := cellsF2 BK620.out
  obtain ⟨hcz9_0, hcz9_1, hfz9_0, hfz9_1⟩ := cellsF2 BK621.out
  go_wp2
  repeat (go_quiet (fail); try go_wp2)
  go_meet
  case rel => exact ⟨_, (((l0_1.length : Int) != (l1_1.length : Int))), er_, H', ⟨au5_14⟩, ⟨bk_ BK620⟩, ⟨bk_ BK621⟩, ⟨bl_⟩⟩
 case rest =>
  clear HC3
  try clear c6
  try clear c6b0
  try clear c6b1
  try clear hcz11_0 hcz11_1
  try clear hcz12_0 hcz12_1
  try clear hcz8_0 hcz8_1
  try clear hcz9_0 hcz9_1
  try clear hfz11_0 hfz11_1
  try clear hfz12_0 hfz12_1
  try clear hfz8_0 hfz8_1
  try clear hfz9_0 hfz9_1
  obtain ⟨kq, x20_2, rfl, HA, HJ2, BK620, BK621, HB⟩ := hcut
  cases kq with
  | zero => exact absurd HA.out (by simp [F53.j0])
  | succ kj2 =>
   have H := HA.out
   clear HA
   simp only [F53.j0] at H
   replace H := ib_ H; rcases H with ⟨rfl, H⟩ | ⟨rfl, H⟩
   ·obtain rfl := Option.some.inj H
    go_wp2
    repeat (go_quiet (fail); try go_wp2)
    go_ret
    exact ⟨au5_0, bl_⟩
   have H' := am_ H
   clear H
   go_wp2
   repeat (go_quiet (fail); try go_wp2)
   go_loopg [5] kj2 (fun kq v5 w' => ∃ (x5_2 : Int), v5 = .int .i64 x5_2 ∧ Aside0 (F53.l0 kq x5_2 a0_0 l0_1 a1_0 l1_1 = some r) ∧ Aside0 (kq ≤ kj2) ∧ Aside0 (w'.heap[gb620]? = some (.cells #[.string a0_0, (.slice A0_1 l0_1.length c0_1)] 88 (0, 0))) ∧ Aside0 (w'.heap[gb621]? = some (.cells #[.string a1_0, (.slice A1_1 l1_1.length c1_1)] 88 (0, 0))) ∧ Aside0 (Below w.heap.size w w'))
   case atStart => exact ⟨(0), er_, H', ⟨Nat.le_refl _⟩, ⟨bk_ BK620⟩, ⟨bk_ BK621⟩, ⟨bl_⟩⟩
   case round =>
    clear H'
    try clear c6
    try clear c6b0
    try clear c6b1
    try clear hcz11_0 hcz11_1
    try clear hcz12_0 hcz12_1
    try clear hcz8_0 hcz8_1
    try clear hcz9_0 hcz9_1
    try clear hfz11_0 hfz11_1
    try clear hfz12_0 hfz12_1
    try clear hfz8_0 hfz8_1
    try clear hfz9_0 hfz9_1
    obtain ⟨x5_2, rfl, HA, HK2, BK620, BK621, HB⟩ := hrel
    cases gk with
    | zero => exact absurd HA.out (by simp [F53.l0])
    | succ k2 =>
     have H := HA.out
     clear HA
     simp only [F53.l0] at H
     replace H := it_ H; rcases H with ⟨c14b0, H⟩ | ⟨c14b0, H⟩
     rotate_left
     ·obtain rfl := Option.some.inj H
      have hnb39 := NB620_621.out
      have hnc39 := NB621_620.out
      obtain ⟨hcz40_0, hcz40_1, hfz40_0, hfz40_1⟩ := cellsF2 BK620.out
      go_wp2
      repeat (go_quiet (fail); try go_wp2)
      go_ret
      exact ⟨au5_0, bl_⟩

     replace H := itn_ H; rcases H with ⟨c15b0, H⟩
     replace H := itn_ H; rcases H with ⟨c16b0, H⟩
     by_cases c17 : (((rd_T122 l0_1 x5_2).f0).length : Int) = (((rd_T122 l1_1 x5_2).f0).length : Int)
     rotate_left
     ·rw [if_neg c17] at H
      have c17b0 : ((((rd_T122 l0_1 x5_2).f0).length : Int) == (((rd_T122 l1_1 x5_2).f0).length : Int)) = false := beq_eq_false_iff_ne.mpr c17
      have c17b1 : ((((rd_T122 l0_1 x5_2).f0).length : Int) != (((rd_T122 l1_1 x5_2).f0).length : Int)) = true := bne_iff_ne.mpr c17
      have c17b2 : (((rd_T122 l0_1 x5_2).f0).length == ((rd_T122 l1_1 x5_2).f0).length) = false := by first | simpa using c17 | (simp at c17 ⊢; omega)
      obtain rfl := Option.some.inj H
      have hnb36 := NB620_621.out
      have hnc36 := NB621_620.out
      obtain ⟨hcz37_0, hcz37_1, hfz37_0, hfz37_1⟩ := cellsF2 BK620.out
      have p622 : 0 ≤ (x5_2 : Int) := od_
      have q622 : x5_2 < (l0_1.length : Int) := od_
      obtain ⟨ad622, A622_0, c622_0, e622, hx622_0, hl622_0, hi622_0⟩ := at_T122 HR0_1.out x5_2 p622 q622
      cases e622
      replace hx622_0 := (HB.out.cell (World.block_lt_of_cell? _ _ hx622_0)).trans hx622_0
      have HR622_0 := am_ hi622_0
      have HC622_0 := am_ hl622_0
      clear hi622_0 hl622_0
      replace p622 := eq_true p622
      replace q622 := eq_true q622
      obtain ⟨hcz38_0, hcz38_1, hfz38_0, hfz38_1⟩ := cellsF2 BK621.out
      have p623 : 0 ≤ (x5_2 : Int) := od_
      have q623 : x5_2 < (l1_1.length : Int) := od_
      obtain ⟨ad623, A623_0, c623_0, e623, hx623_0, hl623_0, hi623_0⟩ := at_T122 HR1_1.out x5_2 p623 q623
      cases e623
      replace hx623_0 := (HB.out.cell (World.block_lt_of_cell? _ _ hx623_0)).trans hx623_0
      have HR623_0 := am_ hi623_0
      have HC623_0 := am_ hl623_0
      clear hi623_0 hl623_0
      replace p623 := eq_true p623
      replace q623 := eq_true q623
      go_wp2
      repeat (go_quiet (fail); try go_wp2)
      go_ret
      exact ⟨au5_0, bl_⟩
     rw [if_pos c17] at H
     have c17b0 : ((((rd_T122 l0_1 x5_2).f0).length : Int) == (((rd_T122 l1_1 x5_2).f0).length : Int)) = true := beq_iff_eq.mpr c17
     have c17b1 : ((((rd_T122 l0_1 x5_2).f0).length : Int) != (((rd_T122 l1_1 x5_2).f0).length : Int)) = false := bne_eq_false_iff_eq.mpr c17
     have c17b2 : (((rd_T122 l0_1 x5_2).f0).length == ((rd_T122 l1_1 x5_2).f0).length) = true := by first | simpa using c17 | (simp at c17 ⊢; omega)
     clear c17
     have H' := am_ H
     clear H
     have hnb18 := NB620_621.out
     have hnc18 := NB621_620.out
     obtain ⟨hcz19_0, hcz19_1, hfz19_0, hfz19_1⟩ := cellsF2 BK620.out
     have p622 : 0 ≤ (x5_2 : Int) := od_
     have q622 : x5_2 < (l0_1.length : Int) := od_
     obtain ⟨ad622, A622_0, c622_0, e622, hx622_0, hl622_0, hi622_0⟩ := at_T122 HR0_1.out x5_2 p622 q622
     cases e622
     replace hx622_0 := (HB.out.cell (World.block_lt_of_cell? _ _ hx622_0)).trans hx622_0
     have HR622_0 := am_ hi622_0
     have HC622_0 := am_ hl622_0
     clear hi622_0 hl622_0
     replace p622 := eq_true p622
     replace q622 := eq_true q622
     obtain ⟨hcz20_0, hcz20_1, hfz20_0, hfz20_1⟩ := cellsF2 BK621.out
     have p623 : 0 ≤ (x5_2 : Int) := od_
     have q623 : x5_2 < (l1_1.length : Int) := od_
     obtain ⟨ad623, A623_0, c623_0, e623, hx623_0, hl623_0, hi623_0⟩ := at_T122 HR1_1.out x5_2 p623 q623
     cases e623
     replace hx623_0 := (HB.out.cell (World.block_lt_of_cell? _ _ hx623_0)).trans hx623_0
     have HR623_0 := am_ hi623_0
     have HC623_0 := am_ hl623_0
     clear hi623_0 hl623_0
     replace p623 := eq_true p623
     replace q623 := eq_true q623
     go_wp2
     repeat (go_quiet (fail); try go_wp2)
     go_loopg [6] k2 (fun kq v6 w' => ∃ (x6_3 : Int), v6 = .int .i64 x6_3 ∧ Aside0 (F53.l1 kq x5_2 x6_3 a0_0 l0_1 a1_0 l1_1 = some r) ∧ Aside0 (kq ≤ k2) ∧ Aside0 (w'.heap[gb620]? = some (.cells #[.string a0_0, (.slice (some ad622) l0_1.length c0_1)] 88 (0, 0))) ∧ Aside0 (w'.heap[gb621]? = some (.cells #[.string a1_0, (.slice (some ad623) l1_1.length c1_1)] 88 (0, 0))) ∧ Aside0 (Below w.heap.size w w'))
     case atStart => exact ⟨(0), er_, H', ⟨Nat.le_refl _⟩, ⟨bk_ BK620⟩, ⟨bk_ BK621⟩, ⟨bl_⟩⟩
     case round =>
      clear H'
      try clear c6
      try clear c6b0
      try clear c6b1
      try clear c14b0
      try clear c15b0
      try clear c16b0
      try clear c17
      try clear c17b0
      try clear c17b1
      try clear c17b2
      try clear hcz11_0 hcz11_1
      try clear hcz12_0 hcz12_1
      try clear hcz19_0 hcz19_1
      try clear hcz20_0 hcz20_1
      try clear hcz8_0 hcz8_1
      try clear hcz9_0 hcz9_1
      try clear hfz11_0 hfz11_1
      try clear hfz12_0 hfz12_1
      try clear hfz19_0 hfz19_1
      try clear hfz20_0 hfz20_1
      try clear hfz8_0 hfz8_1
      try clear hfz9_0 hfz9_1
      try clear hx622_0
      try clear hx623_0
      try clear p622
      try clear p623
      try clear q622
      try clear q623
      obtain ⟨x6_3, rfl, HA, HK3, BK620, BK621, HB⟩ := hrel
      cases gk with
      | zero => exact absurd HA.out (by simp [F53.l1])
      | succ k3 =>
       have H := HA.out
       clear HA
       simp only [F53.l1] at H
       replace H := itn_ H; rcases H with ⟨c21b0, H⟩
       replace H := itn_ H; rcases H with ⟨c22b0, H⟩
       replace H := it_ H; rcases H with ⟨c23b0, H⟩ | ⟨c23b0, H⟩
       rotate_left
       ·have H' := am_ H
        clear H
        have hnb34 := NB620_621.out
        have hnc34 := NB621_620.out
        obtain ⟨hcz35_0, hcz35_1, hfz35_0, hfz35_1⟩ := cellsF2 BK620.out
        have p624 : 0 ≤ (x5_2 : Int) := od_
        have q624 : x5_2 < (l0_1.length : Int) := od_
        obtain ⟨ad624, A624_0, c624_0, e624, hx624_0, hl624_0, hi624_0⟩ := at_T122 HR0_1.out x5_2 p624 q624
        obtain rfl : ad622 = ad624 := (by injection e624)
        replace hx624_0 := (HB.out.cell (World.block_lt_of_cell? _ _ hx624_0)).trans hx624_0
        have HR624_0 := am_ hi624_0
        have HC624_0 := am_ hl624_0
        clear hi624_0 hl624_0
        replace p624 := eq_true p624
        replace q624 := eq_true q624
        go_wp2
        repeat (go_quiet (fail); try go_wp2)
        go_roundg k3
        case measure => have := HJ2.out; have := HK2.out; have := HK3.out; omega
        case rel => exact ⟨(wrap64 (x5_2 + 1)), er_, H', ⟨by have := HJ2.out; have := HK2.out; have := HK3.out; omega⟩, ⟨bk_ BK620⟩, ⟨bk_ BK621⟩, ⟨bl_⟩⟩
       replace H := itn_ H; rcases H with ⟨c24b0, H⟩
       replace H := itn_ H; rcases H with ⟨c25b0, H⟩
       replace H := itn_ H; rcases H with ⟨c26b0, H⟩
       by_cases c27 : (rdOf ByteArray.empty ((rd_T122 l0_1 x5_2).f0) x6_3).toList = (rdOf ByteArray.empty ((rd_T122 l1_1 x5_2).f0) x6_3).toList
       rotate_left
       ·rw [if_neg c27] at H
        have c27b0 : ((rdOf ByteArray.empty ((rd_T122 l0_1 x5_2).f0) x6_3).toList == (rdOf ByteArray.empty ((rd_T122 l1_1 x5_2).f0) x6_3).toList) = false := beq_eq_false_iff_ne.mpr c27
        have c27b1 : ((rdOf ByteArray.empty ((rd_T122 l0_1 x5_2).f0) x6_3).toList != (rdOf ByteArray.empty ((rd_T122 l1_1 x5_2).f0) x6_3).toList) = true := bne_iff_ne.mpr c27
        obtain rfl := Option.some.inj H
        have hnb31 := NB620_621.out
        have hnc31 := NB621_620.out
        obtain ⟨hcz32_0, hcz32_1, hfz32_0, hfz32_1⟩ := cellsF2 BK620.out
        have p624 : 0 ≤ (x5_2 : Int) := od_
        have q624 : x5_2 < (l0_1.length : Int) := od_
        obtain ⟨ad624, A624_0, c624_0, e624, hx624_0, hl624_0, hi624_0⟩ := at_T122 HR0_1.out x5_2 p624 q624
        obtain rfl : ad622 = ad624 := (by injection e624)
        replace hx624_0 := (HB.out.cell (World.block_lt_of_cell? _ _ hx624_0)).trans hx624_0
        have HR624_0 := am_ hi624_0
        have HC624_0 := am_ hl624_0
        clear hi624_0 hl624_0
        replace p624 := eq_true p624
        replace q624 := eq_true q624
        have p625 : 0 ≤ (x5_2 : Int) := od_
        have q625 : x5_2 < (l0_1.length : Int) := od_
        obtain ⟨ad625, A625_0, c625_0, e625, hx625_0, hl625_0, hi625_0⟩ := at_T122 HR0_1.out x5_2 p625 q625
        obtain rfl : ad622 = ad625 := (by injection e625)
        replace hx625_0 := (HB.out.cell (World.block_lt_of_cell? _ _ hx625_0)).trans hx625_0
        have HR625_0 := am_ hi625_0
        have HC625_0 := am_ hl625_0
        clear hi625_0 hl625_0
        replace p625 := eq_true p625
        replace q625 := eq_true q625
        have ea_ := Option.some.inj (hx624_0.symm.trans hx625_0)
        injection ea_ with ea_ en_ ec_
        subst ea_
        subst ec_
        clear en_
        have p626 : 0 ≤ (x6_3 : Int) := od_
        have q626 : x6_3 < (((rd_T122 l0_1 x5_2).f0).length : Int) := od_
        obtain ⟨ad626, e626, hx626_0⟩ := Kd.at_string HR625_0.out x6_3 p626 q626
        cases e626
        replace hx626_0 := (HB.out.cell (World.block_lt_of_cell? _ _ hx626_0)).trans hx626_0
        replace p626 := eq_true p626
        replace q626 := eq_true q626
        obtain ⟨hcz33_0, hcz33_1, hfz33_0, hfz33_1⟩ := cellsF2 BK621.out
        have p627 : 0 ≤ (x5_2 : Int) := od_
        have q627 : x5_2 < (l1_1.length : Int) := od_
        obtain ⟨ad627, A627_0, c627_0, e627, hx627_0, hl627_0, hi627_0⟩ := at_T122 HR1_1.out x5_2 p627 q627
        obtain rfl : ad623 = ad627 := (by injection e627)
        replace hx627_0 := (HB.out.cell (World.block_lt_of_cell? _ _ hx627_0)).trans hx627_0
        have HR627_0 := am_ hi627_0
        have HC627_0 := am_ hl627_0
        clear hi627_0 hl627_0
        replace p627 := eq_true p627
        replace q627 := eq_true q627
        have p628 : 0 ≤ (x6_3 : Int) := od_
        have q628 : x6_3 < (((rd_T122 l1_1 x5_2).f0).length : Int) := od_
        obtain ⟨ad628, e628, hx628_0⟩ := Kd.at_string HR627_0.out x6_3 p628 q628
        cases e628
        replace hx628_0 := (HB.out.cell (World.block_lt_of_cell? _ _ hx628_0)).trans hx628_0
        replace p628 := eq_true p628
        replace q628 := eq_true q628
        go_wp2
        repeat (go_quiet (fail); try go_wp2)
        go_ret
        exact ⟨au5_0, bl_⟩
       rw [if_pos c27] at H
       have c27b0 : ((rdOf ByteArray.empty ((rd_T122 l0_1 x5_2).f0) x6_3).toList == (rdOf ByteArray.empty ((rd_T122 l1_1 x5_2).f0) x6_3).toList) = true := beq_iff_eq.mpr c27
       have c27b1 : ((rdOf ByteArray.empty ((rd_T122 l0_1 x5_2).f0) x6_3).toList != (rdOf ByteArray.empty ((rd_T122 l1_1 x5_2).f0) x6_3).toList) = false := bne_eq_false_iff_eq.mpr c27
       clear c27
       have H' := am_ H
       clear H
       have hnb28 := NB620_621.out
       have hnc28 := NB621_620.out
       obtain ⟨hcz29_0, hcz29_1, hfz29_0, hfz29_1⟩ := cellsF2 BK620.out
       have p624 : 0 ≤ (x5_2 : Int) := od_
       have q624 : x5_2 < (l0_1.length : Int) := od_
       obtain ⟨ad624, A624_0, c624_0, e624, hx624_0, hl624_0, hi624_0⟩ := at_T122 HR0_1.out x5_2 p624 q624
       obtain rfl : ad622 = ad624 := (by injection e624)
       replace hx624_0 := (HB.out.cell (World.block_lt_of_cell? _ _ hx624_0)).trans hx624_0
       have HR624_0 := am_ hi624_0
       have HC624_0 := am_ hl624_0
       clear hi624_0 hl624_0
       replace p624 := eq_true p624
       replace q624 := eq_true q624
       have p625 : 0 ≤ (x5_2 : Int) := od_
       have q625 : x5_2 < (l0_1.length : Int) := od_
       obtain ⟨ad625, A625_0, c625_0, e625, hx625_0, hl625_0, hi625_0⟩ := at_T122 HR0_1.out x5_2 p625 q625
       obtain rfl : ad622 = ad625 := (by injection e625)
       replace hx625_0 := (HB.out.cell (World.block_lt_of_cell? _ _ hx625_0)).trans hx625_0
       have HR625_0 := am_ hi625_0
       have HC625_0 := am_ hl625_0
       clear hi625_0 hl625_0
       replace p625 := eq_true p625
       replace q625 := eq_true q625
       have ea_ := Option.some.inj (hx624_0.symm.trans hx625_0)
       injection ea_ with ea_ en_ ec_
       subst ea_
       subst ec_
       clear en_
       have p626 : 0 ≤ (x6_3 : Int) := od_
       have q626 : x6_3 < (((rd_T122 l0_1 x5_2).f0).length : Int) := od_
       obtain ⟨ad626, e626, hx626_0⟩ := Kd.at_string HR625_0.out x6_3 p626 q626
       cases e626
       replace hx626_0 := (HB.out.cell (World.block_lt_of_cell? _ _ hx626_0)).trans hx626_0
       replace p626 := eq_true p626
       replace q626 := eq_true q626
       obtain ⟨hcz30_0, hcz30_1, hfz30_0, hfz30_1⟩ := cellsF2 BK621.out
       have p627 : 0 ≤ (x5_2 : Int) := od_
       have q627 : x5_2 < (l1_1.length : Int) := od_
       obtain ⟨ad627, A627_0, c627_0, e627, hx627_0, hl627_0, hi627_0⟩ := at_T122 HR1_1.out x5_2 p627 q627
       obtain rfl : ad623 = ad627 := (by injection e627)
       replace hx627_0 := (HB.out.cell (World.block_lt_of_cell? _ _ hx627_0)).trans hx627_0
       have HR627_0 := am_ hi627_0
       have HC627_0 := am_ hl627_0
       clear hi627_0 hl627_0
       replace p627 := eq_true p627
       replace q627 := eq_true q627
       have p628 : 0 ≤ (x6_3 : Int) := od_
       have q628 : x6_3 < (((rd_T122 l1_1 x5_2).f0).length : Int) := od_
       obtain ⟨ad628, e628, hx628_0⟩ := Kd.at_string HR627_0.out x6_3 p628 q628
       cases e628
       replace hx628_0 := (HB.out.cell (World.block_lt_of_cell? _ _ hx628_0)).trans hx628_0
       replace p628 := eq_true p628
       replace q628 := eq_true q628
       go_wp2
       repeat (go_quiet (fail); try go_wp2)
       go_roundg k3
       case measure => have := HJ2.out; have := HK2.out; have := HK3.out; omega
       case rel => exact ⟨(wrap64 (x6_3 + 1)), er_, H', ⟨by have := HJ2.out; have := HK2.out; have := HK3.out; omega⟩, ⟨bk_ BK620⟩, ⟨bk_ BK621⟩, ⟨bl_⟩⟩
/-! ### F22: function 22 -/
def F22.l0 : Nat → List (S88) → List (S88) → Int → Option (Bool)
  | 0, _, _, _ => none
  | k + 1, x0, x1, x5 => if x5 < (x0.length : Int) then (if 0 ≤ x5 then (if x5 < (x1.length : Int) then ((F53.f k ((rd_T88 x0 x5).f0) ((rd_T88 x0 x5).f1) ((rd_T88 x1 x5).f0) ((rd_T88 x1 x5).f1)).bind fun t631 => (if t631 = true then (F22.l0 k x0 x1 (wrap64 (x5 + 1))) else (some false))) else (none)) else (none)) else (some true)
def F22.f (k : Nat) (l0 : List (S88)) (l1 : List (S88)) : Option (Bool) := if (l0.length : Int) = (l1.length : Int) then (F22.l0 k l0 l1 0) else (some false)
theorem F22.mono_l : ∀ k, (∀ y0 y1 y2, LeO (F22.l0 k y0 y1 y2) (F22.l0 (k + 1) y0 y1 y2))
 | 0 => fun _ _ _ r h => by simp [F22.l0] at h
 | k + 1 => by
  have ih0 := F22.mono_l k
  intro y0 y1 y2
  unfold F22.l0
  repeat' with_reducible first | exact ih0 _ _ _ | exact F53.mono _ _ _ _ _ | exact LeO.refl _ | exact LeO.none _ | refine LeO.ite ?_ ?_ | refine LeO.bind ?_ (fun _ => ?_)
theorem F22.mono : ∀ a0 a1 k, LeO (F22.f k a0 a1) (F22.f (k + 1) a0 a1) := by
 intro a0 a1 k
 have ih0 := F22.mono_l k
 unfold F22.f
 repeat' with_reducible first | exact ih0 _ _ _ | exact F53.mono _ _ _ _ _ | exact LeO.refl _ | exact LeO.none _ | refine LeO.ite ?_ ?_ | refine LeO.bind ?_ (fun _ => ?_)
def F22.T6 : Bool × List (List Nat × List Nat) := (true, [([], []), ([], []), ([0, 1], [0, 1]), ([2], [2]), ([], []), ([], []), ([4, 5], [4, 5]), ([6], [6]), ([3, 7], [3, 7]), ([8], [8])])
def F22.B6 : List Nat := [0, 0, 3, 7, 0, 0, 48, 112, 255, 511]
theorem F22.tab6 : rtab .any (opsOf Try.f22 6) = F22.T6 := by kernel_rfl
theorem F22.bits6 : waitsOk F22.T6.2 F22.B6 = true := by kernel_rfl
theorem F22.calls (k : Nat) (A0 : Option Addr) (c0 : Nat) (l0 : List (S88)) (A1 : Option Addr) (c1 : Nat) (l1 : List (S88)) (r : Bool) (w : World) (hr0 : Kd.C k88 w A0 l0.length l0) (hc0 : l0.length ≤ c0) (hr1 : Kd.C k88 w A1 l1.length l1) (hc1 : l1.length ≤ c1) (h : F22.f k l0 l1 = some r) :
  Calls Try.prog 22 #[.slice A0 l0.length c0, .slice A1 l1.length c1] w fun e w' => e = .returned (.bool r) ∧ Below w.heap.size w w' := by
 have hu88 := Try.underlying88
 have HR0 := am_ hr0
 have HC0 := am_ hc0
 clear hr0 hc0
 have HR1 := am_ hr1
 have HC1 := am_ hc1
 clear hr1 hc1
 have HB := am_ (Below.refl w.heap.size w)
 have H : (if (l0.length : Int) = (l1.length : Int) then (F22.l0 k l0 l1 0) else (some false)) = some r := h
 clear h
 by_cases c3 : (l0.length : Int) = (l1.length : Int)
 rotate_left
 ·rw [if_neg c3] at H
  have c3b0 : ((l0.length : Int) == (l1.length : Int)) = false := beq_eq_false_iff_ne.mpr c3
  have c3b1 : ((l0.length : Int) != (l1.length : Int)) = true := bne_iff_ne.mpr c3
  have c3b2 : (l0.length == l1.length) = false := by first | simpa using c3 | (simp at c3 ⊢; omega)
  obtain rfl := Option.some.inj H
  go_enter Try.func22, Try.ntmps22
  go_wp2
  go_ret
  exact ⟨au5_0, bl_⟩

 rw [if_pos c3] at H
 have c3b0 : ((l0.length : Int) == (l1.length : Int)) = true := beq_iff_eq.mpr c3
 have c3b1 : ((l0.length : Int) != (l1.length : Int)) = false := bne_eq_false_iff_eq.mpr c3
 have c3b2 : (l0.length == l1.length) = true := by first | simpa using c3 | (simp at c3 ⊢; omega)
 clear c3
 have H' := am_ H
 clear H
 go_enter Try.func22, Try.ntmps22
 go_wp2
 go_loopg [5] k (fun kq v5 w' => ∃ (x5_1 : Int), v5 = .int .i64 x5_1 ∧ Aside0 (F22.l0 kq l0 l1 x5_1 = some r) ∧ Aside0 (kq ≤ k) ∧ Aside0 (Below w.heap.size w w'))
 case atStart => exact ⟨(0), er_, H', ⟨Nat.le_refl _⟩, ⟨bl_⟩⟩
 case round =>
  clear H'
  try clear c1
  try clear c3
  try clear c3b0
  try clear c3b1
  try clear c3b2
  obtain ⟨x5_1, rfl, HA, HK1, HB⟩ := hrel
  cases gk with
  | zero => exact absurd HA.out (by simp [F22.l0])
  | succ k1 =>
   have H := HA.out
   clear HA
   simp only [F22.l0] at H
   replace H := it_ H; rcases H with ⟨c4b0, H⟩ | ⟨c4b0, H⟩
   rotate_left
   ·obtain rfl := Option.some.inj H
    go_wp2
    go_ret
    exact ⟨au5_0, bl_⟩
   replace H := itn_ H; rcases H with ⟨c5b0, H⟩
   replace H := itn_ H; rcases H with ⟨c6b0, H⟩
   replace H := bi_ H; rcases H with ⟨t631, A7, H⟩
   replace H := ib_ H; rcases H with ⟨rfl, H⟩ | ⟨rfl, H⟩
   rotate_left
   ·obtain rfl := Option.some.inj H
    try go_wp2
    replace HB := am_ (below_drew1 HB.out)
    have p629 : 0 ≤ (x5_1 : Int) := od_
    have q629 : x5_1 < (l0.length : Int) := od_
    obtain ⟨ad629, A629_1, c629_1, e629, hx629_0, hx629_1, hl629_1, hi629_1⟩ := at_T88 HR0.out x5_1 p629 q629
    have hw629_1 := hx629_1
    have hw629_0 := hx629_0
    cases e629
    replace hx629_0 := (HB.out.cell (World.block_lt_of_cell? _ _ hx629_0)).trans hx629_0
    replace hx629_1 := (HB.out.cell (World.block_lt_of_cell? _ _ hx629_1)).trans hx629_1
    have HR629_1 := am_ hi629_1
    have HC629_1 := am_ hl629_1
    clear hi629_1 hl629_1
    replace p629 := eq_true p629
    replace q629 := eq_true q629
    have p630 : 0 ≤ (x5_1 : Int) := od_
    have q630 : x5_1 < (l1.length : Int) := od_
    obtain ⟨ad630, A630_1, c630_1, e630, hx630_0, hx630_1, hl630_1, hi630_1⟩ := at_T88 HR1.out x5_1 p630 q630
    have hw630_1 := hx630_1
    have hw630_0 := hx630_0
    cases e630
    replace hx630_0 := (HB.out.cell (World.block_lt_of_cell? _ _ hx630_0)).trans hx630_0
    replace hx630_1 := (HB.out.cell (World.block_lt_of_cell? _ _ hx630_1)).trans hx630_1
    have HR630_1 := am_ hi630_1
    have HC630_1 := am_ hl630_1
    clear hi630_1 hl630_1
    replace p630 := eq_true p630
    replace q630 := eq_true q630
    refine start_ (n := 10) (S := fun w' => w'.cell? (ad629.add ((x5_1).toNat * 2)) = some (.string ((rd_T88 l0 x5_1).f0)) ∧ w'.cell? ⟨(ad629.add ((x5_1).toNat * 2)).block, (ad629.add ((x5_1).toNat * 2)).off + 1, none⟩ = some (.slice A629_1 ((rd_T88 l0 x5_1).f1).length c629_1) ∧ w'.cell? (ad630.add ((x5_1).toNat * 2)) = some (.string ((rd_T88 l1 x5_1).f0)) ∧ w'.cell? ⟨(ad630.add ((x5_1).toNat * 2)).block, (ad630.add ((x5_1).toNat * 2)).off + 1, none⟩ = some (.slice A630_1 ((rd_T88 l1 x5_1).f1).length c630_1)) (ds := []) (bs 10 0) (by kernel_rfl) rfl rfl ⟨((HB.out.cell (World.block_lt_of_cell? _ _ hw629_0)).trans hw629_0), ((HB.out.cell (World.block_lt_of_cell? _ _ hw629_1)).trans hw629_1), ((HB.out.cell (World.block_lt_of_cell? _ _ hw630_0)).trans hw630_0), ((HB.out.cell (World.block_lt_of_cell? _ _ hw630_1)).trans hw630_1)⟩ (fun hHeld => ?_); refine with_tabW F22.tab6 F22.bits6 (fun HT_ HW_ => ?_)
    generalize wr.drew = w11 at HB HR629_1 HR630_1 hx629_0 hx629_1 hx630_0 hx630_1 hHeld ⊢
    refine pu_ 0 17 (bs 10 1) HT_ ?_ rfl rfl
    refine pu_ 1 18 (bs 10 3) HT_ ?_ rfl rfl
    refine pu_ 2 19 (bs 10 7) HT_ ?_ rfl rfl
    refine pu_ 4 21 (bs 10 23) HT_ ?_ rfl rfl
    refine pu_ 5 22 (bs 10 55) HT_ ?_ rfl rfl
    refine pu_ 6 23 (bs 10 119) HT_ ?_ rfl rfl
    refine tk_ 3 20 (bs 10 127) HT_ HW_ hHeld au5_13 ?_ rfl rfl
    refine tk_ 7 24 (bs 10 255) HT_ HW_ hHeld au5_13 ?_ rfl rfl
    refine one_ (i := 8) (N := some 25) (bs 10 511) rfl rfl (one_of HT_.out (by kernel_rfl)) (by decide) (fun K hK => ?_)
    refine gr_ Try.func53 #[.agg #[.string ((rd_T88 l0 x5_1).f0), .slice A629_1 ((rd_T88 l0 x5_1).f1).length c629_1], .agg #[.string ((rd_T88 l1 x5_1).f0), .slice A630_1 ((rd_T88 l1 x5_1).f1).length c630_1]] (by rfl) ?_ rfl rfl rfl
    with_reducible refine (F53.calls k1 ((rd_T88 l0 x5_1).f0) _ _ ((rd_T88 l0 x5_1).f1) ((rd_T88 l1 x5_1).f0) _ _ ((rd_T88 l1 x5_1).f1) false _ ?s1 ?s2 ?s3 ?s4 A7.out).mono ?_
    (case s1 => exact au5_9)
    (case s2 => exact HC629_1.out)
    (case s3 => exact au5_10)
    (case s4 => exact HC630_1.out)
    rintro e w12 ⟨rfl, hb⟩
    refine ⟨_, rfl, ?_⟩
    replace HB := hs_ w hb
    (try clear hb)
    (try clear hb2)
    (try clear hk)
    (try clear hi)
    refine hK.out _ _ ⟨((HB.out.cell (World.block_lt_of_cell? _ _ hw629_0)).trans hw629_0), ((HB.out.cell (World.block_lt_of_cell? _ _ hw629_1)).trans hw629_1), ((HB.out.cell (World.block_lt_of_cell? _ _ hw630_0)).trans hw630_0), ((HB.out.cell (World.block_lt_of_cell? _ _ hw630_1)).trans hw630_1)⟩ (fun hHeld => ?_)
    clear hK K
    refine no_ 25 ?_
    refine pu_ 9 26 (bs 10 1023) HT_ ?_ rfl rfl
    refine done_ (done_of HT_.out (by kernel_rfl)) ?_
    try go_wp2
    go_ret
    exact ⟨au5_0, bl_⟩
   have H' := am_ H
   clear H
   try go_wp2
   replace HB := am_ (below_drew1 HB.out)
   have p629 : 0 ≤ (x5_1 : Int) := od_
   have q629 : x5_1 < (l0.length : Int) := od_
   obtain ⟨ad629, A629_1, c629_1, e629, hx629_0, hx629_1, hl629_1, hi629_1⟩ := at_T88 HR0.out x5_1 p629 q629
   have hw629_1 := hx629_1
   have hw629_0 := hx629_0
   cases e629
   replace hx629_0 := (HB.out.cell (World.block_lt_of_cell? _ _ hx629_0)).trans hx629_0
   replace hx629_1 := (HB.out.cell (World.block_lt_of_cell? _ _ hx629_1)).trans hx629_1
   have HR629_1 := am_ hi629_1
   have HC629_1 := am_ hl629_1
   clear hi629_1 hl629_1
   replace p629 := eq_true p629
   replace q629 := eq_true q629
   have p630 : 0 ≤ (x5_1 : Int) := od_
   have q630 : x5_1 < (l1.length : Int) := od_
   obtain ⟨ad630, A630_1, c630_1, e630, hx630_0, hx630_1, hl630_1, hi630_1⟩ := at_T88 HR1.out x5_1 p630 q630
   have hw630_1 := hx630_1
   have hw630_0 := hx630_0
   cases e630
   replace hx630_0 := (HB.out.cell (World.block_lt_of_cell? _ _ hx630_0)).trans hx630_0
   replace hx630_1 := (HB.out.cell (World.block_lt_of_cell? _ _ hx630_1)).trans hx630_1
   have HR630_1 := am_ hi630_1
   have HC630_1 := am_ hl630_1
   clear hi630_1 hl630_1
   replace p630 := eq_true p630
   replace q630 := eq_true q630
   refine start_ (n := 10) (S := fun w' => w'.cell? (ad629.add ((x5_1).toNat * 2)) = some (.string ((rd_T88 l0 x5_1).f0)) ∧ w'.cell? ⟨(ad629.add ((x5_1).toNat * 2)).block, (ad629.add ((x5_1).toNat * 2)).off + 1, none⟩ = some (.slice A629_1 ((rd_T88 l0 x5_1).f1).length c629_1) ∧ w'.cell? (ad630.add ((x5_1).toNat * 2)) = some (.string ((rd_T88 l1 x5_1).f0)) ∧ w'.cell? ⟨(ad630.add ((x5_1).toNat * 2)).block, (ad630.add ((x5_1).toNat * 2)).off + 1, none⟩ = some (.slice A630_1 ((rd_T88 l1 x5_1).f1).length c630_1)) (ds := []) (bs 10 0) (by kernel_rfl) rfl rfl ⟨((HB.out.cell (World.block_lt_of_cell? _ _ hw629_0)).trans hw629_0), ((HB.out.cell (World.block_lt_of_cell? _ _ hw629_1)).trans hw629_1), ((HB.out.cell (World.block_lt_of_cell? _ _ hw630_0)).trans hw630_0), ((HB.out.cell (World.block_lt_of_cell? _ _ hw630_1)).trans hw630_1)⟩ (fun hHeld => ?_); refine with_tabW F22.tab6 F22.bits6 (fun HT_ HW_ => ?_)
   generalize wr.drew = w9 at HB HR629_1 HR630_1 hx629_0 hx629_1 hx630_0 hx630_1 hHeld ⊢
   refine pu_ 0 17 (bs 10 1) HT_ ?_ rfl rfl
   refine pu_ 1 18 (bs 10 3) HT_ ?_ rfl rfl
   refine pu_ 2 19 (bs 10 7) HT_ ?_ rfl rfl
   refine pu_ 4 21 (bs 10 23) HT_ ?_ rfl rfl
   refine pu_ 5 22 (bs 10 55) HT_ ?_ rfl rfl
   refine pu_ 6 23 (bs 10 119) HT_ ?_ rfl rfl
   refine tk_ 3 20 (bs 10 127) HT_ HW_ hHeld au5_13 ?_ rfl rfl
   refine tk_ 7 24 (bs 10 255) HT_ HW_ hHeld au5_13 ?_ rfl rfl
   refine one_ (i := 8) (N := some 25) (bs 10 511) rfl rfl (one_of HT_.out (by kernel_rfl)) (by decide) (fun K hK => ?_)
   refine gr_ Try.func53 #[.agg #[.string ((rd_T88 l0 x5_1).f0), .slice A629_1 ((rd_T88 l0 x5_1).f1).length c629_1], .agg #[.string ((rd_T88 l1 x5_1).f0), .slice A630_1 ((rd_T88 l1 x5_1).f1).length c630_1]] (by rfl) ?_ rfl rfl rfl
   with_reducible refine (F53.calls k1 ((rd_T88 l0 x5_1).f0) _ _ ((rd_T88 l0 x5_1).f1) ((rd_T88 l1 x5_1).f0) _ _ ((rd_T88 l1 x5_1).f1) true _ ?s1 ?s2 ?s3 ?s4 A7.out).mono ?_
   (case s1 => exact au5_9)
   (case s2 => exact HC629_1.out)
   (case s3 => exact au5_10)
   (case s4 => exact HC630_1.out)
   rintro e w10 ⟨rfl, hb⟩
   refine ⟨_, rfl, ?_⟩
   replace HB := hs_ w hb
   (try clear hb)
   (try clear hb2)
   (try clear hk)
   (try clear hi)
   refine hK.out _ _ ⟨((HB.out.cell (World.block_lt_of_cell? _ _ hw629_0)).trans hw629_0), ((HB.out.cell (World.block_lt_of_cell? _ _ hw629_1)).trans hw629_1), ((HB.out.cell (World.block_lt_of_cell? _ _ hw630_0)).trans hw630_0), ((HB.out.cell (World.block_lt_of_cell? _ _ hw630_1)).trans hw630_1)⟩ (fun hHeld => ?_)
   clear hK K
   refine no_ 25 ?_
   refine pu_ 9 26 (bs 10 1023) HT_ ?_ rfl rfl
   refine done_ (done_of HT_.out (by kernel_rfl)) ?_
   try go_wp2
   go_roundg k1
   case measure => have := HK1.out; omega
   case rel => exact ⟨(wrap64 (x5_1 + 1)), er_, H', ⟨by have := HK1.out; omega⟩, ⟨bl_⟩⟩
/-! ### F5: function 5 -/
def F5.j0 : Nat → List (S88) → ByteArray → ByteArray → Bool → Int → Int → Int → Int → Option (Bool)
  | 0, _, _, _, _, _, _, _, _ => none
  | k + 1, x4, x5, x6, x27, x640000, x640001, x640002, x640003 => if x27 = true then (some (x5.toList == x6.toList)) else ((F21.f k x640000 x640001 x640002 x640003 x6).bind fun bt642 => (if bt642.2.2.2 = 0 then ((F22.f k bt642.1 x4).bind fun t649 => (some t649)) else (some false)))
def F5.f (k : Nat) (l0 : List Int) : Option (Bool) := if (l0.length : Int) > 1048576 then (some true) else ((F18.f k l0).bind fun bt632 => ((F19.f k bt632.1 bt632.2.1 bt632.2.2.1 bt632.2.2.2.1 bt632.2.2.2.2).bind fun t640 => ((F20.f k bt632.1 bt632.2.1 bt632.2.2.1 bt632.2.2.2.1 bt632.2.2.2.2).bind fun t641 => (if t640.toList = ([] : List UInt8) then (F5.j0 k bt632.2.2.2.2 t640 t641 true bt632.1 bt632.2.1 bt632.2.2.1 bt632.2.2.2.1) else (F5.j0 k bt632.2.2.2.2 t640 t641 (t641.toList == ([] : List UInt8)) bt632.1 bt632.2.1 bt632.2.2.1 bt632.2.2.2.1)))))
theorem F5.mono_l : ∀ k, (∀ y0 y1 y2 y3 y4 y5 y6 y7, LeO (F5.j0 k y0 y1 y2 y3 y4 y5 y6 y7) (F5.j0 (k + 1) y0 y1 y2 y3 y4 y5 y6 y7))
 | 0 => fun _ _ _ _ _ _ _ _ r h => by simp [F5.j0] at h
 | k + 1 => by
  have ih0 := F5.mono_l k
  intro y0 y1 y2 y3 y4 y5 y6 y7
  unfold F5.j0
  repeat' with_reducible first | exact ih0 _ _ _ _ _ _ _ _ | exact F21.mono _ _ _ _ _ _ | exact F20.mono _ _ _ _ _ _ | exact F22.mono _ _ _ | exact F18.mono _ _ | exact F19.mono _ _ _ _ _ _ | exact LeO.refl _ | exact LeO.none _ | refine LeO.ite ?_ ?_ | refine LeO.bind ?_ (fun _ => ?_)
theorem F5.mono : ∀ a0 k, LeO (F5.f k a0) (F5.f (k + 1) a0) := by
 intro a0 k
 have ih0 := F5.mono_l k
 unfold F5.f
 repeat' with_reducible first | exact ih0 _ _ _ _ _ _ _ _ | exact F21.mono _ _ _ _ _ _ | exact F20.mono _ _ _ _ _ _ | exact F22.mono _ _ _ | exact F18.mono _ _ | exact F19.mono _ _ _ _ _ _ | exact LeO.refl _ | exact LeO.none _ | refine LeO.ite ?_ ?_ | refine LeO.bind ?_ (fun _ => ?_)
theorem F5.calls (k : Nat) (A0 : Option Addr) (c0 : Nat) (l0 : List Int) (r : Bool) (w : World) (hr0 : Kd.C (Kd.int .u8) w A0 l0.length l0) (hc0 : l0.length ≤ c0) (h : F5.f k l0 = some r) :
  Calls Try.prog 5 #[.slice A0 l0.length c0] w fun e w' => e = .returned (.bool r) ∧ Below w.heap.size w w' := by
 have hu45 := Try.underlying45
 have hu51 := Try.underlying51
 have HR0 := am_ hr0
 have HC0 := am_ hc0
 clear hr0 hc0
 have HB := am_ (Below.refl w.heap.size w)
 have H : (if (l0.length : Int) > 1048576 then (some true) else ((F18.f k l0).bind fun bt632 => ((F19.f k bt632.1 bt632.2.1 bt632.2.2.1 bt632.2.2.2.1 bt632.2.2.2.2).bind fun t640 => ((F20.f k bt632.1 bt632.2.1 bt632.2.2.1 bt632.2.2.2.1 bt632.2.2.2.2).bind fun t641 => (if t640.toList = ([] : List UInt8) then (F5.j0 k bt632.2.2.2.2 t640 t641 true bt632.1 bt632.2.1 bt632.2.2.1 bt632.2.2.2.1) else (F5.j0 k bt632.2.2.2.2 t640 t641 (t641.toList == ([] : List UInt8)) bt632.1 bt632.2.1 bt632.2.2.1 bt632.2.2.2.1)))))) = some r := h
 clear h
 replace H := it_ H; rcases H with ⟨(c2b0 : decide (1048576 < (l0.length : Int)) = true), H⟩ | ⟨(c2b0 : decide (1048576 < (l0.length : Int)) = false), H⟩
 ·have c2b1 : decide (1048576 < l0.length) = true := n2_ c2b0
  obtain rfl := Option.some.inj H
  go_enter Try.func5, Try.ntmps5
  go_wp2
  go_ret
  exact ⟨au5_0, bl_⟩
 have c2b1 : decide (1048576 < l0.length) = false := n2_ c2b0
 replace H := bi_ H; rcases H with ⟨⟨t632, t633, t634, t635, t636⟩, A3, H⟩
 replace H := bi_ H; rcases H with ⟨t640, A4, H⟩
 replace H := bi_ H; rcases H with ⟨t641, A5, H⟩
 have HC6 := am_ H
 clear H
 go_enter Try.func5, Try.ntmps5
 go_upto_region 6 with (first | ((with_reducible refine gate_callee (f := 18) rfl ?_); refine gl_ 13 Try.func18 #[.slice A0 l0.length c0] ?_ rfl rfl rfl rfl; (with_reducible refine (F18.calls k _ _ l0 t632 t633 t634 t635 t636 _ ?s1 ?s2 A3.out).mono ?_); (case s1 => repeat (first | exact HR0.out | (with_reducible refine Kd.C_alloc ?_ _) | (with_reducible refine Kd.C_drewN ?_ _) | (with_reducible refine Kd.C_drew ?_))); (case s2 => exact HC0.out); rintro e w7 ⟨v637, rfl, ho0, hb⟩; refine ⟨_, rfl, ?_⟩; have HO638 := am_ (Kd.R_lower ho0 (below_size bl_)); replace HB := hs_ w hb; (try clear hb); (try clear ho0)) | ((with_reducible refine gate_dst (N := 3) rfl ?_); refine be_ 3 #[.int .i64 0, .int .i64 0, .int .i64 0, .int .i64 0] 45 ?_; intro gb639 hg w8 hbox hb; replace HO638 := am_ (Kd.R_below (rk_ HO638) hb); have BK639 := am_ (hbox); have GW639 := am_ (gw_ hg bl_); have GE639 := GW639; replace HB := hs_ w hb; clear hb hbox hg; obtain ⟨hcz9_0, hcz9_1, hcz9_2, hcz9_3, hfz9_0, hfz9_1, hfz9_2, hfz9_3⟩ := cellsF4 BK639.out; obtain ⟨Ao10, co10, eo10⟩ := Kd.R_slice HO638.out; subst eo10) | ((with_reducible refine gate_callee (f := 19) rfl ?_); refine gl_ 18 Try.func19 #[.agg #[.int .i64 t632, .int .i64 t633, .int .i64 t634, .int .i64 t635], .slice Ao10 t636.length co10] ?_ rfl rfl rfl rfl; (with_reducible refine (F19.calls k t632 t633 t634 t635 _ _ t636 t640 _ ?s1 ?s2 A4.out).mono ?_); (case s1 => refine (Kd.R_reads' (e := 88) (base := w.heap.size) (ok := fun k_ => True) (n := t636.length) (c := co10) ?_).2.2; exact au5_6); (case s2 => exact (Kd.R_reads' HO638.out).2.1); rintro e w11 ⟨rfl, hb⟩; refine ⟨_, rfl, ?_⟩; replace HO638 := am_ (Kd.R_below au5_6 hb); replace BK639 := am_ (blk_below (g := gb639) (o := .cells #[.int .i64 t632, .int .i64 t633, .int .i64 t634, .int .i64 t635] 45 (0, 0)) (bq_ BK639) hb); replace HB := hs_ w hb; (try clear hb); (try clear hb2); (try clear hk); (try clear hi); obtain ⟨hcz12_0, hcz12_1, hcz12_2, hcz12_3, hfz12_0, hfz12_1, hfz12_2, hfz12_3⟩ := cellsF4 BK639.out) | ((with_reducible refine gate_callee (f := 20) rfl ?_); refine gl_ 21 Try.func20 #[.agg #[.int .i64 t632, .int .i64 t633, .int .i64 t634, .int .i64 t635], .slice Ao10 t636.length co10] ?_ rfl rfl rfl rfl; (with_reducible refine (F20.calls k t632 t633 t634 t635 _ _ t636 t641 _ ?s1 ?s2 A5.out).mono ?_); (case s1 => repeat (first | exact (Kd.R_reads' HO638.out).2.2 | (with_reducible refine Kd.C_alloc ?_ _) | (with_reducible refine Kd.C_drewN ?_ _) | (with_reducible refine Kd.C_drew ?_))); (case s2 => exact (Kd.R_reads' HO638.out).2.1); rintro e w13 ⟨rfl, hb⟩; refine ⟨_, rfl, ?_⟩; replace HO638 := am_ (Kd.R_below (rk_ HO638) hb); replace BK639 := bb_ BK639 hb; replace HB := hs_ w hb; (try clear hb)))
 (try simp only [Act.put, List.setIfInBounds_toArray, List.set_cons_zero, List.set_cons_succ])
 go_cut [27] (fun v27 wc => ∃ (kq : Nat) (x27_5 : Bool), v27 = .bool x27_5 ∧ Aside0 (F5.j0 kq t636 t640 t641 x27_5 t632 t633 t634 t635 = some r) ∧ Aside0 (kq ≤ k) ∧ Aside0 (Kd.R k88 88 wc w.heap.size (fun _ => True) (.slice Ao10 t636.length co10) t636) ∧ Aside0 (wc.heap[gb639]? = some (.cells #[.int .i64 t632, .int .i64 t633, .int .i64 t634, .int .i64 t635] 45 (0, 0))) ∧ Aside0 (Below w.heap.size w wc))
 case first =>
  have H := HC6.out
  clear HC6
  by_cases c14 : t640.toList = ([] : List UInt8)
  rotate_left
  ·rw [if_neg c14] at H
   have c14b0 : (t640.toList == ([] : List UInt8)) = false := beq_eq_false_iff_ne.mpr c14
   have c14b1 : (t640.toList != ([] : List UInt8)) = true := bne_iff_ne.mpr c14
   (first | rw [c14b0] | (simp only [i64_w, i32_w]; rw [c14b0]) | skip)
   have H' := am_ H
   clear H
   go_wp2
   go_meet
   case rel => exact ⟨_, ((t641.toList == ([] : List UInt8))), er_, H', ⟨au5_14⟩, ⟨rk_ HO638⟩, ⟨bk_ BK639⟩, ⟨bl_⟩⟩
  rw [if_pos c14] at H
  have c14b0 : (t640.toList == ([] : List UInt8)) = true := beq_iff_eq.mpr c14
  have c14b1 : (t640.toList != ([] : List UInt8)) = false := bne_eq_false_iff_eq.mpr c14
  clear c14
  (first | rw [c14b0] | (simp only [i64_w, i32_w]; rw [c14b0]) | skip)
  have H' := am_ H
  clear H
  go_wp2
  go_meet
  case rel => exact ⟨_, (true), er_, H', ⟨au5_14⟩, ⟨rk_ HO638⟩, ⟨bk_ BK639⟩, ⟨bl_⟩⟩
 case rest =>
  clear HC6
  try clear c2b0
  try clear c2b1
  try clear c14
  try clear c14b0
  try clear c14b1
  try clear hcz12_0 hcz12_1 hcz12_2 hcz12_3
  try clear hcz9_0 hcz9_1 hcz9_2 hcz9_3
  try clear hfz12_0 hfz12_1 hfz12_2 hfz12_3
  try clear hfz9_0 hfz9_1 hfz9_2 hfz9_3
  obtain ⟨kq, x27_5, rfl, HA, HJ5, HO_4, BK639, HB⟩ := hcut
  cases kq with
  | zero => exact absurd HA.out (by simp [F5.j0])
  | succ kj5 =>
   have H := HA.out
   clear HA
   simp only [F5.j0] at H
   replace H := ib_ H; rcases H with ⟨rfl, H⟩ | ⟨rfl, H⟩
   ·obtain rfl := Option.some.inj H
    go_wp2
    go_ret
    exact ⟨au5_0, bl_⟩
   replace H := bi_ H; rcases H with ⟨⟨t642, t645, t646, t647⟩, A16, H⟩
   by_cases c17 : t647 = 0
   rotate_left
   ·rw [if_neg c17] at H
    have c17b0 : (t647 == 0) = false := beq_eq_false_iff_ne.mpr c17
    have c17b1 : (t647 != 0) = true := bne_iff_ne.mpr c17
    obtain rfl := Option.some.inj H
    obtain ⟨hcz26_0, hcz26_1, hcz26_2, hcz26_3, hfz26_0, hfz26_1, hfz26_2, hfz26_3⟩ := cellsF4 BK639.out
    go_wp2_with (first | ((with_reducible refine gate_callee (f := 21) rfl ?_); refine gl_ 33 Try.func21 #[.agg #[.int .i64 t632, .int .i64 t633, .int .i64 t634, .int .i64 t635], .string t641] ?_ rfl rfl rfl rfl; (with_reducible refine (F21.calls kj5 t632 t633 t634 t635 t641 t642 t645 t646 t647 _ A16.out).mono ?_); rintro e w27 ⟨v643, rfl, ho0, hb⟩; refine ⟨_, rfl, ?_⟩; have HO644 := am_ (Kd.R_lower (Kd.R_new' ho0 (Kd.R_lt (rk_ HO_4))) (below_size bl_)); replace HO_4 := am_ (Kd.R_elder' (rk_ HO_4) (Kd.R_base ho0) hb); replace BK639 := bb_ BK639 hb; replace HB := hs_ w hb; (try clear hb); (try clear ho0)) | ((with_reducible refine gate_dst (N := 7) rfl ?_); refine be_ 7 #[.slice none 0 0, .int .i64 0, .int .i64 0, .int .i64 0] 51 ?_; intro gb648 hg w28 hbox hb; replace HO_4 := am_ (Kd.R_below (rk_ HO_4) hb); replace HO644 := am_ (Kd.R_below (rk_ HO644) hb); have BK648 := am_ (hbox); have GW648 := am_ (gw_ hg bl_); have GE648 := GW648; replace HB := hs_ w hb; have NB639_648 := am_ (gn_ hg (blkl_ BK639)); have NB648_639 := am_ (gm_ hg (blkl_ BK639)); replace BK639 := bb_ BK639 hb; clear hb hbox hg; obtain ⟨Ao29, co29, eo29⟩ := Kd.R_slice HO644.out; subst eo29; have hnb30 := NB648_639.out; have hnc30 := NB639_648.out; obtain ⟨hcz31_0, hcz31_1, hcz31_2, hcz31_3, hfz31_0, hfz31_1, hfz31_2, hfz31_3⟩ := cellsF4 BK648.out))
    go_ret
    exact ⟨au5_0, bl_⟩

   rw [if_pos c17] at H
   have c17b0 : (t647 == 0) = true := beq_iff_eq.mpr c17
   have c17b1 : (t647 != 0) = false := bne_eq_false_iff_eq.mpr c17
   clear c17
   replace H := bi_ H; rcases H with ⟨t649, A18, H⟩
   obtain rfl := Option.some.inj H
   obtain ⟨hcz19_0, hcz19_1, hcz19_2, hcz19_3, hfz19_0, hfz19_1, hfz19_2, hfz19_3⟩ := cellsF4 BK639.out
   go_wp2_with (first | ((with_reducible refine gate_callee (f := 21) rfl ?_); refine gl_ 33 Try.func21 #[.agg #[.int .i64 t632, .int .i64 t633, .int .i64 t634, .int .i64 t635], .string t641] ?_ rfl rfl rfl rfl; (with_reducible refine (F21.calls kj5 t632 t633 t634 t635 t641 t642 t645 t646 t647 _ A16.out).mono ?_); rintro e w20 ⟨v643, rfl, ho0, hb⟩; refine ⟨_, rfl, ?_⟩; have HO644 := am_ (Kd.R_lower (Kd.R_new' ho0 (Kd.R_lt (rk_ HO_4))) (below_size bl_)); replace HO_4 := am_ (Kd.R_elder' (rk_ HO_4) (Kd.R_base ho0) hb); replace BK639 := bb_ BK639 hb; replace HB := hs_ w hb; (try clear hb); (try clear ho0)) | ((with_reducible refine gate_dst (N := 7) rfl ?_); refine be_ 7 #[.slice none 0 0, .int .i64 0, .int .i64 0, .int .i64 0] 51 ?_; intro gb648 hg w21 hbox hb; replace HO_4 := am_ (Kd.R_below (rk_ HO_4) hb); replace HO644 := am_ (Kd.R_below (rk_ HO644) hb); have BK648 := am_ (hbox); have GW648 := am_ (gw_ hg bl_); have GE648 := GW648; replace HB := hs_ w hb; have NB639_648 := am_ (gn_ hg (blkl_ BK639)); have NB648_639 := am_ (gm_ hg (blkl_ BK639)); replace BK639 := bb_ BK639 hb; clear hb hbox hg; obtain ⟨Ao22, co22, eo22⟩ := Kd.R_slice HO644.out; subst eo22; have hnb23 := NB648_639.out; have hnc23 := NB639_648.out; obtain ⟨hcz24_0, hcz24_1, hcz24_2, hcz24_3, hfz24_0, hfz24_1, hfz24_2, hfz24_3⟩ := cellsF4 BK648.out) | (go_at_call 22; (with_reducible refine (F22.calls kj5 _ _ t642 _ _ t636 t649 _ ?s1 ?s2 ?s3 ?s4 A18.out).mono ?_); (case s1 => refine (Kd.R_reads' (e := 88) (base := w.heap.size) (ok := fun k_ => (True ∧ some k_ ≠ (.slice Ao10 t636.length co10 : Value).ownBlock)) (n := t642.length) (c := co22) ?_).2.2; exact au5_4); (case s2 => exact (Kd.R_reads' HO644.out).2.1); (case s3 => refine (Kd.R_reads' (e := 88) (base := w.heap.size) (ok := fun k_ => (True ∧ some k_ ≠ (.slice Ao22 t642.length co22 : Value).ownBlock)) (n := t636.length) (c := co10) ?_).2.2; exact au5_5); (case s4 => exact (Kd.R_reads' HO_4.out).2.1); rintro e w25 ⟨rfl, hb⟩; replace HO_4 := am_ (Kd.R_below au5_5 hb); replace HO644 := am_ (Kd.R_below au5_4 hb); replace BK639 := am_ (blk_below (g := gb639) (o := .cells #[.int .i64 t632, .int .i64 t633, .int .i64 t634, .int .i64 t635] 45 (0, 0)) (bf_ BK639) hb); replace BK648 := am_ (blk_below (g := gb648) (o := .cells #[.slice Ao22 t642.length co22, .int .i64 t645, .int .i64 t646, .int .i64 t647] 51 (0, 0)) (bq_ BK648) hb); replace HB := hs_ w hb; (try clear hb); (try clear hb2); (try clear hk); (try clear hi)))
   go_ret
   exact ⟨au5_0, bl_⟩
/-- THE ONE PURE STATEMENT of F5: yours. -/
def F5.Pure : Prop := ∀ (l0 : List Int), l0.length ≤ maxLen → l0.length * 1 ≤ 140737488351232 → (∀ x ∈ l0, (Lit.int .u8 x).wf = true) → ∃ k, F5.f k l0 = some true
theorem F5.walk (P : F5.Pure) (a0 : Option Addr) (len0 cap0 : Nat) (z0 : List Int) (w : World) (w0 : (a0 = none ∧ len0 = 0 ∧ cap0 = 0 ∧ z0 = []) ∨ ∃ x, a0 = some x ∧ len0 ≤ cap0 ∧ cap0 ≤ maxLen ∧ z0.length = cap0 ∧ (∀ i, i < z0.length → w.cell? (x.add i) = some (.int .u8 (z0.getD i 0))) ∧ ∀ n ∈ z0, (Lit.int .u8 n).wf = true) (y0 : len0 * 1 ≤ 140737488351232) :
  Calls Try.prog 5 #[.slice a0 len0 cap0] w fun e w' => e = .returned (.bool true) ∧ Below w.heap.size w w' := by
 obtain ⟨l0, rfl, hr0, hm0, hw0, hc0⟩ := ReadsInt.ofRowC w0
 obtain ⟨k, h⟩ := P l0 hm0 y0 hw0
 refine (F5.calls k _ _ l0 true w (Kd.C_of_reads (d := (0 : Int)) (h1 := fun _ => rfl) hr0) hc0 h).mono ?_
 rintro e w' ⟨rfl, hd⟩
 exact ⟨rfl, hd⟩
end Go.Proofs.Ytlghcbmkhdibdaa.PFnSegments
