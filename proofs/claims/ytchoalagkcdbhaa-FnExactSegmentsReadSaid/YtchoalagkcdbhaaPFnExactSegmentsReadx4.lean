-- printed by a program of this session (wip/xp/xprint.py) out of the translation; Lean checks it
import Derived.Test.YtchoalagkcdbhaaPFnExactSegmentsReadx0
import Derived.Test.YtchoalagkcdbhaaPFnExactSegmentsReadx3
namespace Go.Proofs.Ytchoalagkcdbhaa.PFnExactSegmentsRead
open Go.RowKit Go.Proofs.YtchoalagkcdbhaaW.PrintWords Go.Proofs.YtchoalagkcdbhaaW.PrintLast Go.Proofs.YtchoalagkcdbhaaW.PrintMore
attribute [local go_sem] max2_int min2_int max_two min_two max_three min_three max_four min_four   -- for this text's walks alone
set_option linter.unusedVariables false
set_option linter.unusedSimpArgs false
set_option maxHeartbeats 60000000
set_option maxRecDepth 100000

theorem au4_0 {p : Prop} (h : p := by first | rfl | (simp [errW_none, errW_some] <;> rfl) | (simp [*, errW_none, errW_some] <;> rfl)) : p := h
theorem au4_1 {p : Prop} (h : p := by first | exact Kd.S_nil _ _ _ _ _ | exact Kd.N_nil _ _ _ _ _ | exact Kd.V_nil _ _ _ _ _ | exact Kd.Q_nil _ _ _ _ _ | exact Kd.R_nil _ _ _ _ _) : p := h
theorem au4_2 {p : Prop} (h : p := by (with_reducible repeat (first | apply Kd.S_alloc | apply Kd.S_drewN | apply Kd.S_drew)); exact HO_5.out) : p := h
theorem au4_3 {p : Prop} (h : p := by first | exact Kd.own_blk (Kd.R_ne HO_5.out BK326.out (by decide)) | (rw [add_block]; exact Kd.own_blk (Kd.R_ne HO_5.out BK326.out (by decide))) | (show (Addr.add _ _).block ≠ _; rw [add_block]; exact Kd.own_blk (Kd.R_ne HO_5.out BK326.out (by decide))) | (dsimp only; exact Kd.own_blk (Kd.R_ne HO_5.out BK326.out (by decide)))) : p := h
theorem au4_4 {p : Prop} (h : p := by (with_reducible repeat (first | apply Kd.S_alloc | apply Kd.S_drewN | apply Kd.S_drew)); exact HO373.out) : p := h
theorem au4_5 {p : Prop} (h : p := by repeat (first | exact (Kd.R_reads' HO329.out).2.2 | (with_reducible refine Kd.C_alloc ?_ _) | (with_reducible refine Kd.C_drewN ?_ _) | (with_reducible refine Kd.C_drew ?_))) : p := h
theorem au4_6 {p : Prop} (h : p := by (with_reducible repeat (first | apply Kd.S_alloc | apply Kd.S_drewN | apply Kd.S_drew)); exact Kd.S_mono (Kd.S_far (p := ⟨gb352, 0, none⟩) (Kd.S_mono HO_341001.out (fun k_ hk => (⟨hk, hk.2⟩ : _ ∧ k_ ≠ gb352))) (fun _ hk => hk.2) (.slice Ao79 t348.length co79)) (fun _ hk => ⟨hk.1.1.1.1, ⟨hk.1.1.1.2, ⟨hk.1.1.2, hk.1.2⟩⟩⟩)) : p := h
theorem au4_7 {p : Prop} (h : p := by (with_reducible repeat (first | apply Kd.S_alloc | apply Kd.S_drewN | apply Kd.S_drew)); exact Kd.S_mono HO_5.out (fun _ hk => hk.2)) : p := h
theorem au4_8 {p : Prop} (h : p := by simp only [putAll, Act.put, List.setIfInBounds_toArray, List.set_cons_zero, List.set_cons_succ]) : p := h
theorem au4_9 {p : Prop} (h : p := by exact (Reps.one (show Kd.M Kd.string _ _ _ a1 [.string a1] from rfl) (Reps.none _ _))) : p := h
theorem au4_10 {p : Prop} (h : p := by (with_reducible repeat (first | apply Kd.R_alloc | apply Kd.R_drewN | apply Kd.R_drew)); exact Kd.R_mono (Kd.R_far (p := ⟨gb352, 0, none⟩) (Kd.R_types HO350.out BK352.out (by decide)) (fun _ hk => hk.2) (.slice Ao79 t348.length co79)) (fun _ hk => ⟨hk.1.1.2, hk.1.2⟩)) : p := h
theorem au4_11 {p : Prop} (h : p := by (with_reducible repeat (first | apply Kd.R_alloc | apply Kd.R_drewN | apply Kd.R_drew)); exact Kd.R_mono (Kd.R_far (p := ⟨gb352, 0, none⟩) (Kd.R_types HO_5.out BK352.out (by decide)) (fun _ hk => hk.2) (.slice Ao79 t348.length co79)) (fun _ hk => ⟨hk.1.1, hk.1.2⟩)) : p := h
theorem au4_12 {p : Prop} (h : p := by (with_reducible repeat (first | apply Kd.R_alloc | apply Kd.R_drewN | apply Kd.R_drew)); exact Kd.R_mono (Kd.R_far (p := ⟨gb352, 0, none⟩) (Kd.R_types HO_6.out BK352.out (by decide)) (fun _ hk => hk.2) (.slice Ao79 t348.length co79)) (fun _ hk => ⟨hk.1.1, hk.1.2⟩)) : p := h
theorem au4_13 {p : Prop} (h : p := by (with_reducible repeat (first | apply Kd.S_alloc | apply Kd.S_drewN | apply Kd.S_drew)); exact HO_341001.out) : p := h
theorem au4_14 {p : Prop} (h : p := by rintro w' ⟨s0, s1, s2, s3, s4⟩; go_simp; with_reducible rfl) : p := h
theorem au4_15 {p : Prop} (h : p := by exact k102_mkM _ _ _ (⟨t348⟩ : S102) (Kd.R_mono (Kd.R_tight rfl (Kd.R_mono (ok' := fun k_ => ((fun k_ => some k_ ≠ (.slice (some ad335) t332.length co54 : Value).ownBlock ∧ some k_ ≠ (.slice (some ad339) t336.length co57 : Value).ownBlock ∧ k_ ≠ gb352)) k_ ∧ some k_ ≠ (u341001 : Value).ownBlock) (Kd.R_types (Kd.R_apart' (HO_353000.out) (Kd.S_typed HO_341001.out) (by decide)) BK352.out (by decide)) (fun k_ hk => ⟨⟨hk.1.1.1, ⟨hk.1.1.2, hk.2⟩⟩, hk.1.2⟩))) (fun _ h_ => h_))) : p := h
theorem au4_16 {p : Prop} (h : p := by repeat (first | exact (Kd.R_reads' HO364.out).2.2 | (with_reducible refine Kd.C_alloc ?_ _) | (with_reducible refine Kd.C_drewN ?_ _) | (with_reducible refine Kd.C_drew ?_))) : p := h
theorem au4_17 {p : Prop} (h : p := by exact (fun k_ hk => ⟨Kd.fresh' (Kd.R_lt (rk_ HO_5)) k_ hk, Kd.fresh' (Kd.R_lt (rk_ HO_6)) k_ hk, Kd.freshB (g := gb352) (o := .cells #[.slice Ao79 t348.length co79] 102 (0, 0)) (bk_ BK352) k_ hk⟩)) : p := h
theorem au4_18 {p : Prop} (h : p := by exact (by (with_reducible repeat (first | apply Kd.S_alloc | apply Kd.S_drewN | apply Kd.S_drew)); exact Kd.S_mono HO_341001.out (fun k_ hk => ⟨⟨hk.1, ⟨hk.2.1, hk.2.2.2⟩⟩, fun e_ => hk.2.2.1 e_⟩))) : p := h
theorem au4_19 {p : Prop} (h : p := by repeat (first | exact (Kd.C_below HR389_0.out HB.out) | (with_reducible refine Kd.C_alloc ?_ _) | (with_reducible refine Kd.C_drewN ?_ _) | (with_reducible refine Kd.C_drew ?_))) : p := h
theorem au4_20 {p : Prop} (h : p := by repeat (first | exact (Kd.C_below HR390_0.out HB.out) | (with_reducible refine Kd.C_alloc ?_ _) | (with_reducible refine Kd.C_drewN ?_ _) | (with_reducible refine Kd.C_drew ?_))) : p := h
theorem au4_21 {p : Prop} (h : p := by repeat (first | exact (Kd.C_below HR0_0.out HB.out) | (with_reducible refine Kd.C_alloc ?_ _) | (with_reducible refine Kd.C_drewN ?_ _) | (with_reducible refine Kd.C_drew ?_))) : p := h
theorem au4_22 {p : Prop} (h : p := by repeat (first | exact (Kd.C_below HR1_0.out HB.out) | (with_reducible refine Kd.C_alloc ?_ _) | (with_reducible refine Kd.C_drewN ?_ _) | (with_reducible refine Kd.C_drew ?_))) : p := h
theorem au4_23 {p : Prop} (h : p := by repeat (first | exact (Kd.C_below HR0_1.out HB.out) | (with_reducible refine Kd.C_alloc ?_ _) | (with_reducible refine Kd.C_drewN ?_ _) | (with_reducible refine Kd.C_drew ?_))) : p := h
theorem au4_24 {p : Prop} (h : p := by repeat (first | exact (Kd.C_below HR1_1.out HB.out) | (with_reducible refine Kd.C_alloc ?_ _) | (with_reducible refine Kd.C_drewN ?_ _) | (with_reducible refine Kd.C_drew ?_))) : p := h
theorem au4_25 {p : Prop} (h : p := by have := HK1.out; first | omega | exact Nat.le_refl _) : p := h
theorem au4_26 {p : Prop} (h : p := by (with_reducible repeat (first | apply Kd.S_alloc | apply Kd.S_drewN | apply Kd.S_drew)); exact Kd.S_mono HO_5.out (fun _ hk => hk)) : p := h
theorem au4_27 {p : Prop} (h : p := by rintro w' ⟨s0, s1⟩; go_simp; with_reducible rfl) : p := h
theorem au4_28 {p : Prop} (h : p := by exact (Kd.R_reads' HO329.out).2.1) : p := h

/-! ### F41: function 41 -/
mutual
def F41.l0 : Nat → List ByteArray → List ByteArray → Int → List ByteArray → Int → Int → Int → Int → Int → Int → ByteArray → List (S102) → Option (ByteArray × (List (S102)) × Int × Int × Int)
  | 0, _, _, _, _, _, _, _, _, _, _, _, _ => none
  | k + 1, x5, x6, x8, x57, x58, x59, x326000, x326001, x326002, x326003, x341000, x341001 => if x59 < x58 then (if 0 ≤ x59 then (if x59 < (x57.length : Int) then (if x59 = 10 then (some ((⟨#[]⟩ : ByteArray), ([] : List (S102)), 0, x8, 3)) else ((F88.f k x326000 x326001 x326002 x326003 (rdOf ByteArray.empty x57 x59) x8).bind fun bt348 => (if bt348.2 < 0 then (if x59 = (wrap64 ((x6.length : Int) - 2)) then (if (bt348.1.length : Int) = 1 then (if 0 < (bt348.1.length : Int) then (F41.j1 k x5 x6 x8 (rdOf ByteArray.empty x57 x59) bt348.2 x57 x58 x59 ((rdOf ByteArray.empty bt348.1 0).toList == ([] : List UInt8)) x326000 x326001 x326002 x326003 x341000 x341001 bt348.1) else (none)) else (F41.j1 k x5 x6 x8 (rdOf ByteArray.empty x57 x59) bt348.2 x57 x58 x59 false x326000 x326001 x326002 x326003 x341000 x341001 bt348.1)) else (F41.j1 k x5 x6 x8 (rdOf ByteArray.empty x57 x59) bt348.2 x57 x58 x59 false x326000 x326001 x326002 x326003 x341000 x341001 bt348.1)) else (F41.j1 k x5 x6 x8 (rdOf ByteArray.empty x57 x59) bt348.2 x57 x58 x59 false x326000 x326001 x326002 x326003 x341000 x341001 bt348.1)))) else (none)) else (none)) else (if 0 < (x5.length : Int) then (some (x341000, x341001, wrap64 (((rdOf ByteArray.empty x5 0).size : Int) + 1), 0, 0)) else (none))
def F41.j1 : Nat → List ByteArray → List ByteArray → Int → ByteArray → Int → List ByteArray → Int → Int → Bool → Int → Int → Int → Int → ByteArray → List (S102) → List ByteArray → Option (ByteArray × (List (S102)) × Int × Int × Int)
  | 0, _, _, _, _, _, _, _, _, _, _, _, _, _, _, _, _ => none
  | k + 1, x5, x6, x8, x10, x12, x57, x58, x59, x96, x326000, x326001, x326002, x326003, x341000, x341001, x353000 => if x96 = true then (if x8 ≥ 0 then (some ((⟨#[]⟩ : ByteArray), ([] : List (S102)), 0, x8, 3)) else (if x341001.length < 5864062014805 then (F41.l0 k x5 x6 (wrap64 (x8 + (wrap64 ((x10.size : Int) + 1)))) x57 x58 (wrap64 (x59 + 1)) x326000 x326001 x326002 x326003 x341000 (x341001 ++ [(⟨x353000⟩ : S102)])) else (none))) else (if x12 ≥ 0 then (some ((⟨#[]⟩ : ByteArray), ([] : List (S102)), 0, x12, 3)) else (if x341001.length < 5864062014805 then (F41.l0 k x5 x6 (wrap64 (x8 + (wrap64 ((x10.size : Int) + 1)))) x57 x58 (wrap64 (x59 + 1)) x326000 x326001 x326002 x326003 x341000 (x341001 ++ [(⟨x353000⟩ : S102)])) else (none)))
end
def F41.f (k : Nat) (a0_0 : Int) (a0_1 : Int) (a0_2 : Int) (a0_3 : Int) (a1 : ByteArray) : Option (ByteArray × (List (S102)) × Int × Int × Int) := (F58.f k (([a1] : List ByteArray))).bind fun t330 => (if t330 = true then (some ((⟨#[]⟩ : ByteArray), ([] : List (S102)), 0, 0, 2)) else ((F60.f k a0_0 a0_1 a0_2 a0_3).bind fun t331 => (if t331 = true then (if a1.toList = ([] : List UInt8) then (some ((⟨#[]⟩ : ByteArray), ([] : List (S102)), 0, 0, 6)) else ((F69.f k a0_0 a0_1 a0_2 a0_3 a1 a0_0).bind fun t332 => (if (t332.length : Int) < 2 then (some ((⟨#[]⟩ : ByteArray), ([] : List (S102)), 0, 0, 4)) else (if 0 < (t332.length : Int) then ((F69.f k a0_0 a0_1 a0_2 a0_3 (rdOf ByteArray.empty t332 0) a0_1).bind fun t336 => (if 0 < (t336.length : Int) then ((F83.f (rdOf ByteArray.empty t336 0)).bind fun t341 => (if t341 = true then (if 1 ≤ (t336.length : Int) then ((some (t336.drop 1 : List ByteArray)).bind fun y342 => (F41.l0 k t332 t336 (wrap64 (((rdOf ByteArray.empty t336 0).size : Int) + 1)) y342 (y342.length : Int) 0 a0_0 a0_1 a0_2 a0_3 (rdOf ByteArray.empty t336 0) ([] : List (S102)))) else (none)) else (some ((⟨#[]⟩ : ByteArray), ([] : List (S102)), 0, 0, 3)))) else (none))) else (none))))) else (some ((⟨#[]⟩ : ByteArray), ([] : List (S102)), 0, 0, 1)))))
theorem F41.mono_l : ∀ k, (∀ y0 y1 y2 y3 y4 y5 y6 y7 y8 y9 y10 y11, LeO (F41.l0 k y0 y1 y2 y3 y4 y5 y6 y7 y8 y9 y10 y11) (F41.l0 (k + 1) y0 y1 y2 y3 y4 y5 y6 y7 y8 y9 y10 y11)) ∧ (∀ y0 y1 y2 y3 y4 y5 y6 y7 y8 y9 y10 y11 y12 y13 y14 y15, LeO (F41.j1 k y0 y1 y2 y3 y4 y5 y6 y7 y8 y9 y10 y11 y12 y13 y14 y15) (F41.j1 (k + 1) y0 y1 y2 y3 y4 y5 y6 y7 y8 y9 y10 y11 y12 y13 y14 y15))
 | 0 => ⟨fun _ _ _ _ _ _ _ _ _ _ _ _ r h => by simp [F41.l0] at h, fun _ _ _ _ _ _ _ _ _ _ _ _ _ _ _ _ r h => by simp [F41.j1] at h⟩
 | k + 1 => by
  obtain ⟨ih0, ih1⟩ := F41.mono_l k
  refine ⟨?_, ?_⟩
  rotate_left
  ·intro y0 y1 y2 y3 y4 y5 y6 y7 y8 y9 y10 y11 y12 y13 y14 y15
   unfold F41.j1
   repeat' with_reducible first | exact ih0 _ _ _ _ _ _ _ _ _ _ _ _ | exact ih1 _ _ _ _ _ _ _ _ _ _ _ _ _ _ _ _ | exact F60.mono _ _ _ _ _ | exact F69.mono _ _ _ _ _ _ _ | exact F88.mono _ _ _ _ _ _ _ | exact F58.mono _ _ | exact LeO.refl _ | exact LeO.none _ | refine LeO.ite ?_ ?_ | refine LeO.bind ?_ (fun _ => ?_)
  intro y0 y1 y2 y3 y4 y5 y6 y7 y8 y9 y10 y11
  unfold F41.l0
  repeat' with_reducible first | exact ih0 _ _ _ _ _ _ _ _ _ _ _ _ | exact ih1 _ _ _ _ _ _ _ _ _ _ _ _ _ _ _ _ | exact F60.mono _ _ _ _ _ | exact F69.mono _ _ _ _ _ _ _ | exact F88.mono _ _ _ _ _ _ _ | exact F58.mono _ _ | exact LeO.refl _ | exact LeO.none _ | refine LeO.ite ?_ ?_ | refine LeO.bind ?_ (fun _ => ?_)
theorem F41.mono : ∀ a0 a1 a2 a3 a4 k, LeO (F41.f k a0 a1 a2 a3 a4) (F41.f (k + 1) a0 a1 a2 a3 a4) := by
 intro a0 a1 a2 a3 a4 k
 obtain ⟨ih0, ih1⟩ := F41.mono_l k
 unfold F41.f
 repeat' with_reducible first | exact ih0 _ _ _ _ _ _ _ _ _ _ _ _ | exact ih1 _ _ _ _ _ _ _ _ _ _ _ _ _ _ _ _ | exact F60.mono _ _ _ _ _ | exact F69.mono _ _ _ _ _ _ _ | exact F88.mono _ _ _ _ _ _ _ | exact F58.mono _ _ | exact LeO.refl _ | exact LeO.none _ | refine LeO.ite ?_ ?_ | refine LeO.bind ?_ (fun _ => ?_)
def F41.T10 : Bool × List (List Nat × List Nat) := (true, [([], []), ([], []), ([1], [1]), ([2], [2]), ([], []), ([4], [4]), ([0, 3, 5], [0, 3, 5]), ([6, 6, 0, 1, 2, 3, 4, 5, 6], [6])])
def F41.B10 : List Nat := [0, 0, 2, 6, 0, 16, 63, 127]
theorem F41.tab10 : rtab .any (opsOf Try.f41 10) = F41.T10 := by kernel_rfl
theorem F41.bits10 : waitsOk F41.T10.2 F41.B10 = true := by kernel_rfl
def F41.T28 : Bool × List (List Nat × List Nat) := (true, [([], []), ([], []), ([1], [1]), ([2], [2]), ([3], [3]), ([4], [4]), ([0, 5], [0, 5]), ([6, 0, 1, 2, 3, 4, 5, 6], [6])])
def F41.B28 : List Nat := [0, 0, 2, 6, 14, 30, 63, 127]
theorem F41.tab28 : rtab .any (opsOf Try.f41 28) = F41.T28 := by kernel_rfl
theorem F41.bits28 : waitsOk F41.T28.2 F41.B28 = true := by kernel_rfl
theorem F41.calls (k : Nat) (a0_0 : Int) (a0_1 : Int) (a0_2 : Int) (a0_3 : Int) (a1 : ByteArray) (r1 : ByteArray) (r2 : List (S102)) (r3 : Int) (r4 : Int) (r5 : Int) (w : World) (h : F41.f k a0_0 a0_1 a0_2 a0_3 a1 = some (r1, r2, r3, r4, r5)) :
  Calls Try.prog 41 #[.agg #[.int .i64 a0_0, .int .i64 a0_1, .int .i64 a0_2, .int .i64 a0_3], .string a1] w fun e w' => ∃ v1_ : Value, e = .returned (.agg #[.string r1, v1_, .int .i64 r3, .int .i64 r4, .int .i64 r5]) ∧ Kd.S k102 102 w' w.heap.size (fun _ => True) v1_ r2 ∧ Below w.heap.size w w' := by
 have hu23 := Try.underlying23
 have hu66 := Try.underlying66
 have hu59 := Try.underlying59
 have hu102 := Try.underlying102
 have HB := am_ (Below.refl w.heap.size w)
 have H : ((F58.f k (([a1] : List ByteArray))).bind fun t330 => (if t330 = true then (some ((⟨#[]⟩ : ByteArray), ([] : List (S102)), 0, 0, 2)) else ((F60.f k a0_0 a0_1 a0_2 a0_3).bind fun t331 => (if t331 = true then (if a1.toList = ([] : List UInt8) then (some ((⟨#[]⟩ : ByteArray), ([] : List (S102)), 0, 0, 6)) else ((F69.f k a0_0 a0_1 a0_2 a0_3 a1 a0_0).bind fun t332 => (if (t332.length : Int) < 2 then (some ((⟨#[]⟩ : ByteArray), ([] : List (S102)), 0, 0, 4)) else (if 0 < (t332.length : Int) then ((F69.f k a0_0 a0_1 a0_2 a0_3 (rdOf ByteArray.empty t332 0) a0_1).bind fun t336 => (if 0 < (t336.length : Int) then ((F83.f (rdOf ByteArray.empty t336 0)).bind fun t341 => (if t341 = true then (if 1 ≤ (t336.length : Int) then ((some (t336.drop 1 : List ByteArray)).bind fun y342 => (F41.l0 k t332 t336 (wrap64 (((rdOf ByteArray.empty t336 0).size : Int) + 1)) y342 (y342.length : Int) 0 a0_0 a0_1 a0_2 a0_3 (rdOf ByteArray.empty t336 0) ([] : List (S102)))) else (none)) else (some ((⟨#[]⟩ : ByteArray), ([] : List (S102)), 0, 0, 3)))) else (none))) else (none))))) else (some ((⟨#[]⟩ : ByteArray), ([] : List (S102)), 0, 0, 1)))))) = some (r1, r2, r3, r4, r5) := h
 clear h
 obtain ⟨y327, hy327⟩ : ∃ y_ : List ByteArray, y_ = (([a1] : List ByteArray)) := ⟨_, rfl⟩
 replace H : ((F58.f k y327).bind fun t330 => (if t330 = true then (some ((⟨#[]⟩ : ByteArray), ([] : List (S102)), 0, 0, 2)) else ((F60.f k a0_0 a0_1 a0_2 a0_3).bind fun t331 => (if t331 = true then (if a1.toList = ([] : List UInt8) then (some ((⟨#[]⟩ : ByteArray), ([] : List (S102)), 0, 0, 6)) else ((F69.f k a0_0 a0_1 a0_2 a0_3 a1 a0_0).bind fun t332 => (if (t332.length : Int) < 2 then (some ((⟨#[]⟩ : ByteArray), ([] : List (S102)), 0, 0, 4)) else (if 0 < (t332.length : Int) then ((F69.f k a0_0 a0_1 a0_2 a0_3 (rdOf ByteArray.empty t332 0) a0_1).bind fun t336 => (if 0 < (t336.length : Int) then ((F83.f (rdOf ByteArray.empty t336 0)).bind fun t341 => (if t341 = true then (if 1 ≤ (t336.length : Int) then ((some (t336.drop 1 : List ByteArray)).bind fun y342 => (F41.l0 k t332 t336 (wrap64 (((rdOf ByteArray.empty t336 0).size : Int) + 1)) y342 (y342.length : Int) 0 a0_0 a0_1 a0_2 a0_3 (rdOf ByteArray.empty t336 0) ([] : List (S102)))) else (none)) else (some ((⟨#[]⟩ : ByteArray), ([] : List (S102)), 0, 0, 3)))) else (none))) else (none))))) else (some ((⟨#[]⟩ : ByteArray), ([] : List (S102)), 0, 0, 1)))))) = some (r1, r2, r3, r4, r5) := by first | (rw [hy327]; exact H) | exact H
 have Ny327 := am_ hy327
 clear hy327
 replace H := bi_ H; rcases H with ⟨t330, A3, H⟩
 replace H := ib_ H; rcases H with ⟨rfl, H⟩ | ⟨rfl, H⟩
 ·simp only [Option.some.injEq, Prod.mk.injEq] at H
  obtain ⟨rfl, rfl, rfl, rfl, rfl⟩ := H
  go_enter Try.func41, Try.ntmps41
  go_wp2_with (first | ((with_reducible refine gate_dst (N := 2) rfl ?_); (try (refine gate_guard (by rfl) ?_; dsimp only)); refine be_ 2 #[.int .i64 a0_0, .int .i64 a0_1, .int .i64 a0_2, .int .i64 a0_3] 23 ?_; intro gb325 hg w5 hbox hb; have BK325 := am_ (hbox); have GW325 := am_ (gw_ hg bl_); have GE325 := GW325; replace HB := hs_ w hb; clear hb hbox hg) | ((with_reducible refine gate_dst (N := 4) rfl ?_); (try (refine gate_guard (by rfl) ?_; dsimp only)); refine be_ 4 #[.string (⟨#[]⟩ : ByteArray), .slice none 0 0, .int .i64 0, .int .i64 0, .int .i64 0] 66 ?_; intro gb326 hg w6 hbox hb; have BK326 := am_ (hbox); have GW326 := am_ (gw_ hg bl_); have GE326 := GW326; replace HB := hs_ w hb; have NB325_326 := am_ (gn_ hg (blkl_ BK325)); have NB326_325 := am_ (gm_ hg (blkl_ BK325)); replace BK325 := bb_ BK325 hb; clear hb hbox hg) | ((with_reducible refine gate_dst (N := 15) rfl ?_); (try (refine gate_guard (by rfl) ?_; dsimp only)); refine Kd.R_lit Kd.string _ 9 ?hg (N := 15) ?hd (xs := ([a1] : List ByteArray)) (inner := [.string a1]) (ok := fun _ => True) (okp := fun _ => True) ?hr ?hp (fun _ hk => hk) trivial (Below.refl _ _) (Nat.le_refl _) (by simp) ?_; (case hd => rfl); (case hg => rfl); (case hr => exact hr_); (case hp => exact au4_9); intro v328 w7 ho8 hb hg_ hnew_; clear hg_ hnew_; (first | rw [← Ny327.out] at ho8 | (simp only [Int.reduceToNat] at ho8; rw [← Ny327.out] at ho8)); have HO329 := am_ (Kd.R_lower ho8 (below_size bl_)); replace BK325 := bb_ BK325 hb; replace BK326 := bb_ BK326 hb; replace HB := hs_ w hb; clear hb ho8; obtain ⟨Ao9, co9, eo9⟩ := Kd.R_slice HO329.out; subst eo9) | (go_at_call 58; (with_reducible refine (F58.calls k _ _ y327 true _ ?s1 ?s2 A3.out).mono ?_); (case s1 => exact au4_5); (case s2 => exact au4_28); rintro e w' ⟨rfl, ⟨nd, rfl⟩⟩; (try clear A3); (try (rw [drewN_self w7]; generalize hq_ : World.drewN w7 _ = w7; have n0_ : Aside0 (Kd.R Kd.string 9 w7 w.heap.size (fun _ => True) (.slice Ao9 y327.length co9) y327) := ⟨by rw [← hq_]; exact (rk_ HO329)⟩; have n1_ : Aside0 (w7.heap[gb325]? = some (.cells #[.int .i64 a0_0, .int .i64 a0_1, .int .i64 a0_2, .int .i64 a0_3] 23 (0, 0))) := ⟨by rw [← hq_]; exact (bk_ BK325)⟩; have n2_ : Aside0 (w7.heap[gb326]? = some (.cells #[.string (⟨#[]⟩ : ByteArray), .slice none 0 0, .int .i64 0, .int .i64 0, .int .i64 0] 66 (0, 0))) := ⟨by rw [← hq_]; exact (bk_ BK326)⟩; have n3_ : Aside0 (Below w.heap.size w w7) := ⟨by rw [← hq_]; exact bl_⟩; clear HO329 BK325 BK326 HB hq_; have HO329 := n0_; have BK325 := n1_; have BK326 := n2_; have HB := n3_; clear n0_ n1_ n2_ n3_)); have hnb10 := NB326_325.out; have hnc10 := NB325_326.out; obtain ⟨hcz11_0, hcz11_1, hcz11_2, hcz11_3, hcz11_4, hfz11_0, hfz11_1, hfz11_2, hfz11_3, hfz11_4⟩ := cellsF5 BK326.out))
  refine bodyPost_ret (results_cell_row rfl _ _ gb326 66 #[.string (⟨#[]⟩ : ByteArray), .slice none 0 0, .int .i64 0, .int .i64 0, .int .i64 2] (0, 0) _ rfl (bq_ BK326) Try.underlying66 rfl (by kernel_rfl)) rfl ?_
  exact ⟨_, au4_0, au4_1, bl_⟩
 replace H := bi_ H; rcases H with ⟨t331, A12, H⟩
 replace H := ib_ H; rcases H with ⟨rfl, H⟩ | ⟨rfl, H⟩
 rotate_left
 ·simp only [Option.some.injEq, Prod.mk.injEq] at H
  obtain ⟨rfl, rfl, rfl, rfl, rfl⟩ := H
  go_enter Try.func41, Try.ntmps41
  go_wp2_with (first | ((with_reducible refine gate_dst (N := 2) rfl ?_); (try (refine gate_guard (by rfl) ?_; dsimp only)); refine be_ 2 #[.int .i64 a0_0, .int .i64 a0_1, .int .i64 a0_2, .int .i64 a0_3] 23 ?_; intro gb325 hg w156 hbox hb; have BK325 := am_ (hbox); have GW325 := am_ (gw_ hg bl_); have GE325 := GW325; replace HB := hs_ w hb; clear hb hbox hg) | ((with_reducible refine gate_dst (N := 4) rfl ?_); (try (refine gate_guard (by rfl) ?_; dsimp only)); refine be_ 4 #[.string (⟨#[]⟩ : ByteArray), .slice none 0 0, .int .i64 0, .int .i64 0, .int .i64 0] 66 ?_; intro gb326 hg w157 hbox hb; have BK326 := am_ (hbox); have GW326 := am_ (gw_ hg bl_); have GE326 := GW326; replace HB := hs_ w hb; have NB325_326 := am_ (gn_ hg (blkl_ BK325)); have NB326_325 := am_ (gm_ hg (blkl_ BK325)); replace BK325 := bb_ BK325 hb; clear hb hbox hg) | ((with_reducible refine gate_dst (N := 15) rfl ?_); (try (refine gate_guard (by rfl) ?_; dsimp only)); refine Kd.R_lit Kd.string _ 9 ?hg (N := 15) ?hd (xs := ([a1] : List ByteArray)) (inner := [.string a1]) (ok := fun _ => True) (okp := fun _ => True) ?hr ?hp (fun _ hk => hk) trivial (Below.refl _ _) (Nat.le_refl _) (by simp) ?_; (case hd => rfl); (case hg => rfl); (case hr => exact hr_); (case hp => exact au4_9); intro v328 w158 ho159 hb hg_ hnew_; clear hg_ hnew_; (first | rw [← Ny327.out] at ho159 | (simp only [Int.reduceToNat] at ho159; rw [← Ny327.out] at ho159)); have HO329 := am_ (Kd.R_lower ho159 (below_size bl_)); replace BK325 := bb_ BK325 hb; replace BK326 := bb_ BK326 hb; replace HB := hs_ w hb; clear hb ho159; obtain ⟨Ao160, co160, eo160⟩ := Kd.R_slice HO329.out; subst eo160) | (go_at_call 58; (with_reducible refine (F58.calls k _ _ y327 false _ ?s1 ?s2 A3.out).mono ?_); (case s1 => exact au4_5); (case s2 => exact au4_28); rintro e w' ⟨rfl, ⟨nd, rfl⟩⟩; (try clear A3); (try (rw [drewN_self w158]; generalize hq_ : World.drewN w158 _ = w158; have n0_ : Aside0 (Kd.R Kd.string 9 w158 w.heap.size (fun _ => True) (.slice Ao160 y327.length co160) y327) := ⟨by rw [← hq_]; exact (rk_ HO329)⟩; have n1_ : Aside0 (w158.heap[gb325]? = some (.cells #[.int .i64 a0_0, .int .i64 a0_1, .int .i64 a0_2, .int .i64 a0_3] 23 (0, 0))) := ⟨by rw [← hq_]; exact (bk_ BK325)⟩; have n2_ : Aside0 (w158.heap[gb326]? = some (.cells #[.string (⟨#[]⟩ : ByteArray), .slice none 0 0, .int .i64 0, .int .i64 0, .int .i64 0] 66 (0, 0))) := ⟨by rw [← hq_]; exact (bk_ BK326)⟩; have n3_ : Aside0 (Below w.heap.size w w158) := ⟨by rw [← hq_]; exact bl_⟩; clear HO329 BK325 BK326 HB hq_; have HO329 := n0_; have BK325 := n1_; have BK326 := n2_; have HB := n3_; clear n0_ n1_ n2_ n3_)); have hnb161 := NB325_326.out; have hnc161 := NB326_325.out; obtain ⟨hcz162_0, hcz162_1, hcz162_2, hcz162_3, hfz162_0, hfz162_1, hfz162_2, hfz162_3⟩ := cellsF4 BK325.out) | (go_at_call 60; (with_reducible refine (F60.calls k a0_0 a0_1 a0_2 a0_3 false _ A12.out).mono ?_); rintro e w163 ⟨rfl, hb⟩; (try clear A12); replace HO329 := am_ (Kd.R_below (rk_ HO329) hb); replace BK325 := bb_ BK325 hb; replace BK326 := bb_ BK326 hb; replace HB := hs_ w hb; (try clear hb); obtain ⟨hcz164_0, hcz164_1, hcz164_2, hcz164_3, hcz164_4, hfz164_0, hfz164_1, hfz164_2, hfz164_3, hfz164_4⟩ := cellsF5 BK326.out))
  refine bodyPost_ret (results_cell_row rfl _ _ gb326 66 #[.string (⟨#[]⟩ : ByteArray), .slice none 0 0, .int .i64 0, .int .i64 0, .int .i64 1] (0, 0) _ rfl (bq_ BK326) Try.underlying66 rfl (by kernel_rfl)) rfl ?_
  exact ⟨_, au4_0, au4_1, bl_⟩

 by_cases c14 : a1.toList = ([] : List UInt8)
 ·rw [if_pos c14] at H
  have c14b0 : (a1.toList == ([] : List UInt8)) = true := beq_iff_eq.mpr c14
  have c14b1 : (a1.toList != ([] : List UInt8)) = false := bne_eq_false_iff_eq.mpr c14
  clear c14
  simp only [Option.some.injEq, Prod.mk.injEq] at H
  obtain ⟨rfl, rfl, rfl, rfl, rfl⟩ := H
  go_enter Try.func41, Try.ntmps41
  go_wp2_with (first | ((with_reducible refine gate_dst (N := 2) rfl ?_); (try (refine gate_guard (by rfl) ?_; dsimp only)); refine be_ 2 #[.int .i64 a0_0, .int .i64 a0_1, .int .i64 a0_2, .int .i64 a0_3] 23 ?_; intro gb325 hg w15 hbox hb; have BK325 := am_ (hbox); have GW325 := am_ (gw_ hg bl_); have GE325 := GW325; replace HB := hs_ w hb; clear hb hbox hg) | ((with_reducible refine gate_dst (N := 4) rfl ?_); (try (refine gate_guard (by rfl) ?_; dsimp only)); refine be_ 4 #[.string (⟨#[]⟩ : ByteArray), .slice none 0 0, .int .i64 0, .int .i64 0, .int .i64 0] 66 ?_; intro gb326 hg w16 hbox hb; have BK326 := am_ (hbox); have GW326 := am_ (gw_ hg bl_); have GE326 := GW326; replace HB := hs_ w hb; have NB325_326 := am_ (gn_ hg (blkl_ BK325)); have NB326_325 := am_ (gm_ hg (blkl_ BK325)); replace BK325 := bb_ BK325 hb; clear hb hbox hg) | ((with_reducible refine gate_dst (N := 15) rfl ?_); (try (refine gate_guard (by rfl) ?_; dsimp only)); refine Kd.R_lit Kd.string _ 9 ?hg (N := 15) ?hd (xs := ([a1] : List ByteArray)) (inner := [.string a1]) (ok := fun _ => True) (okp := fun _ => True) ?hr ?hp (fun _ hk => hk) trivial (Below.refl _ _) (Nat.le_refl _) (by simp) ?_; (case hd => rfl); (case hg => rfl); (case hr => exact hr_); (case hp => exact au4_9); intro v328 w17 ho18 hb hg_ hnew_; clear hg_ hnew_; (first | rw [← Ny327.out] at ho18 | (simp only [Int.reduceToNat] at ho18; rw [← Ny327.out] at ho18)); have HO329 := am_ (Kd.R_lower ho18 (below_size bl_)); replace BK325 := bb_ BK325 hb; replace BK326 := bb_ BK326 hb; replace HB := hs_ w hb; clear hb ho18; obtain ⟨Ao19, co19, eo19⟩ := Kd.R_slice HO329.out; subst eo19) | (go_at_call 58; (with_reducible refine (F58.calls k _ _ y327 false _ ?s1 ?s2 A3.out).mono ?_); (case s1 => exact au4_5); (case s2 => exact au4_28); rintro e w' ⟨rfl, ⟨nd, rfl⟩⟩; (try clear A3); (try (rw [drewN_self w17]; generalize hq_ : World.drewN w17 _ = w17; have n0_ : Aside0 (Kd.R Kd.string 9 w17 w.heap.size (fun _ => True) (.slice Ao19 y327.length co19) y327) := ⟨by rw [← hq_]; exact (rk_ HO329)⟩; have n1_ : Aside0 (w17.heap[gb325]? = some (.cells #[.int .i64 a0_0, .int .i64 a0_1, .int .i64 a0_2, .int .i64 a0_3] 23 (0, 0))) := ⟨by rw [← hq_]; exact (bk_ BK325)⟩; have n2_ : Aside0 (w17.heap[gb326]? = some (.cells #[.string (⟨#[]⟩ : ByteArray), .slice none 0 0, .int .i64 0, .int .i64 0, .int .i64 0] 66 (0, 0))) := ⟨by rw [← hq_]; exact (bk_ BK326)⟩; have n3_ : Aside0 (Below w.heap.size w w17) := ⟨by rw [← hq_]; exact bl_⟩; clear HO329 BK325 BK326 HB hq_; have HO329 := n0_; have BK325 := n1_; have BK326 := n2_; have HB := n3_; clear n0_ n1_ n2_ n3_)); have hnb20 := NB325_326.out; have hnc20 := NB326_325.out; obtain ⟨hcz21_0, hcz21_1, hcz21_2, hcz21_3, hfz21_0, hfz21_1, hfz21_2, hfz21_3⟩ := cellsF4 BK325.out) | (go_at_call 60; (with_reducible refine (F60.calls k a0_0 a0_1 a0_2 a0_3 true _ A12.out).mono ?_); rintro e w22 ⟨rfl, hb⟩; (try clear A12); replace HO329 := am_ (Kd.R_below (rk_ HO329) hb); replace BK325 := bb_ BK325 hb; replace BK326 := bb_ BK326 hb; replace HB := hs_ w hb; (try clear hb); obtain ⟨hcz23_0, hcz23_1, hcz23_2, hcz23_3, hcz23_4, hfz23_0, hfz23_1, hfz23_2, hfz23_3, hfz23_4⟩ := cellsF5 BK326.out))
  refine bodyPost_ret (results_cell_row rfl _ _ gb326 66 #[.string (⟨#[]⟩ : ByteArray), .slice none 0 0, .int .i64 0, .int .i64 0, .int .i64 6] (0, 0) _ rfl (bq_ BK326) Try.underlying66 rfl (by kernel_rfl)) rfl ?_
  exact ⟨_, au4_0, au4_1, bl_⟩
 rw [if_neg c14] at H
 have c14b0 : (a1.toList == ([] : List UInt8)) = false := beq_eq_false_iff_ne.mpr c14
 have c14b1 : (a1.toList != ([] : List UInt8)) = true := bne_iff_ne.mpr c14
 replace H := bi_ H; rcases H with ⟨t332, A24, H⟩
 replace H := it_ H; rcases H with ⟨c25b0, H⟩ | ⟨c25b0, H⟩
 ·have c25b1 : decide (t332.length < 2) = true := n2_ c25b0
  simp only [Option.some.injEq, Prod.mk.injEq] at H
  obtain ⟨rfl, rfl, rfl, rfl, rfl⟩ := H
  go_enter Try.func41, Try.ntmps41
  go_wp2_with (first | ((with_reducible refine gate_dst (N := 2) rfl ?_); (try (refine gate_guard (by rfl) ?_; dsimp only)); refine be_ 2 #[.int .i64 a0_0, .int .i64 a0_1, .int .i64 a0_2, .int .i64 a0_3] 23 ?_; intro gb325 hg w26 hbox hb; have BK325 := am_ (hbox); have GW325 := am_ (gw_ hg bl_); have GE325 := GW325; replace HB := hs_ w hb; clear hb hbox hg) | ((with_reducible refine gate_dst (N := 4) rfl ?_); (try (refine gate_guard (by rfl) ?_; dsimp only)); refine be_ 4 #[.string (⟨#[]⟩ : ByteArray), .slice none 0 0, .int .i64 0, .int .i64 0, .int .i64 0] 66 ?_; intro gb326 hg w27 hbox hb; have BK326 := am_ (hbox); have GW326 := am_ (gw_ hg bl_); have GE326 := GW326; replace HB := hs_ w hb; have NB325_326 := am_ (gn_ hg (blkl_ BK325)); have NB326_325 := am_ (gm_ hg (blkl_ BK325)); replace BK325 := bb_ BK325 hb; clear hb hbox hg) | ((with_reducible refine gate_dst (N := 15) rfl ?_); (try (refine gate_guard (by rfl) ?_; dsimp only)); refine Kd.R_lit Kd.string _ 9 ?hg (N := 15) ?hd (xs := ([a1] : List ByteArray)) (inner := [.string a1]) (ok := fun _ => True) (okp := fun _ => True) ?hr ?hp (fun _ hk => hk) trivial (Below.refl _ _) (Nat.le_refl _) (by simp) ?_; (case hd => rfl); (case hg => rfl); (case hr => exact hr_); (case hp => exact au4_9); intro v328 w28 ho29 hb hg_ hnew_; clear hg_ hnew_; (first | rw [← Ny327.out] at ho29 | (simp only [Int.reduceToNat] at ho29; rw [← Ny327.out] at ho29)); have HO329 := am_ (Kd.R_lower ho29 (below_size bl_)); replace BK325 := bb_ BK325 hb; replace BK326 := bb_ BK326 hb; replace HB := hs_ w hb; clear hb ho29; obtain ⟨Ao30, co30, eo30⟩ := Kd.R_slice HO329.out; subst eo30) | (go_at_call 58; (with_reducible refine (F58.calls k _ _ y327 false _ ?s1 ?s2 A3.out).mono ?_); (case s1 => exact au4_5); (case s2 => exact au4_28); rintro e w' ⟨rfl, ⟨nd, rfl⟩⟩; (try clear A3); (try (rw [drewN_self w28]; generalize hq_ : World.drewN w28 _ = w28; have n0_ : Aside0 (Kd.R Kd.string 9 w28 w.heap.size (fun _ => True) (.slice Ao30 y327.length co30) y327) := ⟨by rw [← hq_]; exact (rk_ HO329)⟩; have n1_ : Aside0 (w28.heap[gb325]? = some (.cells #[.int .i64 a0_0, .int .i64 a0_1, .int .i64 a0_2, .int .i64 a0_3] 23 (0, 0))) := ⟨by rw [← hq_]; exact (bk_ BK325)⟩; have n2_ : Aside0 (w28.heap[gb326]? = some (.cells #[.string (⟨#[]⟩ : ByteArray), .slice none 0 0, .int .i64 0, .int .i64 0, .int .i64 0] 66 (0, 0))) := ⟨by rw [← hq_]; exact (bk_ BK326)⟩; have n3_ : Aside0 (Below w.heap.size w w28) := ⟨by rw [← hq_]; exact bl_⟩; clear HO329 BK325 BK326 HB hq_; have HO329 := n0_; have BK325 := n1_; have BK326 := n2_; have HB := n3_; clear n0_ n1_ n2_ n3_)); have hnb31 := NB325_326.out; have hnc31 := NB326_325.out; obtain ⟨hcz32_0, hcz32_1, hcz32_2, hcz32_3, hfz32_0, hfz32_1, hfz32_2, hfz32_3⟩ := cellsF4 BK325.out) | (go_at_call 60; (with_reducible refine (F60.calls k a0_0 a0_1 a0_2 a0_3 true _ A12.out).mono ?_); rintro e w33 ⟨rfl, hb⟩; (try clear A12); replace HO329 := am_ (Kd.R_below (rk_ HO329) hb); replace BK325 := bb_ BK325 hb; replace BK326 := bb_ BK326 hb; replace HB := hs_ w hb; (try clear hb); obtain ⟨hcz34_0, hcz34_1, hcz34_2, hcz34_3, hfz34_0, hfz34_1, hfz34_2, hfz34_3⟩ := cellsF4 BK325.out) | (go_at_call 69; (with_reducible refine (F69.calls k a0_0 a0_1 a0_2 a0_3 a1 a0_0 t332 _ A24.out).mono ?_); rintro e w35 ⟨v333, rfl, ho0, hb⟩; (try clear A24); have HO334 := am_ (Kd.R_lower (Kd.R_new' ho0 (Kd.R_lt (rk_ HO329))) (below_size bl_)); replace HO329 := am_ (Kd.R_elder' (rk_ HO329) (Kd.R_base ho0) hb); replace BK325 := bb_ BK325 hb; replace BK326 := bb_ BK326 hb; replace HB := hs_ w hb; (try clear hb); (try clear ho0); obtain ⟨Ao36, co36, eo36⟩ := Kd.R_slice HO334.out; subst eo36; obtain ⟨hcz37_0, hcz37_1, hcz37_2, hcz37_3, hcz37_4, hfz37_0, hfz37_1, hfz37_2, hfz37_3, hfz37_4⟩ := cellsF5 BK326.out))
  refine bodyPost_ret (results_cell_row rfl _ _ gb326 66 #[.string (⟨#[]⟩ : ByteArray), .slice none 0 0, .int .i64 0, .int .i64 0, .int .i64 4] (0, 0) _ rfl (bq_ BK326) Try.underlying66 rfl (by kernel_rfl)) rfl ?_
  exact ⟨_, au4_0, au4_1, bl_⟩
 have c25b1 : decide (t332.length < 2) = false := n2_ c25b0
 replace H := itn_ H; rcases H with ⟨c38b0, H⟩
 have c38b1 : decide (0 < t332.length) = true := n2_ c38b0
 replace H := bi_ H; rcases H with ⟨t336, A39, H⟩
 replace H := itn_ H; rcases H with ⟨c40b0, H⟩
 have c40b1 : decide (0 < t336.length) = true := n2_ c40b0
 replace H := bi_ H; rcases H with ⟨t341, A41, H⟩
 replace H := ib_ H; rcases H with ⟨rfl, H⟩ | ⟨rfl, H⟩
 rotate_left
 ·simp only [Option.some.injEq, Prod.mk.injEq] at H
  obtain ⟨rfl, rfl, rfl, rfl, rfl⟩ := H
  go_enter Try.func41, Try.ntmps41
  try go_wp2_with (first | ((with_reducible refine gate_dst (N := 2) rfl ?_); (try (refine gate_guard (by rfl) ?_; dsimp only)); refine be_ 2 #[.int .i64 a0_0, .int .i64 a0_1, .int .i64 a0_2, .int .i64 a0_3] 23 ?_; intro gb325 hg w137 hbox hb; have BK325 := am_ (hbox); have GW325 := am_ (gw_ hg bl_); have GE325 := GW325; replace HB := hs_ w hb; clear hb hbox hg) | ((with_reducible refine gate_dst (N := 4) rfl ?_); (try (refine gate_guard (by rfl) ?_; dsimp only)); refine be_ 4 #[.string (⟨#[]⟩ : ByteArray), .slice none 0 0, .int .i64 0, .int .i64 0, .int .i64 0] 66 ?_; intro gb326 hg w138 hbox hb; have BK326 := am_ (hbox); have GW326 := am_ (gw_ hg bl_); have GE326 := GW326; replace HB := hs_ w hb; have NB325_326 := am_ (gn_ hg (blkl_ BK325)); have NB326_325 := am_ (gm_ hg (blkl_ BK325)); replace BK325 := bb_ BK325 hb; clear hb hbox hg) | ((with_reducible refine gate_dst (N := 15) rfl ?_); (try (refine gate_guard (by rfl) ?_; dsimp only)); refine Kd.R_lit Kd.string _ 9 ?hg (N := 15) ?hd (xs := ([a1] : List ByteArray)) (inner := [.string a1]) (ok := fun _ => True) (okp := fun _ => True) ?hr ?hp (fun _ hk => hk) trivial (Below.refl _ _) (Nat.le_refl _) (by simp) ?_; (case hd => rfl); (case hg => rfl); (case hr => exact hr_); (case hp => exact au4_9); intro v328 w139 ho140 hb hg_ hnew_; clear hg_ hnew_; (first | rw [← Ny327.out] at ho140 | (simp only [Int.reduceToNat] at ho140; rw [← Ny327.out] at ho140)); have HO329 := am_ (Kd.R_lower ho140 (below_size bl_)); replace BK325 := bb_ BK325 hb; replace BK326 := bb_ BK326 hb; replace HB := hs_ w hb; clear hb ho140; obtain ⟨Ao141, co141, eo141⟩ := Kd.R_slice HO329.out; subst eo141) | (go_at_call 58; (with_reducible refine (F58.calls k _ _ y327 false _ ?s1 ?s2 A3.out).mono ?_); (case s1 => exact au4_5); (case s2 => exact au4_28); rintro e w' ⟨rfl, ⟨nd, rfl⟩⟩; (try clear A3); (try (rw [drewN_self w139]; generalize hq_ : World.drewN w139 _ = w139; have n0_ : Aside0 (Kd.R Kd.string 9 w139 w.heap.size (fun _ => True) (.slice Ao141 y327.length co141) y327) := ⟨by rw [← hq_]; exact (rk_ HO329)⟩; have n1_ : Aside0 (w139.heap[gb325]? = some (.cells #[.int .i64 a0_0, .int .i64 a0_1, .int .i64 a0_2, .int .i64 a0_3] 23 (0, 0))) := ⟨by rw [← hq_]; exact (bk_ BK325)⟩; have n2_ : Aside0 (w139.heap[gb326]? = some (.cells #[.string (⟨#[]⟩ : ByteArray), .slice none 0 0, .int .i64 0, .int .i64 0, .int .i64 0] 66 (0, 0))) := ⟨by rw [← hq_]; exact (bk_ BK326)⟩; have n3_ : Aside0 (Below w.heap.size w w139) := ⟨by rw [← hq_]; exact bl_⟩; clear HO329 BK325 BK326 HB hq_; have HO329 := n0_; have BK325 := n1_; have BK326 := n2_; have HB := n3_; clear n0_ n1_ n2_ n3_)); have hnb142 := NB325_326.out; have hnc142 := NB326_325.out; obtain ⟨hcz143_0, hcz143_1, hcz143_2, hcz143_3, hfz143_0, hfz143_1, hfz143_2, hfz143_3⟩ := cellsF4 BK325.out) | (go_at_call 60; (with_reducible refine (F60.calls k a0_0 a0_1 a0_2 a0_3 true _ A12.out).mono ?_); rintro e w144 ⟨rfl, hb⟩; (try clear A12); replace HO329 := am_ (Kd.R_below (rk_ HO329) hb); replace BK325 := bb_ BK325 hb; replace BK326 := bb_ BK326 hb; replace HB := hs_ w hb; (try clear hb); obtain ⟨hcz145_0, hcz145_1, hcz145_2, hcz145_3, hfz145_0, hfz145_1, hfz145_2, hfz145_3⟩ := cellsF4 BK325.out) | (go_at_call 69; (with_reducible refine (F69.calls k a0_0 a0_1 a0_2 a0_3 a1 a0_0 t332 _ A24.out).mono ?_); rintro e w146 ⟨v333, rfl, ho0, hb⟩; (try clear A24); have HO334 := am_ (Kd.R_lower (Kd.R_new' ho0 (Kd.R_lt (rk_ HO329))) (below_size bl_)); replace HO329 := am_ (Kd.R_elder' (rk_ HO329) (Kd.R_base ho0) hb); replace BK325 := bb_ BK325 hb; replace BK326 := bb_ BK326 hb; replace HB := hs_ w hb; (try clear hb); (try clear ho0); obtain ⟨Ao147, co147, eo147⟩ := Kd.R_slice HO334.out; subst eo147))
  replace HO329 := am_ (Kd.R_drew HO329.out)
  replace HO334 := am_ (Kd.R_drew HO334.out)
  replace BK325 := bd_ BK325
  replace BK326 := bd_ BK326
  replace HB := am_ (below_drew1 HB.out)
  have p335 : 0 ≤ (0 : Int) := (by omega)
  have q335 : 0 < (t332.length : Int) := od_
  obtain ⟨ad335, e335, hx335_0⟩ := Kd.at_string (Kd.R_reads' HO334.out).2.2 0 p335 q335
  cases e335
  have qi335 : (0 < t332.length) = True := eq_true (by omega)
  (try rw [show ((0 : Int)).toNat = 0 from rfl] at hx335_0)
  (try rw [Addr.add_zero'] at hx335_0)
  replace p335 := eq_true p335
  replace q335 := eq_true q335
  refine start_ (n := 8) (S := fun w' => w'.cell? ⟨gb325, 0, none⟩ = some (.int .i64 a0_0) ∧ w'.cell? ⟨gb325, 1, none⟩ = some (.int .i64 a0_1) ∧ w'.cell? ⟨gb325, 2, none⟩ = some (.int .i64 a0_2) ∧ w'.cell? ⟨gb325, 3, none⟩ = some (.int .i64 a0_3) ∧ w'.cell? ad335 = some (.string (rdOf ByteArray.empty t332 0))) (ds := []) (bs 8 0) (by kernel_rfl) rfl rfl ⟨(blk_cell BK325.out 0).trans rfl, (blk_cell BK325.out 1).trans rfl, (blk_cell BK325.out 2).trans rfl, (blk_cell BK325.out 3).trans rfl, hx335_0⟩ (fun hHeld => ?_); refine with_tabW F41.tab10 F41.bits10 (fun HT_ HW_ => ?_)
  generalize w146.drew = w148 at HO329 HO334 BK325 BK326 HB hx335_0 hHeld ⊢
  refine pu_ 1 37 (bs 8 2) HT_ ?_ rfl rfl
  refine pu_ 2 38 (bs 8 6) HT_ ?_ rfl rfl
  refine pu_ 4 40 (bs 8 22) HT_ ?_ rfl rfl
  refine tk_ 0 36 (bs 8 23) HT_ HW_ hHeld au4_14 ?_ rfl rfl
  refine tk_ 3 39 (bs 8 31) HT_ HW_ hHeld au4_14 ?_ rfl rfl
  refine tk_ 5 41 (bs 8 63) HT_ HW_ hHeld au4_14 ?_ rfl rfl
  refine one_ (i := 6) (N := some 42) (bs 8 127) rfl rfl (one_of HT_.out (by kernel_rfl)) (by decide) (fun K hK => ?_)
  refine gr_ Try.func69 #[.agg #[.int .i64 a0_0, .int .i64 a0_1, .int .i64 a0_2, .int .i64 a0_3], .string (rdOf ByteArray.empty t332 0), .int .i64 a0_1] (by rfl) ?_ rfl rfl rfl
  with_reducible refine (F69.calls k a0_0 a0_1 a0_2 a0_3 (rdOf ByteArray.empty t332 0) a0_1 t336 _ A39.out).mono ?_
  rintro e w149 ⟨v337, rfl, ho0, hb⟩
  have HS4_ := (hb.cell (World.block_lt_of_cell? _ _ (hHeld.2.2.2.2))).trans (hHeld.2.2.2.2)
  refine ⟨_, rfl, ?_⟩
  have HO338 := am_ (Kd.R_lower (Kd.R_new' (Kd.R_new' ho0 (Kd.R_lt (rk_ HO329))) (Kd.R_lt (rk_ HO334))) (below_size bl_))
  replace HO329 := am_ (Kd.R_elder' (rk_ HO329) (Kd.R_base ho0) hb)
  replace HO334 := am_ (Kd.R_elder' (rk_ HO334) (Kd.R_base ho0) hb)
  replace BK325 := bb_ BK325 hb
  replace BK326 := bb_ BK326 hb
  replace HB := hs_ w hb
  (try clear hb)
  (try clear hb2)
  (try clear hk)
  (try clear hi)
  (try clear ho0)
  refine hK.out _ _ ⟨(blk_cell BK325.out 0).trans rfl, (blk_cell BK325.out 1).trans rfl, (blk_cell BK325.out 2).trans rfl, (blk_cell BK325.out 3).trans rfl, HS4_⟩ (fun hHeld => ?_)
  clear hK K
  refine no_ 42 ?_
  refine pu_ 7 6 (bs 8 255) HT_ ?_ rfl rfl
  refine done_ (done_of HT_.out (by kernel_rfl)) ?_
  obtain ⟨Ao150, co150, eo150⟩ := Kd.R_slice HO338.out
  subst eo150
  have p339 : 0 ≤ (0 : Int) := (by omega)
  have q339 : 0 < (t336.length : Int) := od_
  obtain ⟨ad339, e339, hx339_0⟩ := Kd.at_string (Kd.R_reads' HO338.out).2.2 0 p339 q339
  cases e339
  have qi339 : (0 < t336.length) = True := eq_true (by omega)
  (try rw [show ((0 : Int)).toNat = 0 from rfl] at hx339_0)
  (try rw [Addr.add_zero'] at hx339_0)
  replace p339 := eq_true p339
  replace q339 := eq_true q339
  try go_wp2_with (first | ((with_reducible refine gate_dst (N := 7) rfl ?_); (try (refine gate_guard (by rfl) ?_; dsimp only)); refine be_ 7 #[.string (⟨#[]⟩ : ByteArray), .slice none 0 0] 59 ?_; intro gb340 hg w151 hbox hb; replace HO329 := am_ (Kd.R_below (rk_ HO329) hb); replace HO334 := am_ (Kd.R_below (rk_ HO334) hb); replace HO338 := am_ (Kd.R_below (rk_ HO338) hb); have BK340 := am_ (hbox); have GW340 := am_ (gw_ hg bl_); have GE340 := GW340; replace HB := hs_ w hb; have NB325_340 := am_ (gn_ hg (blkl_ BK325)); have NB340_325 := am_ (gm_ hg (blkl_ BK325)); replace BK325 := bb_ BK325 hb; have NB326_340 := am_ (gn_ hg (blkl_ BK326)); have NB340_326 := am_ (gm_ hg (blkl_ BK326)); replace BK326 := bb_ BK326 hb; clear hb hbox hg; have hnb152 := NB340_325.out; have hnc152 := NB325_340.out; have hnb153 := NB340_326.out; have hnc153 := NB326_340.out; obtain ⟨hcz154_0, hcz154_1, hfz154_0, hfz154_1⟩ := cellsF2 BK340.out) | (go_at_call 83; (with_reducible refine (F83.calls (rdOf ByteArray.empty t336 0) false _ A41.out).mono ?_); rintro e w' ⟨rfl, ⟨nd, rfl⟩⟩; (try clear A41); obtain ⟨hcz155_0, hcz155_1, hcz155_2, hcz155_3, hcz155_4, hfz155_0, hfz155_1, hfz155_2, hfz155_3, hfz155_4⟩ := cellsF5 BK326.out))
  refine bodyPost_ret (results_cell_row rfl _ _ gb326 66 #[.string (⟨#[]⟩ : ByteArray), .slice none 0 0, .int .i64 0, .int .i64 0, .int .i64 3] (0, 0) _ rfl (bq_ BK326) Try.underlying66 rfl (by kernel_rfl)) rfl ?_
  exact ⟨_, au4_0, au4_1, bl_⟩
 by_cases c43 : 1 ≤ (t336.length : Int)
 rotate_left
 ·rw [if_neg c43] at H
  exact absurd H (by simp)
 rw [if_pos c43] at H
 have c43b0 := eq_true c43
 have c43b1 : decide (1 ≤ (t336.length : Int)) = true := decide_eq_true c43
 clear c43
 obtain ⟨y342, hy342⟩ : ∃ y_ : List ByteArray, y_ = (t336.drop 1) := ⟨_, rfl⟩
 replace H : (F41.l0 k t332 t336 (wrap64 (((rdOf ByteArray.empty t336 0).size : Int) + 1)) y342 (y342.length : Int) 0 a0_0 a0_1 a0_2 a0_3 (rdOf ByteArray.empty t336 0) ([] : List (S102))) = some (r1, r2, r3, r4, r5) := by first | (rw [hy342]; exact H) | exact H
 have Ny342 := am_ hy342
 clear hy342
 have H' := am_ H
 clear H
 go_enter Try.func41, Try.ntmps41
 try go_wp2_with (first | ((with_reducible refine gate_dst (N := 2) rfl ?_); (try (refine gate_guard (by rfl) ?_; dsimp only)); refine be_ 2 #[.int .i64 a0_0, .int .i64 a0_1, .int .i64 a0_2, .int .i64 a0_3] 23 ?_; intro gb325 hg w44 hbox hb; have BK325 := am_ (hbox); have GW325 := am_ (gw_ hg bl_); have GE325 := GW325; replace HB := hs_ w hb; clear hb hbox hg) | ((with_reducible refine gate_dst (N := 4) rfl ?_); (try (refine gate_guard (by rfl) ?_; dsimp only)); refine be_ 4 #[.string (⟨#[]⟩ : ByteArray), .slice none 0 0, .int .i64 0, .int .i64 0, .int .i64 0] 66 ?_; intro gb326 hg w45 hbox hb; have BK326 := am_ (hbox); have GW326 := am_ (gw_ hg bl_); have GE326 := GW326; replace HB := hs_ w hb; have NB325_326 := am_ (gn_ hg (blkl_ BK325)); have NB326_325 := am_ (gm_ hg (blkl_ BK325)); replace BK325 := bb_ BK325 hb; clear hb hbox hg) | ((with_reducible refine gate_dst (N := 15) rfl ?_); (try (refine gate_guard (by rfl) ?_; dsimp only)); refine Kd.R_lit Kd.string _ 9 ?hg (N := 15) ?hd (xs := ([a1] : List ByteArray)) (inner := [.string a1]) (ok := fun _ => True) (okp := fun _ => True) ?hr ?hp (fun _ hk => hk) trivial (Below.refl _ _) (Nat.le_refl _) (by simp) ?_; (case hd => rfl); (case hg => rfl); (case hr => exact hr_); (case hp => exact au4_9); intro v328 w46 ho47 hb hg_ hnew_; clear hg_ hnew_; (first | rw [← Ny327.out] at ho47 | (simp only [Int.reduceToNat] at ho47; rw [← Ny327.out] at ho47)); have HO329 := am_ (Kd.R_lower ho47 (below_size bl_)); replace BK325 := bb_ BK325 hb; replace BK326 := bb_ BK326 hb; replace HB := hs_ w hb; clear hb ho47; obtain ⟨Ao48, co48, eo48⟩ := Kd.R_slice HO329.out; subst eo48) | (go_at_call 58; (with_reducible refine (F58.calls k _ _ y327 false _ ?s1 ?s2 A3.out).mono ?_); (case s1 => exact au4_5); (case s2 => exact au4_28); rintro e w' ⟨rfl, ⟨nd, rfl⟩⟩; (try clear A3); (try (rw [drewN_self w46]; generalize hq_ : World.drewN w46 _ = w46; have n0_ : Aside0 (Kd.R Kd.string 9 w46 w.heap.size (fun _ => True) (.slice Ao48 y327.length co48) y327) := ⟨by rw [← hq_]; exact (rk_ HO329)⟩; have n1_ : Aside0 (w46.heap[gb325]? = some (.cells #[.int .i64 a0_0, .int .i64 a0_1, .int .i64 a0_2, .int .i64 a0_3] 23 (0, 0))) := ⟨by rw [← hq_]; exact (bk_ BK325)⟩; have n2_ : Aside0 (w46.heap[gb326]? = some (.cells #[.string (⟨#[]⟩ : ByteArray), .slice none 0 0, .int .i64 0, .int .i64 0, .int .i64 0] 66 (0, 0))) := ⟨by rw [← hq_]; exact (bk_ BK326)⟩; have n3_ : Aside0 (Below w.heap.size w w46) := ⟨by rw [← hq_]; exact bl_⟩; clear HO329 BK325 BK326 HB hq_; have HO329 := n0_; have BK325 := n1_; have BK326 := n2_; have HB := n3_; clear n0_ n1_ n2_ n3_)); have hnb49 := NB325_326.out; have hnc49 := NB326_325.out; obtain ⟨hcz50_0, hcz50_1, hcz50_2, hcz50_3, hfz50_0, hfz50_1, hfz50_2, hfz50_3⟩ := cellsF4 BK325.out) | (go_at_call 60; (with_reducible refine (F60.calls k a0_0 a0_1 a0_2 a0_3 true _ A12.out).mono ?_); rintro e w51 ⟨rfl, hb⟩; (try clear A12); replace HO329 := am_ (Kd.R_below (rk_ HO329) hb); replace BK325 := bb_ BK325 hb; replace BK326 := bb_ BK326 hb; replace HB := hs_ w hb; (try clear hb); obtain ⟨hcz52_0, hcz52_1, hcz52_2, hcz52_3, hfz52_0, hfz52_1, hfz52_2, hfz52_3⟩ := cellsF4 BK325.out) | (go_at_call 69; (with_reducible refine (F69.calls k a0_0 a0_1 a0_2 a0_3 a1 a0_0 t332 _ A24.out).mono ?_); rintro e w53 ⟨v333, rfl, ho0, hb⟩; (try clear A24); have HO334 := am_ (Kd.R_lower (Kd.R_new' ho0 (Kd.R_lt (rk_ HO329))) (below_size bl_)); replace HO329 := am_ (Kd.R_elder' (rk_ HO329) (Kd.R_base ho0) hb); replace BK325 := bb_ BK325 hb; replace BK326 := bb_ BK326 hb; replace HB := hs_ w hb; (try clear hb); (try clear ho0); obtain ⟨Ao54, co54, eo54⟩ := Kd.R_slice HO334.out; subst eo54))
 replace HO329 := am_ (Kd.R_drew HO329.out)
 replace HO334 := am_ (Kd.R_drew HO334.out)
 replace BK325 := bd_ BK325
 replace BK326 := bd_ BK326
 replace HB := am_ (below_drew1 HB.out)
 have p335 : 0 ≤ (0 : Int) := (by omega)
 have q335 : 0 < (t332.length : Int) := od_
 obtain ⟨ad335, e335, hx335_0⟩ := Kd.at_string (Kd.R_reads' HO334.out).2.2 0 p335 q335
 cases e335
 have qi335 : (0 < t332.length) = True := eq_true (by omega)
 (try rw [show ((0 : Int)).toNat = 0 from rfl] at hx335_0)
 (try rw [Addr.add_zero'] at hx335_0)
 replace p335 := eq_true p335
 replace q335 := eq_true q335
 refine start_ (n := 8) (S := fun w' => w'.cell? ⟨gb325, 0, none⟩ = some (.int .i64 a0_0) ∧ w'.cell? ⟨gb325, 1, none⟩ = some (.int .i64 a0_1) ∧ w'.cell? ⟨gb325, 2, none⟩ = some (.int .i64 a0_2) ∧ w'.cell? ⟨gb325, 3, none⟩ = some (.int .i64 a0_3) ∧ w'.cell? ad335 = some (.string (rdOf ByteArray.empty t332 0))) (ds := []) (bs 8 0) (by kernel_rfl) rfl rfl ⟨(blk_cell BK325.out 0).trans rfl, (blk_cell BK325.out 1).trans rfl, (blk_cell BK325.out 2).trans rfl, (blk_cell BK325.out 3).trans rfl, hx335_0⟩ (fun hHeld => ?_); refine with_tabW F41.tab10 F41.bits10 (fun HT_ HW_ => ?_)
 generalize w53.drew = w55 at HO329 HO334 BK325 BK326 HB hx335_0 hHeld ⊢
 refine pu_ 1 37 (bs 8 2) HT_ ?_ rfl rfl
 refine pu_ 2 38 (bs 8 6) HT_ ?_ rfl rfl
 refine pu_ 4 40 (bs 8 22) HT_ ?_ rfl rfl
 refine tk_ 0 36 (bs 8 23) HT_ HW_ hHeld au4_14 ?_ rfl rfl
 refine tk_ 3 39 (bs 8 31) HT_ HW_ hHeld au4_14 ?_ rfl rfl
 refine tk_ 5 41 (bs 8 63) HT_ HW_ hHeld au4_14 ?_ rfl rfl
 refine one_ (i := 6) (N := some 42) (bs 8 127) rfl rfl (one_of HT_.out (by kernel_rfl)) (by decide) (fun K hK => ?_)
 refine gr_ Try.func69 #[.agg #[.int .i64 a0_0, .int .i64 a0_1, .int .i64 a0_2, .int .i64 a0_3], .string (rdOf ByteArray.empty t332 0), .int .i64 a0_1] (by rfl) ?_ rfl rfl rfl
 with_reducible refine (F69.calls k a0_0 a0_1 a0_2 a0_3 (rdOf ByteArray.empty t332 0) a0_1 t336 _ A39.out).mono ?_
 rintro e w56 ⟨v337, rfl, ho0, hb⟩
 have HS4_ := (hb.cell (World.block_lt_of_cell? _ _ (hHeld.2.2.2.2))).trans (hHeld.2.2.2.2)
 refine ⟨_, rfl, ?_⟩
 have HO338 := am_ (Kd.R_lower (Kd.R_new' (Kd.R_new' ho0 (Kd.R_lt (rk_ HO329))) (Kd.R_lt (rk_ HO334))) (below_size bl_))
 replace HO329 := am_ (Kd.R_elder' (rk_ HO329) (Kd.R_base ho0) hb)
 replace HO334 := am_ (Kd.R_elder' (rk_ HO334) (Kd.R_base ho0) hb)
 replace BK325 := bb_ BK325 hb
 replace BK326 := bb_ BK326 hb
 replace HB := hs_ w hb
 (try clear hb)
 (try clear hb2)
 (try clear hk)
 (try clear hi)
 (try clear ho0)
 refine hK.out _ _ ⟨(blk_cell BK325.out 0).trans rfl, (blk_cell BK325.out 1).trans rfl, (blk_cell BK325.out 2).trans rfl, (blk_cell BK325.out 3).trans rfl, HS4_⟩ (fun hHeld => ?_)
 clear hK K
 refine no_ 42 ?_
 refine pu_ 7 6 (bs 8 255) HT_ ?_ rfl rfl
 refine done_ (done_of HT_.out (by kernel_rfl)) ?_
 obtain ⟨Ao57, co57, eo57⟩ := Kd.R_slice HO338.out
 subst eo57
 have p339 : 0 ≤ (0 : Int) := (by omega)
 have q339 : 0 < (t336.length : Int) := od_
 obtain ⟨ad339, e339, hx339_0⟩ := Kd.at_string (Kd.R_reads' HO338.out).2.2 0 p339 q339
 cases e339
 have qi339 : (0 < t336.length) = True := eq_true (by omega)
 (try rw [show ((0 : Int)).toNat = 0 from rfl] at hx339_0)
 (try rw [Addr.add_zero'] at hx339_0)
 replace p339 := eq_true p339
 replace q339 := eq_true q339
 try go_wp2_with (first | ((with_reducible refine gate_dst (N := 7) rfl ?_); (try (refine gate_guard (by rfl) ?_; dsimp only)); refine be_ 7 #[.string (⟨#[]⟩ : ByteArray), .slice none 0 0] 59 ?_; intro gb340 hg w58 hbox hb; replace HO329 := am_ (Kd.R_below (rk_ HO329) hb); replace HO334 := am_ (Kd.R_below (rk_ HO334) hb); replace HO338 := am_ (Kd.R_below (rk_ HO338) hb); have BK340 := am_ (hbox); have GW340 := am_ (gw_ hg bl_); have GE340 := GW340; replace HB := hs_ w hb; have NB325_340 := am_ (gn_ hg (blkl_ BK325)); have NB340_325 := am_ (gm_ hg (blkl_ BK325)); replace BK325 := bb_ BK325 hb; have NB326_340 := am_ (gn_ hg (blkl_ BK326)); have NB340_326 := am_ (gm_ hg (blkl_ BK326)); replace BK326 := bb_ BK326 hb; clear hb hbox hg; have hnb59 := NB340_325.out; have hnc59 := NB325_340.out; have hnb60 := NB340_326.out; have hnc60 := NB326_340.out; obtain ⟨hcz61_0, hcz61_1, hfz61_0, hfz61_1⟩ := cellsF2 BK340.out) | ((with_reducible refine gate_store (t := 59) (p := 7) rfl ?_); refine store_event (t := 59) (p := 7) (v := ?vo_w62) (w1 := ((w58.setCell ⟨gb340, 0, none⟩ (.string (rdOf ByteArray.empty t336 0))).setCell ⟨gb340, 1, none⟩ (.slice none 0 0))) ?hg ?ho ?hn ?hr ?_; (case ho => rfl); (case hg => rfl); (case hn => rfl); (case hr => exact hr_); intro w62 hw; have n0_ : Aside0 (Kd.R Kd.string 9 w62 w.heap.size (fun k_ => some k_ ≠ (.slice (some ad335) t332.length co54 : Value).ownBlock ∧ some k_ ≠ (.slice (some ad339) t336.length co57 : Value).ownBlock) (.slice Ao48 y327.length co48) y327) := ⟨(by rw [hw]; exact (by (with_reducible repeat (first | apply Kd.R_alloc | apply Kd.R_drewN | apply Kd.R_drew)); exact Kd.R_mono (Kd.R_far (p := ⟨gb340, 1, none⟩) (Kd.R_far (p := ⟨gb340, 0, none⟩) (Kd.R_types HO329.out BK340.out (by decide)) (fun _ hk => hk.2) (.string (rdOf ByteArray.empty t336 0))) (fun _ hk => hk.2) (.slice none 0 0)) (fun _ hk => ⟨hk.1.1.2, hk.1.2⟩)))⟩; have n1_ : Aside0 (Kd.R Kd.string 9 w62 w.heap.size (fun k_ => some k_ ≠ (.slice Ao48 y327.length co48 : Value).ownBlock ∧ some k_ ≠ (.slice (some ad339) t336.length co57 : Value).ownBlock) (.slice (some ad335) t332.length co54) t332) := ⟨(by rw [hw]; exact (by (with_reducible repeat (first | apply Kd.R_alloc | apply Kd.R_drewN | apply Kd.R_drew)); exact Kd.R_mono (Kd.R_far (p := ⟨gb340, 1, none⟩) (Kd.R_far (p := ⟨gb340, 0, none⟩) (Kd.R_types HO334.out BK340.out (by decide)) (fun _ hk => hk.2) (.string (rdOf ByteArray.empty t336 0))) (fun _ hk => hk.2) (.slice none 0 0)) (fun _ hk => ⟨hk.1.1.2, hk.1.2⟩)))⟩; have n2_ : Aside0 (Kd.R Kd.string 9 w62 w.heap.size (fun k_ => some k_ ≠ (.slice Ao48 y327.length co48 : Value).ownBlock ∧ some k_ ≠ (.slice (some ad335) t332.length co54 : Value).ownBlock) (.slice (some ad339) t336.length co57) t336) := ⟨(by rw [hw]; exact (by (with_reducible repeat (first | apply Kd.R_alloc | apply Kd.R_drewN | apply Kd.R_drew)); exact Kd.R_mono (Kd.R_far (p := ⟨gb340, 1, none⟩) (Kd.R_far (p := ⟨gb340, 0, none⟩) (Kd.R_types HO338.out BK340.out (by decide)) (fun _ hk => hk.2) (.string (rdOf ByteArray.empty t336 0))) (fun _ hk => hk.2) (.slice none 0 0)) (fun _ hk => ⟨hk.1.1.2, hk.1.2⟩)))⟩; have n3_ : Aside0 (w62.heap[gb325]? = some (.cells #[.int .i64 a0_0, .int .i64 a0_1, .int .i64 a0_2, .int .i64 a0_3] 23 (0, 0))) := ⟨(by rw [hw]; exact (bf_ BK325))⟩; have n4_ : Aside0 (w62.heap[gb326]? = some (.cells #[.string (⟨#[]⟩ : ByteArray), .slice none 0 0, .int .i64 0, .int .i64 0, .int .i64 0] 66 (0, 0))) := ⟨(by rw [hw]; exact (bf_ BK326))⟩; have n5_ : Aside0 (w62.heap[gb340]? = some (.cells #[.string (rdOf ByteArray.empty t336 0), .slice none 0 0] 59 (0, 0))) := ⟨(by rw [hw]; exact (bq_ BK340))⟩; have n6_ : Aside0 (Below w.heap.size w w62) := ⟨(by rw [hw]; exact bl_)⟩; clear hw; clear HO329; clear HO334; clear HO338; clear BK325; clear BK326; clear BK340; clear HB; have HO329 := n0_; have HO334 := n1_; have HO338 := n2_; have BK325 := n3_; have BK326 := n4_; have BK340 := n5_; have HB := n6_; clear n0_ n1_ n2_ n3_ n4_ n5_ n6_; obtain ⟨hcz63_0, hcz63_1, hfz63_0, hfz63_1⟩ := cellsF2 BK340.out) | (go_at_call 83; (with_reducible refine (F83.calls (rdOf ByteArray.empty t336 0) true _ A41.out).mono ?_); rintro e w' ⟨rfl, ⟨nd, rfl⟩⟩; (try clear A41); have q64 : (1 : Int) ≤ ((t336.length : Int) : Int) := od_; obtain ⟨i064, hi064, _, hsz64, _⟩ := info_parts info9; have hroom64 : t336.length ≤ co57 := (Kd.R_reads' HO338.out).2.1; have hC64 : Kd.C Kd.string _ (some ad339) t336.length t336 := (Kd.R_reads' HO338.out).2.2; have hcut64 := cut_from (P := Try.prog) 41 9 .i64 Try.underlying41 hi064 1 hsz64 (some ad339) t336.length co57 1 (by omega) q64; have hr64 := Kd.C_drop (m := (1 : Int).toNat) (c := co57) hC64 (by omega) hroom64; obtain ⟨A64, hA64⟩ : ∃ A1, A1 = (if co57 = (1 : Int).toNat then (some ad339) else ((some ad339) : Option Addr).map (·.add ((1 : Int).toNat * 1))) := ⟨_, rfl⟩; obtain ⟨c64, hc64⟩ : ∃ c1, c1 = co57 - (1 : Int).toNat := ⟨_, rfl⟩; have hy64 : y342.length = t336.length - (1 : Int).toNat := (by rw [Ny342.out, List.length_drop] <;> omega); rw [show (t336).drop (1 : Int).toNat = y342 from Ny342.out.symm] at hr64; replace hr64 : Kd.C Kd.string _ A64 y342.length y342 := (by rw [hA64]; exact hr64); rw [← hy64, ← hA64, ← hc64] at hcut64; have HR345 := am_ hr64; have HC345 := am_ (show y342.length ≤ c64 from by rw [hy64, hc64]; exact Nat.sub_le_sub_right hroom64 _); clear hr64 hC64 hroom64 hi064 hsz64 hc64; have KY64 := am_ hy64; have KA64 := am_ hA64; clear hy64 hA64; have KL64 := am_ (show 1 ≤ t336.length from by omega); replace q64 := eq_true q64))
 go_loopg [8, 59] k (fun kq v8 v59 w' => ∃ (x8_1 : Int) (x59_1 : Int) (x327000_1 : ByteArray) (x327002_1 : Int) (x327003_1 : Int) (x327004_1 : Int) (x341001_1 : List (S102)) (u341001 : Value), v8 = .int .i64 x8_1 ∧ v59 = .int .i64 x59_1 ∧ Aside0 (F41.l0 kq t332 t336 x8_1 y342 (y342.length : Int) x59_1 a0_0 a0_1 a0_2 a0_3 (rdOf ByteArray.empty t336 0) x341001_1 = some (r1, r2, r3, r4, r5)) ∧ Aside0 (kq ≤ k) ∧ Aside0 (Kd.R Kd.string 9 w' w.heap.size (fun k_ => some k_ ≠ ((.slice (some ad339) t336.length co57) : Value).ownBlock) (.slice (some ad335) t332.length co54) t332) ∧ Aside0 (Kd.R Kd.string 9 w' w.heap.size (fun k_ => some k_ ≠ ((.slice (some ad335) t332.length co54) : Value).ownBlock) (.slice (some ad339) t336.length co57) t336) ∧ Aside0 (Kd.S k102 102 w' w.heap.size (fun k_ => some k_ ≠ ((.slice (some ad335) t332.length co54) : Value).ownBlock ∧ some k_ ≠ ((.slice (some ad339) t336.length co57) : Value).ownBlock) u341001 x341001_1) ∧ Aside0 (w'.heap[gb325]? = some (.cells #[.int .i64 a0_0, .int .i64 a0_1, .int .i64 a0_2, .int .i64 a0_3] 23 (0, 0))) ∧ Aside0 (w'.heap[gb326]? = some (.cells #[.string x327000_1, (.slice none 0 0), .int .i64 x327002_1, .int .i64 x327003_1, .int .i64 x327004_1] 66 (0, 0))) ∧ Aside0 (w'.heap[gb340]? = some (.cells #[.string (rdOf ByteArray.empty t336 0), u341001] 59 (0, 0))) ∧ Aside0 (Below w.heap.size w w'))
 case atStart => exact ⟨(wrap64 (((rdOf ByteArray.empty t336 0).size : Int) + 1)), (0), ((⟨#[]⟩ : ByteArray)), (0), (0), (0), (([] : List (S102))), (.slice none 0 0), er_, er_, H', ⟨Nat.le_refl _⟩, ⟨by (with_reducible repeat (first | apply Kd.R_alloc | apply Kd.R_drewN | apply Kd.R_drew)); exact Kd.R_mono HO334.out (fun _ hk => hk.2)⟩, ⟨by (with_reducible repeat (first | apply Kd.R_alloc | apply Kd.R_drewN | apply Kd.R_drew)); exact Kd.R_mono HO338.out (fun _ hk => hk.2)⟩, ⟨au4_1⟩, ⟨bk_ BK325⟩, ⟨bk_ BK326⟩, ⟨bk_ BK340⟩, ⟨bl_⟩⟩
 case round =>
  clear H'
  try clear c1
  try clear c14
  try clear c14b0
  try clear c14b1
  try clear c25b0
  try clear c25b1
  try clear c38b0
  try clear c38b1
  try clear c40b0
  try clear c40b1
  try clear c43
  try clear c43b0
  try clear c43b1
  try clear c64
  try clear q64
  try clear hcz11_0 hcz11_1 hcz11_2 hcz11_3 hcz11_4
  try clear hcz21_0 hcz21_1 hcz21_2 hcz21_3
  try clear hcz23_0 hcz23_1 hcz23_2 hcz23_3 hcz23_4
  try clear hcz32_0 hcz32_1 hcz32_2 hcz32_3
  try clear hcz34_0 hcz34_1 hcz34_2 hcz34_3
  try clear hcz37_0 hcz37_1 hcz37_2 hcz37_3 hcz37_4
  try clear hcz50_0 hcz50_1 hcz50_2 hcz50_3
  try clear hcz52_0 hcz52_1 hcz52_2 hcz52_3
  try clear hcz61_0 hcz61_1
  try clear hcz63_0 hcz63_1
  try clear hfz11_0 hfz11_1 hfz11_2 hfz11_3 hfz11_4
  try clear hfz21_0 hfz21_1 hfz21_2 hfz21_3
  try clear hfz23_0 hfz23_1 hfz23_2 hfz23_3 hfz23_4
  try clear hfz32_0 hfz32_1 hfz32_2 hfz32_3
  try clear hfz34_0 hfz34_1 hfz34_2 hfz34_3
  try clear hfz37_0 hfz37_1 hfz37_2 hfz37_3 hfz37_4
  try clear hfz50_0 hfz50_1 hfz50_2 hfz50_3
  try clear hfz52_0 hfz52_1 hfz52_2 hfz52_3
  try clear hfz61_0 hfz61_1
  try clear hfz63_0 hfz63_1
  try clear hx335_0
  try clear hx339_0
  try clear p335
  try clear p339
  try clear q335
  try clear q339
  try clear q64
  obtain ⟨x8_1, x59_1, x327000_1, x327002_1, x327003_1, x327004_1, x341001_1, u341001, rfl, rfl, HA, HK1, HO_5, HO_6, HO_341001, BK325, BK326, BK340, HB⟩ := hrel
  cases gk with
  | zero => exact absurd HA.out (by simp [F41.l0])
  | succ k1 =>
   have H := HA.out
   clear HA
   simp only [F41.l0] at H
   replace H := it_ H; rcases H with ⟨c65b0, H⟩ | ⟨c65b0, H⟩
   rotate_left
   ·replace H := itn_ H; rcases H with ⟨c129b0, H⟩
    have c129b1 : decide (0 < t332.length) = true := n2_ c129b0
    simp only [Option.some.injEq, Prod.mk.injEq] at H
    obtain ⟨rfl, rfl, rfl, rfl, rfl⟩ := H
    try go_wp2
    replace HO_5 := am_ (Kd.R_drew HO_5.out)
    replace HO_6 := am_ (Kd.R_drew HO_6.out)
    replace HO_341001 := am_ (Kd.S_drew HO_341001.out)
    replace BK325 := bd_ BK325
    replace BK326 := bd_ BK326
    replace BK340 := bd_ BK340
    replace HB := am_ (below_drew1 HB.out)
    have p346 : 0 ≤ (0 : Int) := (by omega)
    have q346 : 0 < (t332.length : Int) := od_
    obtain ⟨ad346, e346, hx346_0⟩ := Kd.at_string (Kd.R_reads' HO_5.out).2.2 0 p346 q346
    obtain rfl : ad335 = ad346 := (by injection e346)
    have qi346 : (0 < t332.length) = True := eq_true (by omega)
    (try rw [show ((0 : Int)).toNat = 0 from rfl] at hx346_0)
    (try rw [Addr.add_zero'] at hx346_0)
    replace p346 := eq_true p346
    replace q346 := eq_true q346
    obtain ⟨Ao131, co131, eo131⟩ := Kd.S_slice HO_341001.out
    (first | subst eo131 | (injection eo131 with f1_ f2_ f3_; have f4_ := f1_.symm; have f5_ := f3_.symm; clear f1_ f2_ f3_; subst f4_; subst f5_))
    refine start_ (n := 8) (S := fun w' => w'.cell? ⟨gb340, 0, none⟩ = some (.string (rdOf ByteArray.empty t336 0)) ∧ w'.cell? ⟨gb340, 1, none⟩ = some (.slice Ao131 x341001_1.length co131) ∧ w'.cell? ad335 = some (.string (rdOf ByteArray.empty t332 0))) (ds := []) (bs 8 0) (by kernel_rfl) rfl rfl ⟨(blk_cell BK340.out 0).trans rfl, (blk_cell BK340.out 1).trans rfl, hx346_0⟩ (fun hHeld => ?_); refine with_tabW F41.tab28 F41.bits28 (fun HT_ HW_ => ?_)
    generalize wr.drew = w130 at HO_5 HO_6 HO_341001 BK325 BK326 BK340 HB hx346_0 hHeld ⊢
    refine pu_ 1 115 (bs 8 2) HT_ ?_ rfl rfl
    refine pu_ 2 116 (bs 8 6) HT_ ?_ rfl rfl
    refine tk_ 0 114 (bs 8 7) HT_ HW_ hHeld (by rintro w' ⟨s0, s1, s2⟩; go_simp; with_reducible rfl) ?_ rfl rfl
    refine tk_ 3 117 (bs 8 15) HT_ HW_ hHeld (by rintro w' ⟨s0, s1, s2⟩; go_simp; with_reducible rfl) ?_ rfl rfl
    refine pu_ 4 118 (bs 8 31) HT_ ?_ rfl rfl
    refine pu_ 5 119 (bs 8 63) HT_ ?_ rfl rfl
    refine pu_ 6 120 (bs 8 127) HT_ ?_ rfl rfl
    refine one_ (i := 7) (N := none) (bs 8 255) rfl rfl (one_of HT_.out (by kernel_rfl)) (by decide) (fun K hK => ?_)
    have hs132 : w130.cell? ⟨gb326, 0, none⟩ = some (.string x327000_1) := (blk_cell BK326.out 0).trans rfl
    have hfs132 := blk_frozen BK326.out 0
    have hns132_0 := NB325_326.out
    have hns132_2 := NB340_326.out
    have hms132_0 := NB326_325.out
    have hms132_2 := NB326_340.out
    have hs133 : w130.cell? ⟨gb326, 1, none⟩ = some (.slice none 0 0) := (blk_cell BK326.out 1).trans rfl
    have hfs133 := blk_frozen BK326.out 1
    have hns133_0 := NB325_326.out
    have hns133_2 := NB340_326.out
    have hms133_0 := NB326_325.out
    have hms133_2 := NB326_340.out
    have hs134 : w130.cell? ⟨gb326, 2, none⟩ = some (.int .i64 x327002_1) := (blk_cell BK326.out 2).trans rfl
    have hfs134 := blk_frozen BK326.out 2
    have hns134_0 := NB325_326.out
    have hns134_2 := NB340_326.out
    have hms134_0 := NB326_325.out
    have hms134_2 := NB326_340.out
    have hs135 : w130.cell? ⟨gb326, 3, none⟩ = some (.int .i64 x327003_1) := (blk_cell BK326.out 3).trans rfl
    have hfs135 := blk_frozen BK326.out 3
    have hns135_0 := NB325_326.out
    have hns135_2 := NB340_326.out
    have hms135_0 := NB326_325.out
    have hms135_2 := NB326_340.out
    have hs136 : w130.cell? ⟨gb326, 4, none⟩ = some (.int .i64 x327004_1) := (blk_cell BK326.out 4).trans rfl
    have hfs136 := blk_frozen BK326.out 4
    have hns136_0 := NB325_326.out
    have hns136_2 := NB340_326.out
    have hms136_0 := NB326_325.out
    have hms136_2 := NB326_340.out
    refine skip_ (w1 := ?_) (by rfl) rfl ?_ ?_
    rotate_left
    ·go_simp
     rfl
    refine hK.out _ _ ⟨((cell_far (p := ⟨gb326, _, none⟩) NB340_326.out _).trans (((cell_far (p := ⟨gb326, _, none⟩) NB340_326.out _).trans (((cell_far (p := ⟨gb326, _, none⟩) NB340_326.out _).trans (((cell_far (p := ⟨gb326, _, none⟩) NB340_326.out _).trans (((cell_far (p := ⟨gb326, _, none⟩) NB340_326.out _).trans (hHeld.1)))))))))), ((cell_far (p := ⟨gb326, _, none⟩) NB340_326.out _).trans (((cell_far (p := ⟨gb326, _, none⟩) NB340_326.out _).trans (((cell_far (p := ⟨gb326, _, none⟩) NB340_326.out _).trans (((cell_far (p := ⟨gb326, _, none⟩) NB340_326.out _).trans (((cell_far (p := ⟨gb326, _, none⟩) NB340_326.out _).trans (hHeld.2.1)))))))))), ((cell_far (p := ⟨gb326, _, none⟩) au4_3 _).trans (((cell_far (p := ⟨gb326, _, none⟩) au4_3 _).trans (((cell_far (p := ⟨gb326, _, none⟩) au4_3 _).trans (((cell_far (p := ⟨gb326, _, none⟩) au4_3 _).trans (((cell_far (p := ⟨gb326, _, none⟩) au4_3 _).trans (hHeld.2.2))))))))))⟩ (fun hHeld => ?_)
    clear hK K
    refine done_ (done_of HT_.out (by kernel_rfl)) ?_
    try go_wp2
    refine bodyPost_ret (results_cell_row rfl _ _ gb326 66 #[.string (rdOf ByteArray.empty t336 0), .slice Ao131 x341001_1.length co131, .int .i64 (wrap64 (((rdOf ByteArray.empty t332 0).size : Int) + 1)), .int .i64 0, .int .i64 0] (0, 0) _ rfl (bq_ BK326) Try.underlying66 rfl (by kernel_rfl)) rfl ?_
    exact ⟨_, au4_0, by (with_reducible repeat (first | apply Kd.S_alloc | apply Kd.S_drewN | apply Kd.S_drew)); exact Kd.S_mono (Kd.S_far (p := ⟨gb326, 4, none⟩) (Kd.S_far (p := ⟨gb326, 3, none⟩) (Kd.S_far (p := ⟨gb326, 2, none⟩) (Kd.S_far (p := ⟨gb326, 1, none⟩) (Kd.S_far (p := ⟨gb326, 0, none⟩) (Kd.S_types HO_341001.out BK326.out (by decide)) (fun _ hk => hk.2) (.string (rdOf ByteArray.empty t336 0))) (fun _ hk => hk.2) (.slice Ao131 x341001_1.length co131)) (fun _ hk => hk.2) (.int .i64 (wrap64 (((rdOf ByteArray.empty t332 0).size : Int) + 1)))) (fun _ hk => hk.2) (.int .i64 0)) (fun _ hk => hk.2) (.int .i64 0)) (fun _ hk => trivial), bl_⟩
   replace H := itn_ H; rcases H with ⟨c66b0, H⟩
   replace H := itn_ H; rcases H with ⟨c67b0, H⟩
   replace HR345 := am_ (show Kd.C Kd.string wr A64 y342.length y342 from by rw [Ny342.out, KA64.out]; exact Kd.C_drop (m := 1) (c := co57) ((Kd.R_reads' HO_6.out).2.2) KL64.out ((Kd.R_reads' HO_6.out).2.1))
   by_cases c68 : x59_1 = 10
   ·rw [if_pos c68] at H
    have c68b0 : (x59_1 == 10) = true := beq_iff_eq.mpr c68
    have c68b1 : (x59_1 != 10) = false := bne_eq_false_iff_eq.mpr c68
    clear c68
    simp only [Option.some.injEq, Prod.mk.injEq] at H
    obtain ⟨rfl, rfl, rfl, rfl, rfl⟩ := H
    have p347 : 0 ≤ (x59_1 : Int) := od_
    have q347 : x59_1 < (y342.length : Int) := od_
    obtain ⟨ad347, e347, hx347_0⟩ := Kd.at_string HR345.out x59_1 p347 q347
    cases e347
    try replace hx347_0 := (HB.out.cell (World.block_lt_of_cell? _ _ hx347_0)).trans hx347_0
    replace p347 := eq_true p347
    replace q347 := eq_true q347
    have hnb69 := NB326_325.out
    have hnc69 := NB325_326.out
    have hnb70 := NB326_340.out
    have hnc70 := NB340_326.out
    obtain ⟨hcz71_0, hcz71_1, hcz71_2, hcz71_3, hcz71_4, hfz71_0, hfz71_1, hfz71_2, hfz71_3, hfz71_4⟩ := cellsF5 BK326.out
    go_wp2
    refine bodyPost_ret (results_cell_row rfl _ _ gb326 66 #[.string (⟨#[]⟩ : ByteArray), .slice none 0 0, .int .i64 0, .int .i64 x8_1, .int .i64 3] (0, 0) _ rfl (bq_ BK326) Try.underlying66 rfl (by kernel_rfl)) rfl ?_
    exact ⟨_, au4_0, au4_1, bl_⟩
   rw [if_neg c68] at H
   have c68b0 : (x59_1 == 10) = false := beq_eq_false_iff_ne.mpr c68
   have c68b1 : (x59_1 != 10) = true := bne_iff_ne.mpr c68
   replace H := bi_ H; rcases H with ⟨⟨t348, t351⟩, A72, H⟩
   have HC73 := am_ H
   clear H
   have p347 : 0 ≤ (x59_1 : Int) := od_
   have q347 : x59_1 < (y342.length : Int) := od_
   obtain ⟨ad347, e347, hx347_0⟩ := Kd.at_string HR345.out x59_1 p347 q347
   cases e347
   try replace hx347_0 := (HB.out.cell (World.block_lt_of_cell? _ _ hx347_0)).trans hx347_0
   replace p347 := eq_true p347
   replace q347 := eq_true q347
   have hnb74 := NB325_326.out
   have hnc74 := NB326_325.out
   have hnb75 := NB325_340.out
   have hnc75 := NB340_325.out
   obtain ⟨hcz76_0, hcz76_1, hcz76_2, hcz76_3, hfz76_0, hfz76_1, hfz76_2, hfz76_3⟩ := cellsF4 BK325.out
   go_upto_region 21 with (first | (go_at_call 88; (with_reducible refine (F88.calls k1 a0_0 a0_1 a0_2 a0_3 (rdOf ByteArray.empty y342 x59_1) x8_1 t348 t351 _ A72.out).mono ?_); rintro e w77 ⟨v349, rfl, ho0, hb⟩; (try clear A72); replace HO_341001 := am_ (Kd.S_elder' au4_13 (Kd.R_base ho0) hb); have HO350 := am_ (Kd.R_lower (Kd.R_new' (Kd.R_new' ho0 (Kd.R_lt (rk_ HO_5))) (Kd.R_lt (rk_ HO_6))) (below_size bl_)); replace HO_5 := am_ (Kd.R_elder' (rk_ HO_5) (Kd.R_base ho0) hb); replace HO_6 := am_ (Kd.R_elder' (rk_ HO_6) (Kd.R_base ho0) hb); replace BK325 := bb_ BK325 hb; replace BK326 := bb_ BK326 hb; replace BK340 := bb_ BK340 hb; replace HB := hs_ w hb; (try clear hb); (try clear hb2); (try clear hk); (try clear hi); (try clear ho0)) | ((with_reducible refine gate_dst (N := 11) rfl ?_); (try (refine gate_guard (by rfl) ?_; dsimp only)); refine be_ 11 #[.slice none 0 0] 102 ?_; intro gb352 hg w78 hbox hb; replace HO_5 := am_ (Kd.R_below (rk_ HO_5) hb); replace HO_6 := am_ (Kd.R_below (rk_ HO_6) hb); replace HO_341001 := am_ (Kd.S_below (Kd.S_elderB au4_13 gb352 (Nat.le_of_eq hg.symm)) hb); replace HO350 := am_ (Kd.R_below (rk_ HO350) hb); have BK352 := am_ (hbox); have GW352 := am_ (gw_ hg bl_); have GE352 := GW352; replace HB := hs_ w hb; have NB325_352 := am_ (gn_ hg (blkl_ BK325)); have NB352_325 := am_ (gm_ hg (blkl_ BK325)); replace BK325 := bb_ BK325 hb; have NB326_352 := am_ (gn_ hg (blkl_ BK326)); have NB352_326 := am_ (gm_ hg (blkl_ BK326)); replace BK326 := bb_ BK326 hb; have NB340_352 := am_ (gn_ hg (blkl_ BK340)); have NB352_340 := am_ (gm_ hg (blkl_ BK340)); replace BK340 := bb_ BK340 hb; clear hb hbox hg; obtain ⟨Ao79, co79, eo79⟩ := Kd.R_slice HO350.out; subst eo79; have hnb80 := NB352_325.out; have hnc80 := NB325_352.out; have hnb81 := NB352_326.out; have hnc81 := NB326_352.out; have hnb82 := NB352_340.out; have hnc82 := NB340_352.out; have hcz83_0 : w78.cell? ⟨gb352, 0, none⟩ = some (.slice none 0 0) := (blk_cell BK352.out 0).trans rfl; have hfz83_0 := blk_frozen BK352.out 0))
   (try simp only [Act.put, List.setIfInBounds_toArray, List.set_cons_zero, List.set_cons_succ])
   go_cut [96] (fun v96 wc => ∃ (kq : Nat) (x96_72 : Bool), v96 = .bool x96_72 ∧ Aside0 (F41.j1 kq t332 t336 x8_1 (rdOf ByteArray.empty y342 x59_1) t351 y342 (y342.length : Int) x59_1 x96_72 a0_0 a0_1 a0_2 a0_3 (rdOf ByteArray.empty t336 0) x341001_1 t348 = some (r1, r2, r3, r4, r5)) ∧ Aside0 (kq ≤ k1) ∧ Aside0 (Kd.R Kd.string 9 wc w.heap.size (fun k_ => some k_ ≠ ((.slice (some ad339) t336.length co57) : Value).ownBlock ∧ some k_ ≠ ((.slice Ao79 t348.length co79) : Value).ownBlock) (.slice (some ad335) t332.length co54) t332) ∧ Aside0 (Kd.R Kd.string 9 wc w.heap.size (fun k_ => some k_ ≠ ((.slice (some ad335) t332.length co54) : Value).ownBlock ∧ some k_ ≠ ((.slice Ao79 t348.length co79) : Value).ownBlock) (.slice (some ad339) t336.length co57) t336) ∧ Aside0 (Kd.S k102 102 wc w.heap.size (fun k_ => some k_ ≠ ((.slice (some ad335) t332.length co54) : Value).ownBlock ∧ some k_ ≠ ((.slice (some ad339) t336.length co57) : Value).ownBlock ∧ some k_ ≠ ((.slice Ao79 t348.length co79) : Value).ownBlock ∧ k_ ≠ gb352) u341001 x341001_1) ∧ Aside0 (Kd.R Kd.string 9 wc w.heap.size (fun k_ => some k_ ≠ ((.slice (some ad335) t332.length co54) : Value).ownBlock ∧ some k_ ≠ ((.slice (some ad339) t336.length co57) : Value).ownBlock) (.slice Ao79 t348.length co79) t348) ∧ Aside0 (wc.heap[gb325]? = some (.cells #[.int .i64 a0_0, .int .i64 a0_1, .int .i64 a0_2, .int .i64 a0_3] 23 (0, 0))) ∧ Aside0 (wc.heap[gb326]? = some (.cells #[.string x327000_1, (.slice none 0 0), .int .i64 x327002_1, .int .i64 x327003_1, .int .i64 x327004_1] 66 (0, 0))) ∧ Aside0 (wc.heap[gb340]? = some (.cells #[.string (rdOf ByteArray.empty t336 0), u341001] 59 (0, 0))) ∧ Aside0 (wc.heap[gb352]? = some (.cells #[(.slice Ao79 t348.length co79)] 102 (0, 0))) ∧ Aside0 (Below w.heap.size w wc))
   case first =>
    have H := HC73.out
    clear HC73
    replace H := it_ H; rcases H with ⟨c84b0, H⟩ | ⟨c84b0, H⟩
    rotate_left
    ·(first | rw [c84b0] | (simp only [i64_w, i32_w]; rw [c84b0]) | skip)
     have H' := am_ H
     clear H
     go_wp2
     go_meet
     case rel => exact ⟨_, (false), er_, H', ⟨au4_25⟩, ⟨au4_11⟩, ⟨au4_12⟩, ⟨au4_6⟩, ⟨au4_10⟩, ⟨bf_ BK325⟩, ⟨bf_ BK326⟩, ⟨bf_ BK340⟩, ⟨bq_ BK352⟩, ⟨bl_⟩⟩
    (first | rw [c84b0] | (simp only [i64_w, i32_w]; rw [c84b0]) | skip)
    by_cases c85 : x59_1 = (wrap64 ((t336.length : Int) - 2))
    rotate_left
    ·rw [if_neg c85] at H
     have c85b0 : (x59_1 == (wrap64 ((t336.length : Int) - 2))) = false := beq_eq_false_iff_ne.mpr c85
     have c85b1 : (x59_1 != (wrap64 ((t336.length : Int) - 2))) = true := bne_iff_ne.mpr c85
     have H' := am_ H
     clear H
     go_wp2
     go_meet
     case rel => exact ⟨_, (false), er_, H', ⟨au4_25⟩, ⟨au4_11⟩, ⟨au4_12⟩, ⟨au4_6⟩, ⟨au4_10⟩, ⟨bf_ BK325⟩, ⟨bf_ BK326⟩, ⟨bf_ BK340⟩, ⟨bq_ BK352⟩, ⟨bl_⟩⟩
    rw [if_pos c85] at H
    have c85b0 : (x59_1 == (wrap64 ((t336.length : Int) - 2))) = true := beq_iff_eq.mpr c85
    have c85b1 : (x59_1 != (wrap64 ((t336.length : Int) - 2))) = false := bne_eq_false_iff_eq.mpr c85
    clear c85
    by_cases c86 : (t348.length : Int) = 1
    rotate_left
    ·rw [if_neg c86] at H
     have c86b0 : ((t348.length : Int) == 1) = false := beq_eq_false_iff_ne.mpr c86
     have c86b1 : ((t348.length : Int) != 1) = true := bne_iff_ne.mpr c86
     have H' := am_ H
     clear H
     have hnb92 := NB352_325.out
     have hnc92 := NB325_352.out
     have hnb93 := NB352_326.out
     have hnc93 := NB326_352.out
     have hnb94 := NB352_340.out
     have hnc94 := NB340_352.out
     have hcz95_0 : w78.cell? ⟨gb352, 0, none⟩ = some (.slice none 0 0) := (blk_cell BK352.out 0).trans rfl
     have hfz95_0 := blk_frozen BK352.out 0
     go_wp2
     go_meet
     case rel => exact ⟨_, (false), er_, H', ⟨au4_25⟩, ⟨au4_11⟩, ⟨au4_12⟩, ⟨au4_6⟩, ⟨au4_10⟩, ⟨bf_ BK325⟩, ⟨bf_ BK326⟩, ⟨bf_ BK340⟩, ⟨bq_ BK352⟩, ⟨bl_⟩⟩
    rw [if_pos c86] at H
    have c86b0 : ((t348.length : Int) == 1) = true := beq_iff_eq.mpr c86
    have c86b1 : ((t348.length : Int) != 1) = false := bne_eq_false_iff_eq.mpr c86
    clear c86
    replace H := itn_ H; rcases H with ⟨c87b0, H⟩
    have c87b1 : decide (0 < t348.length) = true := n2_ c87b0
    have H' := am_ H
    clear H
    have hnb88 := NB352_325.out
    have hnc88 := NB325_352.out
    have hnb89 := NB352_326.out
    have hnc89 := NB326_352.out
    have hnb90 := NB352_340.out
    have hnc90 := NB340_352.out
    have hcz91_0 : w78.cell? ⟨gb352, 0, none⟩ = some (.slice none 0 0) := (blk_cell BK352.out 0).trans rfl
    have hfz91_0 := blk_frozen BK352.out 0
    have p353 : 0 ≤ (0 : Int) := (by omega)
    have q353 : 0 < (t348.length : Int) := od_
    obtain ⟨ad353, e353, hx353_0⟩ := Kd.at_string (Kd.R_reads' HO350.out).2.2 0 p353 q353
    cases e353
    have qi353 : (0 < t348.length) = True := eq_true (by omega)
    (try rw [show ((0 : Int)).toNat = 0 from rfl] at hx353_0)
    (try rw [Addr.add_zero'] at hx353_0)
    have hn353_0 : ad353.block ≠ gb352 := Kd.own_blk (Kd.R_ne HO350.out BK352.out (by decide))
    replace hx353_0 := (cell_far (p := ⟨gb352, 0, none⟩) (by first | (rw [add_block]; exact hn353_0) | (show (Addr.add _ _).block ≠ _; rw [add_block]; exact hn353_0) | exact hn353_0) (.slice (some ad353) t348.length co79)).trans hx353_0
    clear hn353_0
    replace p353 := eq_true p353
    replace q353 := eq_true q353
    go_wp2
    go_meet
    case rel => exact ⟨_, (((rdOf ByteArray.empty t348 0).toList == ([] : List UInt8))), er_, H', ⟨au4_25⟩, ⟨by (with_reducible repeat (first | apply Kd.R_alloc | apply Kd.R_drewN | apply Kd.R_drew)); exact Kd.R_mono (Kd.R_far (p := ⟨gb352, 0, none⟩) (Kd.R_types HO_5.out BK352.out (by decide)) (fun _ hk => hk.2) (.slice (some ad353) t348.length co79)) (fun _ hk => ⟨hk.1.1, hk.1.2⟩)⟩, ⟨by (with_reducible repeat (first | apply Kd.R_alloc | apply Kd.R_drewN | apply Kd.R_drew)); exact Kd.R_mono (Kd.R_far (p := ⟨gb352, 0, none⟩) (Kd.R_types HO_6.out BK352.out (by decide)) (fun _ hk => hk.2) (.slice (some ad353) t348.length co79)) (fun _ hk => ⟨hk.1.1, hk.1.2⟩)⟩, ⟨by (with_reducible repeat (first | apply Kd.S_alloc | apply Kd.S_drewN | apply Kd.S_drew)); exact Kd.S_mono (Kd.S_far (p := ⟨gb352, 0, none⟩) (Kd.S_mono HO_341001.out (fun k_ hk => (⟨hk, hk.2⟩ : _ ∧ k_ ≠ gb352))) (fun _ hk => hk.2) (.slice (some ad353) t348.length co79)) (fun _ hk => ⟨hk.1.1.1.1, ⟨hk.1.1.1.2, ⟨hk.1.1.2, hk.1.2⟩⟩⟩)⟩, ⟨by (with_reducible repeat (first | apply Kd.R_alloc | apply Kd.R_drewN | apply Kd.R_drew)); exact Kd.R_mono (Kd.R_far (p := ⟨gb352, 0, none⟩) (Kd.R_types HO350.out BK352.out (by decide)) (fun _ hk => hk.2) (.slice (some ad353) t348.length co79)) (fun _ hk => ⟨hk.1.1.2, hk.1.2⟩)⟩, ⟨bf_ BK325⟩, ⟨bf_ BK326⟩, ⟨bf_ BK340⟩, ⟨bq_ BK352⟩, ⟨bl_⟩⟩
   case rest =>
    clear HC73
    try clear c1
    try clear c14
    try clear c14b0
    try clear c14b1
    try clear c25b0
    try clear c25b1
    try clear c38b0
    try clear c38b1
    try clear c40b0
    try clear c40b1
    try clear c43
    try clear c43b0
    try clear c43b1
    try clear c64
    try clear q64
    try clear c65b0
    try clear c66b0
    try clear c67b0
    try clear c68
    try clear c68b0
    try clear c68b1
    try clear c84b0
    try clear c85
    try clear c85b0
    try clear c85b1
    try clear c86
    try clear c86b0
    try clear c86b1
    try clear c87b0
    try clear c87b1
    try clear hcz11_0 hcz11_1 hcz11_2 hcz11_3 hcz11_4
    try clear hcz21_0 hcz21_1 hcz21_2 hcz21_3
    try clear hcz23_0 hcz23_1 hcz23_2 hcz23_3 hcz23_4
    try clear hcz32_0 hcz32_1 hcz32_2 hcz32_3
    try clear hcz34_0 hcz34_1 hcz34_2 hcz34_3
    try clear hcz37_0 hcz37_1 hcz37_2 hcz37_3 hcz37_4
    try clear hcz50_0 hcz50_1 hcz50_2 hcz50_3
    try clear hcz52_0 hcz52_1 hcz52_2 hcz52_3
    try clear hcz61_0 hcz61_1
    try clear hcz63_0 hcz63_1
    try clear hcz71_0 hcz71_1 hcz71_2 hcz71_3 hcz71_4
    try clear hcz76_0 hcz76_1 hcz76_2 hcz76_3
    try clear hcz83_0
    try clear hcz91_0
    try clear hcz95_0
    try clear hfz11_0 hfz11_1 hfz11_2 hfz11_3 hfz11_4
    try clear hfz21_0 hfz21_1 hfz21_2 hfz21_3
    try clear hfz23_0 hfz23_1 hfz23_2 hfz23_3 hfz23_4
    try clear hfz32_0 hfz32_1 hfz32_2 hfz32_3
    try clear hfz34_0 hfz34_1 hfz34_2 hfz34_3
    try clear hfz37_0 hfz37_1 hfz37_2 hfz37_3 hfz37_4
    try clear hfz50_0 hfz50_1 hfz50_2 hfz50_3
    try clear hfz52_0 hfz52_1 hfz52_2 hfz52_3
    try clear hfz61_0 hfz61_1
    try clear hfz63_0 hfz63_1
    try clear hfz71_0 hfz71_1 hfz71_2 hfz71_3 hfz71_4
    try clear hfz76_0 hfz76_1 hfz76_2 hfz76_3
    try clear hfz83_0
    try clear hfz91_0
    try clear hfz95_0
    try clear hx335_0
    try clear hx339_0
    try clear hx347_0
    try clear hx353_0
    try clear p335
    try clear p339
    try clear p347
    try clear p353
    try clear q335
    try clear q339
    try clear q347
    try clear q353
    try clear q64
    obtain ⟨kq, x96_72, rfl, HA, HJ72, HO_5, HO_6, HO_341001, HO_353000, BK325, BK326, BK340, BK352, HB⟩ := hcut
    cases kq with
    | zero => exact absurd HA.out (by simp [F41.j1])
    | succ kj72 =>
     have H := HA.out
     clear HA
     simp only [F41.j1] at H
     replace H := ib_ H; rcases H with ⟨rfl, H⟩ | ⟨rfl, H⟩
     rotate_left
     ·replace H := it_ H; rcases H with ⟨(c113b0 : decide (0 ≤ t351) = true), H⟩ | ⟨(c113b0 : decide (0 ≤ t351) = false), H⟩
      ·simp only [Option.some.injEq, Prod.mk.injEq] at H
       obtain ⟨rfl, rfl, rfl, rfl, rfl⟩ := H
       have hnb114 := NB326_325.out
       have hnc114 := NB325_326.out
       have hnb115 := NB326_340.out
       have hnc115 := NB340_326.out
       have hnb116 := NB326_352.out
       have hnc116 := NB352_326.out
       obtain ⟨hcz117_0, hcz117_1, hcz117_2, hcz117_3, hcz117_4, hfz117_0, hfz117_1, hfz117_2, hfz117_3, hfz117_4⟩ := cellsF5 BK326.out
       go_wp2
       refine bodyPost_ret (results_cell_row rfl _ _ gb326 66 #[.string (⟨#[]⟩ : ByteArray), .slice none 0 0, .int .i64 0, .int .i64 t351, .int .i64 3] (0, 0) _ rfl (bq_ BK326) Try.underlying66 rfl (by kernel_rfl)) rfl ?_
       exact ⟨_, au4_0, au4_1, bl_⟩
      replace H := iln_ H; rcases H with ⟨LMc118, H⟩
      obtain ⟨y357, hy357⟩ : ∃ y_ : List (S102), y_ = (x341001_1 ++ [(⟨t348⟩ : S102)]) := ⟨_, rfl⟩
      replace H : (F41.l0 kj72 t332 t336 (wrap64 (x8_1 + (wrap64 (((rdOf ByteArray.empty y342 x59_1).size : Int) + 1)))) y342 (y342.length : Int) (wrap64 (x59_1 + 1)) a0_0 a0_1 a0_2 a0_3 (rdOf ByteArray.empty t336 0) y357) = some (r1, r2, r3, r4, r5) := by first | (rw [hy357]; exact H) | exact H
      have Ny357 := am_ hy357
      clear hy357
      have H' := am_ H
      clear H
      have hnb119 := NB340_325.out
      have hnc119 := NB325_340.out
      have hnb120 := NB340_326.out
      have hnc120 := NB326_340.out
      have hnb121 := NB340_352.out
      have hnc121 := NB352_340.out
      obtain ⟨hcz122_0, hcz122_1, hfz122_0, hfz122_1⟩ := cellsF2 BK340.out
      have hnb123 := NB352_325.out
      have hnc123 := NB325_352.out
      have hnb124 := NB352_326.out
      have hnc124 := NB326_352.out
      have hcz125_0 : wc.cell? ⟨gb352, 0, none⟩ = some (.slice Ao79 t348.length co79) := (blk_cell BK352.out 0).trans rfl
      have hfz125_0 := blk_frozen BK352.out 0
      go_wp2_with (first | ((with_reducible refine gate_builtin (b := .append) (xs := #[.tmp 103, .tmp 105]) rfl ?_); (try (refine gate_guard (by rfl) ?_; dsimp only)); at_builtin; refine Kd.S_append k102 (w0 := w) w.heap.size rfl (.tmp 103) (.tmp 105) 57 102 (.agg #[(.slice none 0 0)]) 24 rfl Try.underlying57 info102 rfl (by decide) (by omega) u341001 x341001_1 (⟨t348⟩ : S102) [.slice Ao79 t348.length co79] (fun k_ => some k_ ≠ (.slice (some ad335) t332.length co54 : Value).ownBlock ∧ some k_ ≠ (.slice (some ad339) t336.length co57 : Value).ownBlock ∧ k_ ≠ gb352) (fun k_ => some k_ = (.slice Ao79 t348.length co79 : Value).ownBlock) rfl rfl ?aP (fun k_ hk_ => ((Kd.R_mono (ok' := fun k_ => ((fun k_ => some k_ ≠ (.slice (some ad335) t332.length co54 : Value).ownBlock ∧ some k_ ≠ (.slice (some ad339) t336.length co57 : Value).ownBlock ∧ k_ ≠ gb352)) k_ ∧ some k_ ≠ (u341001 : Value).ownBlock) (Kd.R_types (Kd.R_apart' (HO_353000.out) (Kd.S_typed HO_341001.out) (by decide)) BK352.out (by decide)) (fun k_ hk => ⟨⟨hk.1.1.1, ⟨hk.1.1.2, hk.2⟩⟩, hk.1.2⟩))).1 k_ hk_.symm) ?aF ?aO ?aB ?aS ?aL ?_; (case aP => exact au4_15); (case aB => exact bl_); (case aF => exact au4_17); (case aO => exact au4_18); (case aS => exact (below_size bl_)); (case aL => have := LMc118.out; omega); intro v358 w126 ho hb hg hat; rw [← Ny357.out] at ho; have n0_ := am_ (Kd.R_over' (rk_ HO_5) (Kd.S_typed au4_13) (by decide) hg); have n1_ := am_ (Kd.R_over' (rk_ HO_6) (Kd.S_typed au4_13) (by decide) hg); have n2_ := am_ (bg_ BK325 hg (Kd.S_ne HO_341001.out BK325.out (by decide))); have n3_ := am_ (bg_ BK326 hg (Kd.S_ne HO_341001.out BK326.out (by decide))); have n4_ := am_ (bg_ BK340 hg (Kd.S_ne HO_341001.out BK340.out (by decide))); have n5_ := am_ (bg_ BK352 hg (Kd.S_away HO_341001.out (fun _ hk => hk.2.2.2))); have n6_ := am_ (hb); have n7_ := am_ (ho); clear HO_5; clear HO_6; clear BK325; clear BK326; clear BK340; clear BK352; clear HB; clear HO_341001; clear HO_353000; have HO_5 := n0_; have HO_6 := n1_; have BK325 := n2_; have BK326 := n3_; have BK340 := n4_; have BK352 := n5_; have HB := n6_; have HO359 := n7_; clear n0_ n1_ n2_ n3_ n4_ n5_ n6_ n7_; clear ho hb hg hat; obtain ⟨Ao127, co127, eo127⟩ := Kd.S_slice HO359.out; subst eo127; obtain ⟨hcz128_0, hcz128_1, hfz128_0, hfz128_1⟩ := cellsF2 BK340.out))
      go_roundg kj72
      case measure => have := HK1.out; have := HJ72.out; omega
      case rel => exact ⟨(wrap64 (x8_1 + (wrap64 (((rdOf ByteArray.empty y342 x59_1).size : Int) + 1)))), (wrap64 (x59_1 + 1)), (x327000_1), (x327002_1), (x327003_1), (x327004_1), (y357), (.slice Ao127 y357.length co127), er_, er_, H', ⟨by have := HK1.out; have := HJ72.out; omega⟩, ⟨by (with_reducible repeat (first | apply Kd.R_alloc | apply Kd.R_drewN | apply Kd.R_drew)); exact Kd.R_mono (Kd.R_far (p := ⟨gb340, 1, none⟩) (Kd.R_types HO_5.out BK340.out (by decide)) (fun _ hk => hk.2) (.slice Ao127 y357.length co127)) (fun _ hk => hk.1.1)⟩, ⟨by (with_reducible repeat (first | apply Kd.R_alloc | apply Kd.R_drewN | apply Kd.R_drew)); exact Kd.R_mono (Kd.R_far (p := ⟨gb340, 1, none⟩) (Kd.R_types HO_6.out BK340.out (by decide)) (fun _ hk => hk.2) (.slice Ao127 y357.length co127)) (fun _ hk => hk.1.1)⟩, ⟨by (with_reducible repeat (first | apply Kd.S_alloc | apply Kd.S_drewN | apply Kd.S_drew)); exact Kd.S_mono (Kd.S_far (p := ⟨gb340, 1, none⟩) (Kd.S_types HO359.out BK340.out (by decide)) (fun _ hk => hk.2) (.slice Ao127 y357.length co127)) (fun _ hk => ⟨hk.1.1, hk.1.2.1⟩)⟩, ⟨bf_ BK325⟩, ⟨bf_ BK326⟩, ⟨bq_ BK340⟩, ⟨bl_⟩⟩
     replace H := it_ H; rcases H with ⟨(c97b0 : decide (0 ≤ x8_1) = true), H⟩ | ⟨(c97b0 : decide (0 ≤ x8_1) = false), H⟩
     ·simp only [Option.some.injEq, Prod.mk.injEq] at H
      obtain ⟨rfl, rfl, rfl, rfl, rfl⟩ := H
      have hnb98 := NB326_325.out
      have hnc98 := NB325_326.out
      have hnb99 := NB326_340.out
      have hnc99 := NB340_326.out
      have hnb100 := NB326_352.out
      have hnc100 := NB352_326.out
      obtain ⟨hcz101_0, hcz101_1, hcz101_2, hcz101_3, hcz101_4, hfz101_0, hfz101_1, hfz101_2, hfz101_3, hfz101_4⟩ := cellsF5 BK326.out
      go_wp2
      refine bodyPost_ret (results_cell_row rfl _ _ gb326 66 #[.string (⟨#[]⟩ : ByteArray), .slice none 0 0, .int .i64 0, .int .i64 x8_1, .int .i64 3] (0, 0) _ rfl (bq_ BK326) Try.underlying66 rfl (by kernel_rfl)) rfl ?_
      exact ⟨_, au4_0, au4_1, bl_⟩
     replace H := iln_ H; rcases H with ⟨LMc102, H⟩
     obtain ⟨y354, hy354⟩ : ∃ y_ : List (S102), y_ = (x341001_1 ++ [(⟨t348⟩ : S102)]) := ⟨_, rfl⟩
     replace H : (F41.l0 kj72 t332 t336 (wrap64 (x8_1 + (wrap64 (((rdOf ByteArray.empty y342 x59_1).size : Int) + 1)))) y342 (y342.length : Int) (wrap64 (x59_1 + 1)) a0_0 a0_1 a0_2 a0_3 (rdOf ByteArray.empty t336 0) y354) = some (r1, r2, r3, r4, r5) := by first | (rw [hy354]; exact H) | exact H
     have Ny354 := am_ hy354
     clear hy354
     have H' := am_ H
     clear H
     have hnb103 := NB340_325.out
     have hnc103 := NB325_340.out
     have hnb104 := NB340_326.out
     have hnc104 := NB326_340.out
     have hnb105 := NB340_352.out
     have hnc105 := NB352_340.out
     obtain ⟨hcz106_0, hcz106_1, hfz106_0, hfz106_1⟩ := cellsF2 BK340.out
     have hnb107 := NB352_325.out
     have hnc107 := NB325_352.out
     have hnb108 := NB352_326.out
     have hnc108 := NB326_352.out
     have hcz109_0 : wc.cell? ⟨gb352, 0, none⟩ = some (.slice Ao79 t348.length co79) := (blk_cell BK352.out 0).trans rfl
     have hfz109_0 := blk_frozen BK352.out 0
     go_wp2_with (first | ((with_reducible refine gate_builtin (b := .append) (xs := #[.tmp 103, .tmp 105]) rfl ?_); (try (refine gate_guard (by rfl) ?_; dsimp only)); at_builtin; refine Kd.S_append k102 (w0 := w) w.heap.size rfl (.tmp 103) (.tmp 105) 57 102 (.agg #[(.slice none 0 0)]) 24 rfl Try.underlying57 info102 rfl (by decide) (by omega) u341001 x341001_1 (⟨t348⟩ : S102) [.slice Ao79 t348.length co79] (fun k_ => some k_ ≠ (.slice (some ad335) t332.length co54 : Value).ownBlock ∧ some k_ ≠ (.slice (some ad339) t336.length co57 : Value).ownBlock ∧ k_ ≠ gb352) (fun k_ => some k_ = (.slice Ao79 t348.length co79 : Value).ownBlock) rfl rfl ?aP (fun k_ hk_ => ((Kd.R_mono (ok' := fun k_ => ((fun k_ => some k_ ≠ (.slice (some ad335) t332.length co54 : Value).ownBlock ∧ some k_ ≠ (.slice (some ad339) t336.length co57 : Value).ownBlock ∧ k_ ≠ gb352)) k_ ∧ some k_ ≠ (u341001 : Value).ownBlock) (Kd.R_types (Kd.R_apart' (HO_353000.out) (Kd.S_typed HO_341001.out) (by decide)) BK352.out (by decide)) (fun k_ hk => ⟨⟨hk.1.1.1, ⟨hk.1.1.2, hk.2⟩⟩, hk.1.2⟩))).1 k_ hk_.symm) ?aF ?aO ?aB ?aS ?aL ?_; (case aP => exact au4_15); (case aB => exact bl_); (case aF => exact au4_17); (case aO => exact au4_18); (case aS => exact (below_size bl_)); (case aL => have := LMc102.out; omega); intro v355 w110 ho hb hg hat; rw [← Ny354.out] at ho; have n0_ := am_ (Kd.R_over' (rk_ HO_5) (Kd.S_typed au4_13) (by decide) hg); have n1_ := am_ (Kd.R_over' (rk_ HO_6) (Kd.S_typed au4_13) (by decide) hg); have n2_ := am_ (bg_ BK325 hg (Kd.S_ne HO_341001.out BK325.out (by decide))); have n3_ := am_ (bg_ BK326 hg (Kd.S_ne HO_341001.out BK326.out (by decide))); have n4_ := am_ (bg_ BK340 hg (Kd.S_ne HO_341001.out BK340.out (by decide))); have n5_ := am_ (bg_ BK352 hg (Kd.S_away HO_341001.out (fun _ hk => hk.2.2.2))); have n6_ := am_ (hb); have n7_ := am_ (ho); clear HO_5; clear HO_6; clear BK325; clear BK326; clear BK340; clear BK352; clear HB; clear HO_341001; clear HO_353000; have HO_5 := n0_; have HO_6 := n1_; have BK325 := n2_; have BK326 := n3_; have BK340 := n4_; have BK352 := n5_; have HB := n6_; have HO356 := n7_; clear n0_ n1_ n2_ n3_ n4_ n5_ n6_ n7_; clear ho hb hg hat; obtain ⟨Ao111, co111, eo111⟩ := Kd.S_slice HO356.out; subst eo111; obtain ⟨hcz112_0, hcz112_1, hfz112_0, hfz112_1⟩ := cellsF2 BK340.out))
     go_roundg kj72
     case measure => have := HK1.out; have := HJ72.out; omega
     case rel => exact ⟨(wrap64 (x8_1 + (wrap64 (((rdOf ByteArray.empty y342 x59_1).size : Int) + 1)))), (wrap64 (x59_1 + 1)), (x327000_1), (x327002_1), (x327003_1), (x327004_1), (y354), (.slice Ao111 y354.length co111), er_, er_, H', ⟨by have := HK1.out; have := HJ72.out; omega⟩, ⟨by (with_reducible repeat (first | apply Kd.R_alloc | apply Kd.R_drewN | apply Kd.R_drew)); exact Kd.R_mono (Kd.R_far (p := ⟨gb340, 1, none⟩) (Kd.R_types HO_5.out BK340.out (by decide)) (fun _ hk => hk.2) (.slice Ao111 y354.length co111)) (fun _ hk => hk.1.1)⟩, ⟨by (with_reducible repeat (first | apply Kd.R_alloc | apply Kd.R_drewN | apply Kd.R_drew)); exact Kd.R_mono (Kd.R_far (p := ⟨gb340, 1, none⟩) (Kd.R_types HO_6.out BK340.out (by decide)) (fun _ hk => hk.2) (.slice Ao111 y354.length co111)) (fun _ hk => hk.1.1)⟩, ⟨by (with_reducible repeat (first | apply Kd.S_alloc | apply Kd.S_drewN | apply Kd.S_drew)); exact Kd.S_mono (Kd.S_far (p := ⟨gb340, 1, none⟩) (Kd.S_types HO356.out BK340.out (by decide)) (fun _ hk => hk.2) (.slice Ao111 y354.length co111)) (fun _ hk => ⟨hk.1.1, hk.1.2.1⟩)⟩, ⟨bf_ BK325⟩, ⟨bf_ BK326⟩, ⟨bq_ BK340⟩, ⟨bl_⟩⟩
/-! ### F51: function 51 -/
def F51.l0 : Nat → ByteArray → List (S59) → Int → Int → Int → Int → Int → Option ((List (S59)) × Int × Int × Int)
  | 0, _, _, _, _, _, _, _ => none
  | k + 1, x1, x5, x6, x361000, x361001, x361002, x361003 => if x6 < (x1.size : Int) then (if 0 ≤ x6 then (if x6 ≤ (x1.size : Int) then ((F41.f k x361000 x361001 x361002 x361003 (x1.extract (x6 : Int).toNat x1.size)).bind fun bt370 => (if (x5.length : Int) = 200 then (if 7 = 0 then (if x5.length < 3518437208883 then (F51.l0 k x1 (x5 ++ [(⟨(⟨#[]⟩ : ByteArray), ([] : List (S102))⟩ : S59)]) (wrap64 (x6 + 0)) x361000 x361001 x361002 x361003) else (none)) else (some (([] : List (S59)), wrap64 (x6 + 0), (x5.length : Int), 7))) else (if bt370.2.2.2.2 = 0 then (if x5.length < 3518437208883 then (F51.l0 k x1 (x5 ++ [(⟨bt370.1, bt370.2.1⟩ : S59)]) (wrap64 (x6 + bt370.2.2.1)) x361000 x361001 x361002 x361003) else (none)) else (some (([] : List (S59)), wrap64 (x6 + bt370.2.2.2.1), (x5.length : Int), bt370.2.2.2.2))))) else (none)) else (none)) else (some (x5, 0, 0, 0))
def F51.f (k : Nat) (a0_0 : Int) (a0_1 : Int) (a0_2 : Int) (a0_3 : Int) (a1 : ByteArray) : Option ((List (S59)) × Int × Int × Int) := (F58.f k (([a1] : List ByteArray))).bind fun t365 => (if t365 = true then (some (([] : List (S59)), 0, 0, 2)) else ((F60.f k a0_0 a0_1 a0_2 a0_3).bind fun t366 => (if t366 = true then (F51.l0 k a1 (([] : List (S59))) 0 a0_0 a0_1 a0_2 a0_3) else (some (([] : List (S59)), 0, 0, 1)))))
theorem F51.mono_l : ∀ k, (∀ y0 y1 y2 y3 y4 y5 y6, LeO (F51.l0 k y0 y1 y2 y3 y4 y5 y6) (F51.l0 (k + 1) y0 y1 y2 y3 y4 y5 y6))
 | 0 => fun _ _ _ _ _ _ _ r h => by simp [F51.l0] at h
 | k + 1 => by
  have ih0 := F51.mono_l k
  intro y0 y1 y2 y3 y4 y5 y6
  unfold F51.l0
  repeat' with_reducible first | exact ih0 _ _ _ _ _ _ _ | exact F41.mono _ _ _ _ _ _ | exact F60.mono _ _ _ _ _ | exact F58.mono _ _ | exact LeO.refl _ | exact LeO.none _ | refine LeO.ite ?_ ?_ | refine LeO.bind ?_ (fun _ => ?_)
theorem F51.mono : ∀ a0 a1 a2 a3 a4 k, LeO (F51.f k a0 a1 a2 a3 a4) (F51.f (k + 1) a0 a1 a2 a3 a4) := by
 intro a0 a1 a2 a3 a4 k
 have ih0 := F51.mono_l k
 unfold F51.f
 repeat' with_reducible first | exact ih0 _ _ _ _ _ _ _ | exact F41.mono _ _ _ _ _ _ | exact F60.mono _ _ _ _ _ | exact F58.mono _ _ | exact LeO.refl _ | exact LeO.none _ | refine LeO.ite ?_ ?_ | refine LeO.bind ?_ (fun _ => ?_)
def F51.T12 : Bool × List (List Nat × List Nat) := (true, [([], []), ([], []), ([1], [1]), ([2], [2]), ([0, 3], [0, 3]), ([], []), ([], []), ([6], [6]), ([5, 7], [5, 7]), ([4, 4, 0, 1, 2, 3, 4], [0, 4]), ([8, 9, 0, 1, 2, 3, 4, 5, 6, 7, 8, 9], [5, 8])])
def F51.B12 : List Nat := [0, 0, 2, 6, 15, 0, 0, 64, 224, 31, 1023]
theorem F51.tab12 : rtab .any (opsOf Try.f51 12) = F51.T12 := by kernel_rfl
theorem F51.bits12 : waitsOk F51.T12.2 F51.B12 = true := by kernel_rfl
theorem F51.calls (k : Nat) (a0_0 : Int) (a0_1 : Int) (a0_2 : Int) (a0_3 : Int) (a1 : ByteArray) (r1 : List (S59)) (r2 : Int) (r3 : Int) (r4 : Int) (w : World) (h : F51.f k a0_0 a0_1 a0_2 a0_3 a1 = some (r1, r2, r3, r4)) :
  Calls Try.prog 51 #[.agg #[.int .i64 a0_0, .int .i64 a0_1, .int .i64 a0_2, .int .i64 a0_3], .string a1] w fun e w' => ∃ v0_ : Value, e = .returned (.agg #[v0_, .int .i64 r2, .int .i64 r3, .int .i64 r4]) ∧ Kd.S k59 59 w' w.heap.size (fun _ => True) v0_ r1 ∧ Below w.heap.size w w' := by
 have hu23 := Try.underlying23
 have hu78 := Try.underlying78
 have hu66 := Try.underlying66
 have hu59 := Try.underlying59
 have HB := am_ (Below.refl w.heap.size w)
 have H : ((F58.f k (([a1] : List ByteArray))).bind fun t365 => (if t365 = true then (some (([] : List (S59)), 0, 0, 2)) else ((F60.f k a0_0 a0_1 a0_2 a0_3).bind fun t366 => (if t366 = true then (F51.l0 k a1 (([] : List (S59))) 0 a0_0 a0_1 a0_2 a0_3) else (some (([] : List (S59)), 0, 0, 1)))))) = some (r1, r2, r3, r4) := h
 clear h
 obtain ⟨y362, hy362⟩ : ∃ y_ : List ByteArray, y_ = (([a1] : List ByteArray)) := ⟨_, rfl⟩
 replace H : ((F58.f k y362).bind fun t365 => (if t365 = true then (some (([] : List (S59)), 0, 0, 2)) else ((F60.f k a0_0 a0_1 a0_2 a0_3).bind fun t366 => (if t366 = true then (F51.l0 k a1 (([] : List (S59))) 0 a0_0 a0_1 a0_2 a0_3) else (some (([] : List (S59)), 0, 0, 1)))))) = some (r1, r2, r3, r4) := by first | (rw [hy362]; exact H) | exact H
 have Ny362 := am_ hy362
 clear hy362
 replace H := bi_ H; rcases H with ⟨t365, A3, H⟩
 replace H := ib_ H; rcases H with ⟨rfl, H⟩ | ⟨rfl, H⟩
 ·simp only [Option.some.injEq, Prod.mk.injEq] at H
  obtain ⟨rfl, rfl, rfl, rfl⟩ := H
  go_enter Try.func51, Try.ntmps51
  go_wp2_with (first | ((with_reducible refine gate_dst (N := 2) rfl ?_); refine be_ 2 #[.int .i64 a0_0, .int .i64 a0_1, .int .i64 a0_2, .int .i64 a0_3] 23 ?_; intro gb360 hg w5 hbox hb; have BK360 := am_ (hbox); have GW360 := am_ (gw_ hg bl_); have GE360 := GW360; replace HB := hs_ w hb; clear hb hbox hg) | ((with_reducible refine gate_dst (N := 4) rfl ?_); refine be_ 4 #[.slice none 0 0, .int .i64 0, .int .i64 0, .int .i64 0] 78 ?_; intro gb361 hg w6 hbox hb; have BK361 := am_ (hbox); have GW361 := am_ (gw_ hg bl_); have GE361 := GW361; replace HB := hs_ w hb; have NB360_361 := am_ (gn_ hg (blkl_ BK360)); have NB361_360 := am_ (gm_ hg (blkl_ BK360)); replace BK360 := bb_ BK360 hb; clear hb hbox hg) | ((with_reducible refine gate_dst (N := 10) rfl ?_); refine Kd.R_lit Kd.string _ 9 ?hg (N := 10) ?hd (xs := ([a1] : List ByteArray)) (inner := [.string a1]) (ok := fun _ => True) (okp := fun _ => True) ?hr ?hp (fun _ hk => hk) trivial (Below.refl _ _) (Nat.le_refl _) (by simp) ?_; (case hd => rfl); (case hg => rfl); (case hr => exact hr_); (case hp => exact au4_9); intro v363 w7 ho8 hb hg_ hnew_; clear hg_ hnew_; (first | rw [← Ny362.out] at ho8 | (simp only [Int.reduceToNat] at ho8; rw [← Ny362.out] at ho8)); have HO364 := am_ (Kd.R_lower ho8 (below_size bl_)); replace BK360 := bb_ BK360 hb; replace BK361 := bb_ BK361 hb; replace HB := hs_ w hb; clear hb ho8; obtain ⟨Ao9, co9, eo9⟩ := Kd.R_slice HO364.out; subst eo9) | ((with_reducible refine gate_callee (f := 58) rfl ?_); refine gl_ 11 Try.func58 #[.slice Ao9 y362.length co9] ?_ rfl rfl rfl rfl; (with_reducible refine (F58.calls k _ _ y362 true _ ?s1 ?s2 A3.out).mono ?_); (case s1 => exact au4_16); (case s2 => exact (Kd.R_reads' HO364.out).2.1); rintro e w' ⟨rfl, ⟨nd, rfl⟩⟩; refine ⟨_, rfl, ?_⟩; (try (rw [drewN_self w7]; generalize hq_ : World.drewN w7 _ = w7; have n0_ : Aside0 (Kd.R Kd.string 9 w7 w.heap.size (fun _ => True) (.slice Ao9 y362.length co9) y362) := ⟨by rw [← hq_]; exact (rk_ HO364)⟩; have n1_ : Aside0 (w7.heap[gb360]? = some (.cells #[.int .i64 a0_0, .int .i64 a0_1, .int .i64 a0_2, .int .i64 a0_3] 23 (0, 0))) := ⟨by rw [← hq_]; exact (bk_ BK360)⟩; have n2_ : Aside0 (w7.heap[gb361]? = some (.cells #[.slice none 0 0, .int .i64 0, .int .i64 0, .int .i64 0] 78 (0, 0))) := ⟨by rw [← hq_]; exact (bk_ BK361)⟩; have n3_ : Aside0 (Below w.heap.size w w7) := ⟨by rw [← hq_]; exact bl_⟩; clear HO364 BK360 BK361 HB hq_; have HO364 := n0_; have BK360 := n1_; have BK361 := n2_; have HB := n3_; clear n0_ n1_ n2_ n3_)); have hnb10 := NB361_360.out; have hnc10 := NB360_361.out; obtain ⟨hcz11_0, hcz11_1, hcz11_2, hcz11_3, hfz11_0, hfz11_1, hfz11_2, hfz11_3⟩ := cellsF4 BK361.out))
  refine bodyPost_ret (results_cell_row rfl _ _ gb361 78 #[.slice none 0 0, .int .i64 0, .int .i64 0, .int .i64 2] (0, 0) _ rfl (bq_ BK361) Try.underlying78 rfl (by kernel_rfl)) rfl ?_
  exact ⟨_, au4_0, au4_1, bl_⟩
 replace H := bi_ H; rcases H with ⟨t366, A12, H⟩
 replace H := ib_ H; rcases H with ⟨rfl, H⟩ | ⟨rfl, H⟩
 rotate_left
 ·simp only [Option.some.injEq, Prod.mk.injEq] at H
  obtain ⟨rfl, rfl, rfl, rfl⟩ := H
  go_enter Try.func51, Try.ntmps51
  go_wp2_with (first | ((with_reducible refine gate_dst (N := 2) rfl ?_); refine be_ 2 #[.int .i64 a0_0, .int .i64 a0_1, .int .i64 a0_2, .int .i64 a0_3] 23 ?_; intro gb360 hg w102 hbox hb; have BK360 := am_ (hbox); have GW360 := am_ (gw_ hg bl_); have GE360 := GW360; replace HB := hs_ w hb; clear hb hbox hg) | ((with_reducible refine gate_dst (N := 4) rfl ?_); refine be_ 4 #[.slice none 0 0, .int .i64 0, .int .i64 0, .int .i64 0] 78 ?_; intro gb361 hg w103 hbox hb; have BK361 := am_ (hbox); have GW361 := am_ (gw_ hg bl_); have GE361 := GW361; replace HB := hs_ w hb; have NB360_361 := am_ (gn_ hg (blkl_ BK360)); have NB361_360 := am_ (gm_ hg (blkl_ BK360)); replace BK360 := bb_ BK360 hb; clear hb hbox hg) | ((with_reducible refine gate_dst (N := 10) rfl ?_); refine Kd.R_lit Kd.string _ 9 ?hg (N := 10) ?hd (xs := ([a1] : List ByteArray)) (inner := [.string a1]) (ok := fun _ => True) (okp := fun _ => True) ?hr ?hp (fun _ hk => hk) trivial (Below.refl _ _) (Nat.le_refl _) (by simp) ?_; (case hd => rfl); (case hg => rfl); (case hr => exact hr_); (case hp => exact au4_9); intro v363 w104 ho105 hb hg_ hnew_; clear hg_ hnew_; (first | rw [← Ny362.out] at ho105 | (simp only [Int.reduceToNat] at ho105; rw [← Ny362.out] at ho105)); have HO364 := am_ (Kd.R_lower ho105 (below_size bl_)); replace BK360 := bb_ BK360 hb; replace BK361 := bb_ BK361 hb; replace HB := hs_ w hb; clear hb ho105; obtain ⟨Ao106, co106, eo106⟩ := Kd.R_slice HO364.out; subst eo106) | ((with_reducible refine gate_callee (f := 58) rfl ?_); refine gl_ 11 Try.func58 #[.slice Ao106 y362.length co106] ?_ rfl rfl rfl rfl; (with_reducible refine (F58.calls k _ _ y362 false _ ?s1 ?s2 A3.out).mono ?_); (case s1 => exact au4_16); (case s2 => exact (Kd.R_reads' HO364.out).2.1); rintro e w' ⟨rfl, ⟨nd, rfl⟩⟩; refine ⟨_, rfl, ?_⟩; (try (rw [drewN_self w104]; generalize hq_ : World.drewN w104 _ = w104; have n0_ : Aside0 (Kd.R Kd.string 9 w104 w.heap.size (fun _ => True) (.slice Ao106 y362.length co106) y362) := ⟨by rw [← hq_]; exact (rk_ HO364)⟩; have n1_ : Aside0 (w104.heap[gb360]? = some (.cells #[.int .i64 a0_0, .int .i64 a0_1, .int .i64 a0_2, .int .i64 a0_3] 23 (0, 0))) := ⟨by rw [← hq_]; exact (bk_ BK360)⟩; have n2_ : Aside0 (w104.heap[gb361]? = some (.cells #[.slice none 0 0, .int .i64 0, .int .i64 0, .int .i64 0] 78 (0, 0))) := ⟨by rw [← hq_]; exact (bk_ BK361)⟩; have n3_ : Aside0 (Below w.heap.size w w104) := ⟨by rw [← hq_]; exact bl_⟩; clear HO364 BK360 BK361 HB hq_; have HO364 := n0_; have BK360 := n1_; have BK361 := n2_; have HB := n3_; clear n0_ n1_ n2_ n3_)); have hnb107 := NB360_361.out; have hnc107 := NB361_360.out; obtain ⟨hcz108_0, hcz108_1, hcz108_2, hcz108_3, hfz108_0, hfz108_1, hfz108_2, hfz108_3⟩ := cellsF4 BK360.out) | ((with_reducible refine gate_callee (f := 60) rfl ?_); refine gl_ 15 Try.func60 #[.agg #[.int .i64 a0_0, .int .i64 a0_1, .int .i64 a0_2, .int .i64 a0_3]] ?_ rfl rfl rfl rfl; (with_reducible refine (F60.calls k a0_0 a0_1 a0_2 a0_3 false _ A12.out).mono ?_); rintro e w109 ⟨rfl, hb⟩; refine ⟨_, rfl, ?_⟩; replace HO364 := am_ (Kd.R_below (rk_ HO364) hb); replace BK360 := bb_ BK360 hb; replace BK361 := bb_ BK361 hb; replace HB := hs_ w hb; (try clear hb); obtain ⟨hcz110_0, hcz110_1, hcz110_2, hcz110_3, hfz110_0, hfz110_1, hfz110_2, hfz110_3⟩ := cellsF4 BK361.out))
  refine bodyPost_ret (results_cell_row rfl _ _ gb361 78 #[.slice none 0 0, .int .i64 0, .int .i64 0, .int .i64 1] (0, 0) _ rfl (bq_ BK361) Try.underlying78 rfl (by kernel_rfl)) rfl ?_
  exact ⟨_, au4_0, au4_1, bl_⟩

 obtain ⟨y367, hy367⟩ : ∃ y_ : List (S59), y_ = (([] : List (S59))) := ⟨_, rfl⟩
 replace H : (F51.l0 k a1 y367 0 a0_0 a0_1 a0_2 a0_3) = some (r1, r2, r3, r4) := by first | (rw [hy367]; exact H) | exact H
 have Ny367 := am_ hy367
 clear hy367
 have H' := am_ H
 clear H
 go_enter Try.func51, Try.ntmps51
 go_wp2_with (first | ((with_reducible refine gate_dst (N := 2) rfl ?_); refine be_ 2 #[.int .i64 a0_0, .int .i64 a0_1, .int .i64 a0_2, .int .i64 a0_3] 23 ?_; intro gb360 hg w14 hbox hb; have BK360 := am_ (hbox); have GW360 := am_ (gw_ hg bl_); have GE360 := GW360; replace HB := hs_ w hb; clear hb hbox hg) | ((with_reducible refine gate_dst (N := 4) rfl ?_); refine be_ 4 #[.slice none 0 0, .int .i64 0, .int .i64 0, .int .i64 0] 78 ?_; intro gb361 hg w15 hbox hb; have BK361 := am_ (hbox); have GW361 := am_ (gw_ hg bl_); have GE361 := GW361; replace HB := hs_ w hb; have NB360_361 := am_ (gn_ hg (blkl_ BK360)); have NB361_360 := am_ (gm_ hg (blkl_ BK360)); replace BK360 := bb_ BK360 hb; clear hb hbox hg) | ((with_reducible refine gate_dst (N := 10) rfl ?_); refine Kd.R_lit Kd.string _ 9 ?hg (N := 10) ?hd (xs := ([a1] : List ByteArray)) (inner := [.string a1]) (ok := fun _ => True) (okp := fun _ => True) ?hr ?hp (fun _ hk => hk) trivial (Below.refl _ _) (Nat.le_refl _) (by simp) ?_; (case hd => rfl); (case hg => rfl); (case hr => exact hr_); (case hp => exact au4_9); intro v363 w16 ho17 hb hg_ hnew_; clear hg_ hnew_; (first | rw [← Ny362.out] at ho17 | (simp only [Int.reduceToNat] at ho17; rw [← Ny362.out] at ho17)); have HO364 := am_ (Kd.R_lower ho17 (below_size bl_)); replace BK360 := bb_ BK360 hb; replace BK361 := bb_ BK361 hb; replace HB := hs_ w hb; clear hb ho17; obtain ⟨Ao18, co18, eo18⟩ := Kd.R_slice HO364.out; subst eo18) | ((with_reducible refine gate_callee (f := 58) rfl ?_); refine gl_ 11 Try.func58 #[.slice Ao18 y362.length co18] ?_ rfl rfl rfl rfl; (with_reducible refine (F58.calls k _ _ y362 false _ ?s1 ?s2 A3.out).mono ?_); (case s1 => exact au4_16); (case s2 => exact (Kd.R_reads' HO364.out).2.1); rintro e w' ⟨rfl, ⟨nd, rfl⟩⟩; refine ⟨_, rfl, ?_⟩; have hnb19 := NB360_361.out; have hnc19 := NB361_360.out; obtain ⟨hcz20_0, hcz20_1, hcz20_2, hcz20_3, hfz20_0, hfz20_1, hfz20_2, hfz20_3⟩ := cellsF4 BK360.out) | ((with_reducible refine gate_callee (f := 60) rfl ?_); refine gl_ 15 Try.func60 #[.agg #[.int .i64 a0_0, .int .i64 a0_1, .int .i64 a0_2, .int .i64 a0_3]] ?_ rfl rfl rfl rfl; (with_reducible refine (F60.calls k a0_0 a0_1 a0_2 a0_3 true _ A12.out).mono ?_); rintro e w21 ⟨rfl, hb⟩; refine ⟨_, rfl, ?_⟩; replace HO364 := am_ (Kd.R_below (rk_ HO364) hb); replace BK360 := bb_ BK360 hb; replace BK361 := bb_ BK361 hb; replace HB := hs_ w hb; (try clear hb)) | ((with_reducible refine gate_dst (N := 18) rfl ?_); refine Kd.S_lit k59 _ 59 ?hg (N := 18) ?hd (xs := ([] : List (S59))) (inner := []) (ok := fun _ => True) (okp := fun _ => True) ?hr ?hp (fun _ hk => hk) trivial (Below.refl _ _) (Nat.le_refl _) (by simp) ?_; (case hd => rfl); (case hg => rfl); (case hr => exact hr_); (case hp => exact (Reps.none _ _)); intro v368 w22 ho23 hb hg_ hnew_; clear hg_ hnew_; (first | rw [← Ny367.out] at ho23 | (simp only [Int.reduceToNat] at ho23; rw [← Ny367.out] at ho23)); have HO369 := am_ (Kd.S_lower (Kd.S_new' ho23 (Kd.R_lt (rk_ HO364))) (below_size bl_)); replace HO364 := am_ (Kd.R_below (rk_ HO364) hb); replace BK360 := bb_ BK360 hb; replace BK361 := bb_ BK361 hb; replace HB := hs_ w hb; clear hb ho23))
 go_loopg [5, 6] k (fun kq v5 v6 w' => ∃ (x5_1 : List (S59)) (x6_1 : Int) (x362001_1 : Int) (x362002_1 : Int) (x362003_1 : Int), v6 = .int .i64 x6_1 ∧ Aside0 (F51.l0 kq a1 x5_1 x6_1 a0_0 a0_1 a0_2 a0_3 = some (r1, r2, r3, r4)) ∧ Aside0 (kq ≤ k) ∧ Aside0 (Kd.S k59 59 w' w.heap.size (fun _ => True) v5 x5_1) ∧ Aside0 (w'.heap[gb360]? = some (.cells #[.int .i64 a0_0, .int .i64 a0_1, .int .i64 a0_2, .int .i64 a0_3] 23 (0, 0))) ∧ Aside0 (w'.heap[gb361]? = some (.cells #[(.slice none 0 0), .int .i64 x362001_1, .int .i64 x362002_1, .int .i64 x362003_1] 78 (0, 0))) ∧ Aside0 (Below w.heap.size w w'))
 case atStart => exact ⟨(y367), (0), (0), (0), (0), er_, H', ⟨Nat.le_refl _⟩, ⟨by (with_reducible repeat (first | apply Kd.S_alloc | apply Kd.S_drewN | apply Kd.S_drew)); exact Kd.S_mono HO369.out (fun _ hk => trivial)⟩, ⟨bk_ BK360⟩, ⟨bk_ BK361⟩, ⟨bl_⟩⟩
 case round =>
  clear H'
  try clear hcz11_0 hcz11_1 hcz11_2 hcz11_3
  try clear hcz20_0 hcz20_1 hcz20_2 hcz20_3
  try clear hfz11_0 hfz11_1 hfz11_2 hfz11_3
  try clear hfz20_0 hfz20_1 hfz20_2 hfz20_3
  obtain ⟨x5_1, x6_1, x362001_1, x362002_1, x362003_1, rfl, HA, HK1, HO_5, BK360, BK361, HB⟩ := hrel
  cases gk with
  | zero => exact absurd HA.out (by simp [F51.l0])
  | succ k1 =>
   have H := HA.out
   clear HA
   simp only [F51.l0] at H
   replace H := it_ H; rcases H with ⟨c24b0, H⟩ | ⟨c24b0, H⟩
   rotate_left
   ·simp only [Option.some.injEq, Prod.mk.injEq] at H
    obtain ⟨rfl, rfl, rfl, rfl⟩ := H
    obtain ⟨Ao99, co99, eo99⟩ := Kd.S_slice HO_5.out
    subst eo99
    have hnb100 := NB361_360.out
    have hnc100 := NB360_361.out
    obtain ⟨hcz101_0, hcz101_1, hcz101_2, hcz101_3, hfz101_0, hfz101_1, hfz101_2, hfz101_3⟩ := cellsF4 BK361.out
    go_wp2
    refine bodyPost_ret (results_cell_row rfl _ _ gb361 78 #[.slice Ao99 x5_1.length co99, .int .i64 0, .int .i64 0, .int .i64 0] (0, 0) _ rfl (bq_ BK361) Try.underlying78 rfl (by kernel_rfl)) rfl ?_
    exact ⟨_, au4_0, by (with_reducible repeat (first | apply Kd.S_alloc | apply Kd.S_drewN | apply Kd.S_drew)); exact Kd.S_mono (Kd.S_far (p := ⟨gb361, 3, none⟩) (Kd.S_far (p := ⟨gb361, 2, none⟩) (Kd.S_far (p := ⟨gb361, 1, none⟩) (Kd.S_far (p := ⟨gb361, 0, none⟩) (Kd.S_types HO_5.out BK361.out (by decide)) (fun _ hk => hk.2) (.slice Ao99 x5_1.length co99)) (fun _ hk => hk.2) (.int .i64 0)) (fun _ hk => hk.2) (.int .i64 0)) (fun _ hk => hk.2) (.int .i64 0)) (fun _ hk => trivial), bl_⟩
   by_cases c25 : 0 ≤ x6_1
   rotate_left
   ·rw [if_neg c25] at H
    exact absurd H (by simp)
   rw [if_pos c25] at H
   have c25b0 := eq_true c25
   have c25b1 : decide (0 ≤ x6_1) = true := decide_eq_true c25
   clear c25
   by_cases c26 : x6_1 ≤ (a1.size : Int)
   rotate_left
   ·rw [if_neg c26] at H
    exact absurd H (by simp)
   rw [if_pos c26] at H
   have c26b0 := eq_true c26
   have c26b1 : decide (x6_1 ≤ (a1.size : Int)) = true := decide_eq_true c26
   clear c26
   replace H := bi_ H; rcases H with ⟨⟨t370, t371, t374, t375, t376⟩, A27, H⟩
   by_cases c28 : (x5_1.length : Int) = 200
   ·rw [if_pos c28] at H
    have c28b0 : ((x5_1.length : Int) == 200) = true := beq_iff_eq.mpr c28
    have c28b1 : ((x5_1.length : Int) != 200) = false := bne_eq_false_iff_eq.mpr c28
    clear c28
    by_cases c29 : 7 = 0
    ·exact absurd c29 (by decide)
    rw [if_neg c29] at H
    have c29b0 : (7 == 0) = false := beq_eq_false_iff_ne.mpr c29
    have c29b1 : (7 != 0) = true := bne_iff_ne.mpr c29
    simp only [Option.some.injEq, Prod.mk.injEq] at H
    obtain ⟨rfl, rfl, rfl, rfl⟩ := H
    try go_wp2
    replace HO_5 := am_ (Kd.S_drew HO_5.out)
    replace BK360 := bd_ BK360
    replace BK361 := bd_ BK361
    replace HB := am_ (below_drew1 HB.out)
    refine start_ (n := 7) (S := fun w' => w'.cell? ⟨gb360, 0, none⟩ = some (.int .i64 a0_0) ∧ w'.cell? ⟨gb360, 1, none⟩ = some (.int .i64 a0_1) ∧ w'.cell? ⟨gb360, 2, none⟩ = some (.int .i64 a0_2) ∧ w'.cell? ⟨gb360, 3, none⟩ = some (.int .i64 a0_3)) (ds := []) (bs 7 0) (by kernel_rfl) rfl rfl ⟨(blk_cell BK360.out 0).trans rfl, (blk_cell BK360.out 1).trans rfl, (blk_cell BK360.out 2).trans rfl, (blk_cell BK360.out 3).trans rfl⟩ (fun hHeld => ?_)
    generalize wr.drew = w48 at HO_5 BK360 BK361 HB hHeld ⊢
    refine pk_ 1 24 (bs 7 2) ?_ rfl rfl
    refine pk_ 2 25 (bs 7 6) ?_ rfl rfl
    refine pk_ 3 26 (bs 7 14) ?_ rfl rfl
    refine take_ (i := 0) (N := some 23) (v := ?_) (a' := ?_) (bs 7 15) rfl rfl (by kernel_rfl) (fun _ _ _ h => h) (Or.inl ⟨by rfl, ?_⟩) hHeld ?_ ?_
    rotate_left
    ·rintro w' ⟨s0, s1, s2, s3⟩
     go_simp
     with_reducible rfl
    rotate_left
    ·simp only [Act.put, List.setIfInBounds_toArray, List.set_cons_zero, List.set_cons_succ, i64_w, i32_w]
     rfl
    refine join_ (σ := Value × Nat) 1 (bs 7 63) (fun s_ => [(27, .agg #[.string t370, s_.1, .int .i64 t374, .int .i64 t375, .int .i64 t376]), (7, .pointer (some ⟨s_.2, 0, none⟩))]) (fun s_ w' => (w'.cell? ⟨gb360, 0, none⟩ = some (.int .i64 a0_0) ∧ w'.cell? ⟨gb360, 1, none⟩ = some (.int .i64 a0_1) ∧ w'.cell? ⟨gb360, 2, none⟩ = some (.int .i64 a0_2) ∧ w'.cell? ⟨gb360, 3, none⟩ = some (.int .i64 a0_3)) ∧ (Kd.S k102 102 w' w.heap.size (fun _ => True) s_.1 t371) ∧ (Kd.S k59 59 w' w.heap.size (fun k_ => some k_ ≠ (s_.1 : Value).ownBlock) u5 x5_1) ∧ (w'.heap[gb360]? = some (.cells #[.int .i64 a0_0, .int .i64 a0_1, .int .i64 a0_2, .int .i64 a0_3] 23 (0, 0))) ∧ (w'.heap[gb361]? = some (.cells #[.slice none 0 0, .int .i64 x362001_1, .int .i64 x362002_1, .int .i64 x362003_1] 78 (0, 0))) ∧ (w'.heap[s_.2]? = some (.cells #[.string (⟨#[]⟩ : ByteArray), .slice none 0 0, .int .i64 0, .int .i64 0, .int .i64 0] 66 (0, 0))) ∧ (w.heap.size ≤ s_.2) ∧ (w.heap.size ≤ s_.2) ∧ (gb360 ≠ s_.2) ∧ (s_.2 ≠ gb360) ∧ (gb361 ≠ s_.2) ∧ (s_.2 ≠ gb361) ∧ (Below w.heap.size w w')) ?_ ?_
    rotate_left
    ·intro hCont
     refine two_ (i := 4) (j := 5) (Ni := some 27) (Nj := some 7) (bs 7 31) (bs 7 47) rfl rfl rfl rfl (by kernel_rfl) (by decide) (by decide) (fun K hK => ?_) (fun K hK => ?_)
     rotate_left
     ·skip
      refine box_step ?hg (N := 7) ?hd (cs := #[.string (⟨#[]⟩ : ByteArray), .slice none 0 0, .int .i64 0, .int .i64 0, .int .i64 0]) (t := 66) ?hr ?_; (case hd => rfl); (case hg => rfl); (case hr => exact hr_)
      intro gb377 hg w49 hbox hb
      replace HO_5 := am_ (Kd.S_below au4_2 hb)
      have BK377 := am_ (hbox)
      have GW377 := am_ (gw_ hg bl_)
      have GE377 := am_ (gw_ hg bl_)
      replace HB := hs_ w hb
      have NB360_377 := am_ (gn_ hg (blkl_ BK360))
      have NB377_360 := am_ (gm_ hg (blkl_ BK360))
      replace BK360 := bb_ BK360 hb
      have NB361_377 := am_ (gn_ hg (blkl_ BK361))
      have NB377_361 := am_ (gm_ hg (blkl_ BK361))
      replace BK361 := bb_ BK361 hb
      clear hb hbox hg
      refine hK.out _ _ ⟨(blk_cell BK360.out 0).trans rfl, (blk_cell BK360.out 1).trans rfl, (blk_cell BK360.out 2).trans rfl, (blk_cell BK360.out 3).trans rfl⟩ (fun hHeld => ?_)
      clear hK K
      refine no_ 7 ?_
      refine one_ (i := 4) (N := some 27) (bs 7 63) rfl rfl (by kernel_rfl) (by decide) (fun K hK => ?_)
      refine gr_ Try.func41 #[.agg #[.int .i64 a0_0, .int .i64 a0_1, .int .i64 a0_2, .int .i64 a0_3], .string (a1.extract (x6_1 : Int).toNat a1.size)] (by rfl) ?_ rfl rfl rfl
      with_reducible refine (F41.calls k1 a0_0 a0_1 a0_2 a0_3 (a1.extract (x6_1 : Int).toNat a1.size) t370 t371 t374 t375 t376 _ A27.out).mono ?_
      rintro e w50 ⟨v372, rfl, ho0, hb⟩
      refine ⟨_, rfl, ?_⟩
      replace HO_5 := am_ (Kd.S_elder' au4_2 (Kd.S_base ho0) hb)
      have HO373 := am_ (Kd.S_lower ho0 (below_size bl_))
      replace BK360 := bb_ BK360 hb
      replace BK361 := bb_ BK361 hb
      replace BK377 := bb_ BK377 hb
      replace HB := hs_ w hb
      (try clear hb)
      (try clear hb2)
      (try clear hk)
      (try clear hi)
      (try clear ho0)
      refine hK.out _ _ ⟨(blk_cell BK360.out 0).trans rfl, (blk_cell BK360.out 1).trans rfl, (blk_cell BK360.out 2).trans rfl, (blk_cell BK360.out 3).trans rfl⟩ (fun hHeld => ?_)
      clear hK K
      refine no_ 27 ?_
      exact norm_ au4_8 (hCont (v372, gb377) _ ⟨hHeld, au4_4, au4_7, (bk_ BK360), (bk_ BK361), (bk_ BK377), GW377.out, GE377.out, NB360_377.out, NB377_360.out, NB361_377.out, NB377_361.out, bl_⟩)
     skip
     refine gr_ Try.func41 #[.agg #[.int .i64 a0_0, .int .i64 a0_1, .int .i64 a0_2, .int .i64 a0_3], .string (a1.extract (x6_1 : Int).toNat a1.size)] (by rfl) ?_ rfl rfl rfl
     with_reducible refine (F41.calls k1 a0_0 a0_1 a0_2 a0_3 (a1.extract (x6_1 : Int).toNat a1.size) t370 t371 t374 t375 t376 _ A27.out).mono ?_
     rintro e w49 ⟨v372, rfl, ho0, hb⟩
     refine ⟨_, rfl, ?_⟩
     replace HO_5 := am_ (Kd.S_elder' au4_2 (Kd.S_base ho0) hb)
     have HO373 := am_ (Kd.S_lower ho0 (below_size bl_))
     replace BK360 := bb_ BK360 hb
     replace BK361 := bb_ BK361 hb
     replace HB := hs_ w hb
     (try clear hb)
     (try clear hb2)
     (try clear hk)
     (try clear hi)
     (try clear ho0)
     refine hK.out _ _ ⟨(blk_cell BK360.out 0).trans rfl, (blk_cell BK360.out 1).trans rfl, (blk_cell BK360.out 2).trans rfl, (blk_cell BK360.out 3).trans rfl⟩ (fun hHeld => ?_)
     clear hK K
     refine no_ 27 ?_
     refine one_ (i := 5) (N := some 7) (bs 7 63) rfl rfl (by kernel_rfl) (by decide) (fun K hK => ?_)
     refine box_step ?hg (N := 7) ?hd (cs := #[.string (⟨#[]⟩ : ByteArray), .slice none 0 0, .int .i64 0, .int .i64 0, .int .i64 0]) (t := 66) ?hr ?_; (case hd => rfl); (case hg => rfl); (case hr => exact hr_)
     intro gb377 hg w50 hbox hb
     replace HO_5 := am_ (Kd.S_below au4_2 hb)
     replace HO373 := am_ (Kd.S_below au4_4 hb)
     have BK377 := am_ (hbox)
     have GW377 := am_ (gw_ hg bl_)
     have GE377 := am_ (gw_ hg bl_)
     replace HB := hs_ w hb
     have NB360_377 := am_ (gn_ hg (blkl_ BK360))
     have NB377_360 := am_ (gm_ hg (blkl_ BK360))
     replace BK360 := bb_ BK360 hb
     have NB361_377 := am_ (gn_ hg (blkl_ BK361))
     have NB377_361 := am_ (gm_ hg (blkl_ BK361))
     replace BK361 := bb_ BK361 hb
     clear hb hbox hg
     refine hK.out _ _ ⟨(blk_cell BK360.out 0).trans rfl, (blk_cell BK360.out 1).trans rfl, (blk_cell BK360.out 2).trans rfl, (blk_cell BK360.out 3).trans rfl⟩ (fun hHeld => ?_)
     clear hK K
     refine no_ 7 ?_
     exact norm_ au4_8 (hCont (v372, gb377) _ ⟨hHeld, au4_4, au4_7, (bk_ BK360), (bk_ BK361), (bk_ BK377), GW377.out, GE377.out, NB360_377.out, NB377_360.out, NB361_377.out, NB377_361.out, bl_⟩)
    rintro ⟨v372, gb377⟩ w51 ⟨hS_, h0_, h1_, h2_, h3_, h4_, h5_, h6_, h7_, h8_, h9_, h10_, h11_⟩
    have n0_ : Aside0 (Kd.S k102 102 w51 w.heap.size (fun _ => True) v372 t371) := ⟨h0_⟩
    have n1_ : Aside0 (Kd.S k59 59 w51 w.heap.size (fun k_ => some k_ ≠ (v372 : Value).ownBlock) u5 x5_1) := ⟨h1_⟩
    have n2_ : Aside0 (w51.heap[gb360]? = some (.cells #[.int .i64 a0_0, .int .i64 a0_1, .int .i64 a0_2, .int .i64 a0_3] 23 (0, 0))) := ⟨h2_⟩
    have n3_ : Aside0 (w51.heap[gb361]? = some (.cells #[.slice none 0 0, .int .i64 x362001_1, .int .i64 x362002_1, .int .i64 x362003_1] 78 (0, 0))) := ⟨h3_⟩
    have n4_ : Aside0 (w51.heap[gb377]? = some (.cells #[.string (⟨#[]⟩ : ByteArray), .slice none 0 0, .int .i64 0, .int .i64 0, .int .i64 0] 66 (0, 0))) := ⟨h4_⟩
    have n5_ : Aside0 (w.heap.size ≤ gb377) := ⟨h5_⟩
    have n6_ : Aside0 (w.heap.size ≤ gb377) := ⟨h6_⟩
    have n7_ : Aside0 (gb360 ≠ gb377) := ⟨h7_⟩
    have n8_ : Aside0 (gb377 ≠ gb360) := ⟨h8_⟩
    have n9_ : Aside0 (gb361 ≠ gb377) := ⟨h9_⟩
    have n10_ : Aside0 (gb377 ≠ gb361) := ⟨h10_⟩
    have n11_ : Aside0 (Below w.heap.size w w51) := ⟨h11_⟩
    clear HO_5
    clear BK360
    clear BK361
    clear HB
    clear h0_ h1_ h2_ h3_ h4_ h5_ h6_ h7_ h8_ h9_ h10_ h11_
    have HO373 := n0_
    have HO_5 := n1_
    have BK360 := n2_
    have BK361 := n3_
    have BK377 := n4_
    have GW377 := n5_
    have GE377 := n6_
    have NB360_377 := n7_
    have NB377_360 := n8_
    have NB361_377 := n9_
    have NB377_361 := n10_
    have HB := n11_
    clear n0_ n1_ n2_ n3_ n4_ n5_ n6_ n7_ n8_ n9_ n10_ n11_
    have hHeld : w51.cell? ⟨gb360, 0, none⟩ = some (.int .i64 a0_0) ∧ w51.cell? ⟨gb360, 1, none⟩ = some (.int .i64 a0_1) ∧ w51.cell? ⟨gb360, 2, none⟩ = some (.int .i64 a0_2) ∧ w51.cell? ⟨gb360, 3, none⟩ = some (.int .i64 a0_3) := hS_
    obtain ⟨Ao53, co53, eo53⟩ := Kd.S_slice HO373.out
    (first | subst eo53 | (injection eo53 with f1_ f2_ f3_; have f4_ := f1_.symm; have f5_ := f3_.symm; clear f1_ f2_ f3_; subst f4_; subst f5_))
    refine norm_ (a' := ?_) ?_ ?_
    rotate_left
    ·simp only [putAll, Act.put, List.setIfInBounds_toArray, List.set_cons_zero, List.set_cons_succ]
     rfl
    refine one_ (i := 6) (N := none) (bs 7 127) rfl rfl (by kernel_rfl) (by decide) (fun K hK => ?_)
    have hs52 : w51.cell? ⟨gb377, 0, none⟩ = some (.string (⟨#[]⟩ : ByteArray)) := (blk_cell BK377.out 0).trans rfl
    have hfs52 := blk_frozen BK377.out 0
    have hns52_0 := NB360_377.out
    have hns52_1 := NB361_377.out
    have hms52_0 := NB377_360.out
    have hms52_1 := NB377_361.out
    have hs54 : w51.cell? ⟨gb377, 1, none⟩ = some (.slice none 0 0) := (blk_cell BK377.out 1).trans rfl
    have hfs54 := blk_frozen BK377.out 1
    have hns54_0 := NB360_377.out
    have hns54_1 := NB361_377.out
    have hms54_0 := NB377_360.out
    have hms54_1 := NB377_361.out
    have hs55 : w51.cell? ⟨gb377, 2, none⟩ = some (.int .i64 0) := (blk_cell BK377.out 2).trans rfl
    have hfs55 := blk_frozen BK377.out 2
    have hns55_0 := NB360_377.out
    have hns55_1 := NB361_377.out
    have hms55_0 := NB377_360.out
    have hms55_1 := NB377_361.out
    have hs56 : w51.cell? ⟨gb377, 3, none⟩ = some (.int .i64 0) := (blk_cell BK377.out 3).trans rfl
    have hfs56 := blk_frozen BK377.out 3
    have hns56_0 := NB360_377.out
    have hns56_1 := NB361_377.out
    have hms56_0 := NB377_360.out
    have hms56_1 := NB377_361.out
    have hs57 : w51.cell? ⟨gb377, 4, none⟩ = some (.int .i64 0) := (blk_cell BK377.out 4).trans rfl
    have hfs57 := blk_frozen BK377.out 4
    have hns57_0 := NB360_377.out
    have hns57_1 := NB361_377.out
    have hms57_0 := NB377_360.out
    have hms57_1 := NB377_361.out
    refine skip_ (w1 := ?_) (by rfl) rfl ?_ ?_
    rotate_left
    ·go_simp
     rfl
    refine hK.out _ _ ⟨((cell_far (p := ⟨gb377, _, none⟩) NB360_377.out _).trans (((cell_far (p := ⟨gb377, _, none⟩) NB360_377.out _).trans (((cell_far (p := ⟨gb377, _, none⟩) NB360_377.out _).trans (((cell_far (p := ⟨gb377, _, none⟩) NB360_377.out _).trans (((cell_far (p := ⟨gb377, _, none⟩) NB360_377.out _).trans (hHeld.1)))))))))), ((cell_far (p := ⟨gb377, _, none⟩) NB360_377.out _).trans (((cell_far (p := ⟨gb377, _, none⟩) NB360_377.out _).trans (((cell_far (p := ⟨gb377, _, none⟩) NB360_377.out _).trans (((cell_far (p := ⟨gb377, _, none⟩) NB360_377.out _).trans (((cell_far (p := ⟨gb377, _, none⟩) NB360_377.out _).trans (hHeld.2.1)))))))))), ((cell_far (p := ⟨gb377, _, none⟩) NB360_377.out _).trans (((cell_far (p := ⟨gb377, _, none⟩) NB360_377.out _).trans (((cell_far (p := ⟨gb377, _, none⟩) NB360_377.out _).trans (((cell_far (p := ⟨gb377, _, none⟩) NB360_377.out _).trans (((cell_far (p := ⟨gb377, _, none⟩) NB360_377.out _).trans (hHeld.2.2.1)))))))))), ((cell_far (p := ⟨gb377, _, none⟩) NB360_377.out _).trans (((cell_far (p := ⟨gb377, _, none⟩) NB360_377.out _).trans (((cell_far (p := ⟨gb377, _, none⟩) NB360_377.out _).trans (((cell_far (p := ⟨gb377, _, none⟩) NB360_377.out _).trans (((cell_far (p := ⟨gb377, _, none⟩) NB360_377.out _).trans (hHeld.2.2.2))))))))))⟩ (fun hHeld => ?_)
    clear hK K
    refine done_ (by kernel_rfl) ?_
    obtain ⟨Ao58, co58, eo58⟩ := Kd.S_slice HO_5.out
    subst eo58
    refine fo_ ?_
    intro w52_ hw52_
    replace BK377 := am_ (show w52_.heap[gb377]? = some (.cells #[.string t370, .slice Ao53 t371.length co53, .int .i64 t374, .int .i64 t375, .int .i64 t376] 66 (0, 0)) from by rw [hw52_]; exact bq_ BK377)
    replace BK360 := fb_ hw52_ BK360
    replace BK361 := fb_ hw52_ BK361
    replace HB := am_ (show Below w.heap.size w w52_ from by rw [hw52_]; exact bl_)
    clear hw52_
    have hnb59 := NB377_360.out
    have hnc59 := NB360_377.out
    have hnb60 := NB377_361.out
    have hnc60 := NB361_377.out
    obtain ⟨hcz61_0, hcz61_1, hcz61_2, hcz61_3, hcz61_4, hfz61_0, hfz61_1, hfz61_2, hfz61_3, hfz61_4⟩ := cellsF5 BK377.out
    have hnb62 := NB361_360.out
    have hnc62 := NB360_361.out
    obtain ⟨hcz63_0, hcz63_1, hcz63_2, hcz63_3, hfz63_0, hfz63_1, hfz63_2, hfz63_3⟩ := cellsF4 BK361.out
    try go_wp2
    refine bodyPost_ret (results_cell_row rfl _ _ gb361 78 #[.slice none 0 0, .int .i64 (wrap64 x6_1), .int .i64 (x5_1.length : Int), .int .i64 7] (0, 0) _ rfl (bq_ BK361) Try.underlying78 rfl (by kernel_rfl)) rfl ?_
    exact ⟨_, au4_0, au4_1, bl_⟩
   rw [if_neg c28] at H
   have c28b0 : ((x5_1.length : Int) == 200) = false := beq_eq_false_iff_ne.mpr c28
   have c28b1 : ((x5_1.length : Int) != 200) = true := bne_iff_ne.mpr c28
   by_cases c64 : t376 = 0
   rotate_left
   ·rw [if_neg c64] at H
    have c64b0 : (t376 == 0) = false := beq_eq_false_iff_ne.mpr c64
    have c64b1 : (t376 != 0) = true := bne_iff_ne.mpr c64
    simp only [Option.some.injEq, Prod.mk.injEq] at H
    obtain ⟨rfl, rfl, rfl, rfl⟩ := H
    try go_wp2
    replace HO_5 := am_ (Kd.S_drew HO_5.out)
    replace BK360 := bd_ BK360
    replace BK361 := bd_ BK361
    replace HB := am_ (below_drew1 HB.out)
    refine start_ (n := 7) (S := fun w' => w'.cell? ⟨gb360, 0, none⟩ = some (.int .i64 a0_0) ∧ w'.cell? ⟨gb360, 1, none⟩ = some (.int .i64 a0_1) ∧ w'.cell? ⟨gb360, 2, none⟩ = some (.int .i64 a0_2) ∧ w'.cell? ⟨gb360, 3, none⟩ = some (.int .i64 a0_3)) (ds := []) (bs 7 0) (by kernel_rfl) rfl rfl ⟨(blk_cell BK360.out 0).trans rfl, (blk_cell BK360.out 1).trans rfl, (blk_cell BK360.out 2).trans rfl, (blk_cell BK360.out 3).trans rfl⟩ (fun hHeld => ?_)
    generalize wr.drew = w83 at HO_5 BK360 BK361 HB hHeld ⊢
    refine pk_ 1 24 (bs 7 2) ?_ rfl rfl
    refine pk_ 2 25 (bs 7 6) ?_ rfl rfl
    refine pk_ 3 26 (bs 7 14) ?_ rfl rfl
    refine take_ (i := 0) (N := some 23) (v := ?_) (a' := ?_) (bs 7 15) rfl rfl (by kernel_rfl) (fun _ _ _ h => h) (Or.inl ⟨by rfl, ?_⟩) hHeld ?_ ?_
    rotate_left
    ·rintro w' ⟨s0, s1, s2, s3⟩
     go_simp
     with_reducible rfl
    rotate_left
    ·simp only [Act.put, List.setIfInBounds_toArray, List.set_cons_zero, List.set_cons_succ, i64_w, i32_w]
     rfl
    refine join_ (σ := Value × Nat) 1 (bs 7 63) (fun s_ => [(27, .agg #[.string t370, s_.1, .int .i64 t374, .int .i64 t375, .int .i64 t376]), (7, .pointer (some ⟨s_.2, 0, none⟩))]) (fun s_ w' => (w'.cell? ⟨gb360, 0, none⟩ = some (.int .i64 a0_0) ∧ w'.cell? ⟨gb360, 1, none⟩ = some (.int .i64 a0_1) ∧ w'.cell? ⟨gb360, 2, none⟩ = some (.int .i64 a0_2) ∧ w'.cell? ⟨gb360, 3, none⟩ = some (.int .i64 a0_3)) ∧ (Kd.S k102 102 w' w.heap.size (fun _ => True) s_.1 t371) ∧ (Kd.S k59 59 w' w.heap.size (fun k_ => some k_ ≠ (s_.1 : Value).ownBlock) u5 x5_1) ∧ (w'.heap[gb360]? = some (.cells #[.int .i64 a0_0, .int .i64 a0_1, .int .i64 a0_2, .int .i64 a0_3] 23 (0, 0))) ∧ (w'.heap[gb361]? = some (.cells #[.slice none 0 0, .int .i64 x362001_1, .int .i64 x362002_1, .int .i64 x362003_1] 78 (0, 0))) ∧ (w'.heap[s_.2]? = some (.cells #[.string (⟨#[]⟩ : ByteArray), .slice none 0 0, .int .i64 0, .int .i64 0, .int .i64 0] 66 (0, 0))) ∧ (w.heap.size ≤ s_.2) ∧ (w.heap.size ≤ s_.2) ∧ (gb360 ≠ s_.2) ∧ (s_.2 ≠ gb360) ∧ (gb361 ≠ s_.2) ∧ (s_.2 ≠ gb361) ∧ (Below w.heap.size w w')) ?_ ?_
    rotate_left
    ·intro hCont
     refine two_ (i := 4) (j := 5) (Ni := some 27) (Nj := some 7) (bs 7 31) (bs 7 47) rfl rfl rfl rfl (by kernel_rfl) (by decide) (by decide) (fun K hK => ?_) (fun K hK => ?_)
     rotate_left
     ·skip
      refine box_step ?hg (N := 7) ?hd (cs := #[.string (⟨#[]⟩ : ByteArray), .slice none 0 0, .int .i64 0, .int .i64 0, .int .i64 0]) (t := 66) ?hr ?_; (case hd => rfl); (case hg => rfl); (case hr => exact hr_)
      intro gb377 hg w84 hbox hb
      replace HO_5 := am_ (Kd.S_below au4_2 hb)
      have BK377 := am_ (hbox)
      have GW377 := am_ (gw_ hg bl_)
      have GE377 := am_ (gw_ hg bl_)
      replace HB := hs_ w hb
      have NB360_377 := am_ (gn_ hg (blkl_ BK360))
      have NB377_360 := am_ (gm_ hg (blkl_ BK360))
      replace BK360 := bb_ BK360 hb
      have NB361_377 := am_ (gn_ hg (blkl_ BK361))
      have NB377_361 := am_ (gm_ hg (blkl_ BK361))
      replace BK361 := bb_ BK361 hb
      clear hb hbox hg
      refine hK.out _ _ ⟨(blk_cell BK360.out 0).trans rfl, (blk_cell BK360.out 1).trans rfl, (blk_cell BK360.out 2).trans rfl, (blk_cell BK360.out 3).trans rfl⟩ (fun hHeld => ?_)
      clear hK K
      refine no_ 7 ?_
      refine one_ (i := 4) (N := some 27) (bs 7 63) rfl rfl (by kernel_rfl) (by decide) (fun K hK => ?_)
      refine gr_ Try.func41 #[.agg #[.int .i64 a0_0, .int .i64 a0_1, .int .i64 a0_2, .int .i64 a0_3], .string (a1.extract (x6_1 : Int).toNat a1.size)] (by rfl) ?_ rfl rfl rfl
      with_reducible refine (F41.calls k1 a0_0 a0_1 a0_2 a0_3 (a1.extract (x6_1 : Int).toNat a1.size) t370 t371 t374 t375 t376 _ A27.out).mono ?_
      rintro e w85 ⟨v372, rfl, ho0, hb⟩
      refine ⟨_, rfl, ?_⟩
      replace HO_5 := am_ (Kd.S_elder' au4_2 (Kd.S_base ho0) hb)
      have HO373 := am_ (Kd.S_lower ho0 (below_size bl_))
      replace BK360 := bb_ BK360 hb
      replace BK361 := bb_ BK361 hb
      replace BK377 := bb_ BK377 hb
      replace HB := hs_ w hb
      (try clear hb)
      (try clear hb2)
      (try clear hk)
      (try clear hi)
      (try clear ho0)
      refine hK.out _ _ ⟨(blk_cell BK360.out 0).trans rfl, (blk_cell BK360.out 1).trans rfl, (blk_cell BK360.out 2).trans rfl, (blk_cell BK360.out 3).trans rfl⟩ (fun hHeld => ?_)
      clear hK K
      refine no_ 27 ?_
      exact norm_ au4_8 (hCont (v372, gb377) _ ⟨hHeld, au4_4, au4_7, (bk_ BK360), (bk_ BK361), (bk_ BK377), GW377.out, GE377.out, NB360_377.out, NB377_360.out, NB361_377.out, NB377_361.out, bl_⟩)
     skip
     refine gr_ Try.func41 #[.agg #[.int .i64 a0_0, .int .i64 a0_1, .int .i64 a0_2, .int .i64 a0_3], .string (a1.extract (x6_1 : Int).toNat a1.size)] (by rfl) ?_ rfl rfl rfl
     with_reducible refine (F41.calls k1 a0_0 a0_1 a0_2 a0_3 (a1.extract (x6_1 : Int).toNat a1.size) t370 t371 t374 t375 t376 _ A27.out).mono ?_
     rintro e w84 ⟨v372, rfl, ho0, hb⟩
     refine ⟨_, rfl, ?_⟩
     replace HO_5 := am_ (Kd.S_elder' au4_2 (Kd.S_base ho0) hb)
     have HO373 := am_ (Kd.S_lower ho0 (below_size bl_))
     replace BK360 := bb_ BK360 hb
     replace BK361 := bb_ BK361 hb
     replace HB := hs_ w hb
     (try clear hb)
     (try clear hb2)
     (try clear hk)
     (try clear hi)
     (try clear ho0)
     refine hK.out _ _ ⟨(blk_cell BK360.out 0).trans rfl, (blk_cell BK360.out 1).trans rfl, (blk_cell BK360.out 2).trans rfl, (blk_cell BK360.out 3).trans rfl⟩ (fun hHeld => ?_)
     clear hK K
     refine no_ 27 ?_
     refine one_ (i := 5) (N := some 7) (bs 7 63) rfl rfl (by kernel_rfl) (by decide) (fun K hK => ?_)
     refine box_step ?hg (N := 7) ?hd (cs := #[.string (⟨#[]⟩ : ByteArray), .slice none 0 0, .int .i64 0, .int .i64 0, .int .i64 0]) (t := 66) ?hr ?_; (case hd => rfl); (case hg => rfl); (case hr => exact hr_)
     intro gb377 hg w85 hbox hb
     replace HO_5 := am_ (Kd.S_below au4_2 hb)
     replace HO373 := am_ (Kd.S_below au4_4 hb)
     have BK377 := am_ (hbox)
     have GW377 := am_ (gw_ hg bl_)
     have GE377 := am_ (gw_ hg bl_)
     replace HB := hs_ w hb
     have NB360_377 := am_ (gn_ hg (blkl_ BK360))
     have NB377_360 := am_ (gm_ hg (blkl_ BK360))
     replace BK360 := bb_ BK360 hb
     have NB361_377 := am_ (gn_ hg (blkl_ BK361))
     have NB377_361 := am_ (gm_ hg (blkl_ BK361))
     replace BK361 := bb_ BK361 hb
     clear hb hbox hg
     refine hK.out _ _ ⟨(blk_cell BK360.out 0).trans rfl, (blk_cell BK360.out 1).trans rfl, (blk_cell BK360.out 2).trans rfl, (blk_cell BK360.out 3).trans rfl⟩ (fun hHeld => ?_)
     clear hK K
     refine no_ 7 ?_
     exact norm_ au4_8 (hCont (v372, gb377) _ ⟨hHeld, au4_4, au4_7, (bk_ BK360), (bk_ BK361), (bk_ BK377), GW377.out, GE377.out, NB360_377.out, NB377_360.out, NB361_377.out, NB377_361.out, bl_⟩)
    rintro ⟨v372, gb377⟩ w86 ⟨hS_, h0_, h1_, h2_, h3_, h4_, h5_, h6_, h7_, h8_, h9_, h10_, h11_⟩
    have n0_ : Aside0 (Kd.S k102 102 w86 w.heap.size (fun _ => True) v372 t371) := ⟨h0_⟩
    have n1_ : Aside0 (Kd.S k59 59 w86 w.heap.size (fun k_ => some k_ ≠ (v372 : Value).ownBlock) u5 x5_1) := ⟨h1_⟩
    have n2_ : Aside0 (w86.heap[gb360]? = some (.cells #[.int .i64 a0_0, .int .i64 a0_1, .int .i64 a0_2, .int .i64 a0_3] 23 (0, 0))) := ⟨h2_⟩
    have n3_ : Aside0 (w86.heap[gb361]? = some (.cells #[.slice none 0 0, .int .i64 x362001_1, .int .i64 x362002_1, .int .i64 x362003_1] 78 (0, 0))) := ⟨h3_⟩
    have n4_ : Aside0 (w86.heap[gb377]? = some (.cells #[.string (⟨#[]⟩ : ByteArray), .slice none 0 0, .int .i64 0, .int .i64 0, .int .i64 0] 66 (0, 0))) := ⟨h4_⟩
    have n5_ : Aside0 (w.heap.size ≤ gb377) := ⟨h5_⟩
    have n6_ : Aside0 (w.heap.size ≤ gb377) := ⟨h6_⟩
    have n7_ : Aside0 (gb360 ≠ gb377) := ⟨h7_⟩
    have n8_ : Aside0 (gb377 ≠ gb360) := ⟨h8_⟩
    have n9_ : Aside0 (gb361 ≠ gb377) := ⟨h9_⟩
    have n10_ : Aside0 (gb377 ≠ gb361) := ⟨h10_⟩
    have n11_ : Aside0 (Below w.heap.size w w86) := ⟨h11_⟩
    clear HO_5
    clear BK360
    clear BK361
    clear HB
    clear h0_ h1_ h2_ h3_ h4_ h5_ h6_ h7_ h8_ h9_ h10_ h11_
    have HO373 := n0_
    have HO_5 := n1_
    have BK360 := n2_
    have BK361 := n3_
    have BK377 := n4_
    have GW377 := n5_
    have GE377 := n6_
    have NB360_377 := n7_
    have NB377_360 := n8_
    have NB361_377 := n9_
    have NB377_361 := n10_
    have HB := n11_
    clear n0_ n1_ n2_ n3_ n4_ n5_ n6_ n7_ n8_ n9_ n10_ n11_
    have hHeld : w86.cell? ⟨gb360, 0, none⟩ = some (.int .i64 a0_0) ∧ w86.cell? ⟨gb360, 1, none⟩ = some (.int .i64 a0_1) ∧ w86.cell? ⟨gb360, 2, none⟩ = some (.int .i64 a0_2) ∧ w86.cell? ⟨gb360, 3, none⟩ = some (.int .i64 a0_3) := hS_
    obtain ⟨Ao88, co88, eo88⟩ := Kd.S_slice HO373.out
    (first | subst eo88 | (injection eo88 with f1_ f2_ f3_; have f4_ := f1_.symm; have f5_ := f3_.symm; clear f1_ f2_ f3_; subst f4_; subst f5_))
    refine norm_ (a' := ?_) ?_ ?_
    rotate_left
    ·simp only [putAll, Act.put, List.setIfInBounds_toArray, List.set_cons_zero, List.set_cons_succ]
     rfl
    refine one_ (i := 6) (N := none) (bs 7 127) rfl rfl (by kernel_rfl) (by decide) (fun K hK => ?_)
    have hs87 : w86.cell? ⟨gb377, 0, none⟩ = some (.string (⟨#[]⟩ : ByteArray)) := (blk_cell BK377.out 0).trans rfl
    have hfs87 := blk_frozen BK377.out 0
    have hns87_0 := NB360_377.out
    have hns87_1 := NB361_377.out
    have hms87_0 := NB377_360.out
    have hms87_1 := NB377_361.out
    have hs89 : w86.cell? ⟨gb377, 1, none⟩ = some (.slice none 0 0) := (blk_cell BK377.out 1).trans rfl
    have hfs89 := blk_frozen BK377.out 1
    have hns89_0 := NB360_377.out
    have hns89_1 := NB361_377.out
    have hms89_0 := NB377_360.out
    have hms89_1 := NB377_361.out
    have hs90 : w86.cell? ⟨gb377, 2, none⟩ = some (.int .i64 0) := (blk_cell BK377.out 2).trans rfl
    have hfs90 := blk_frozen BK377.out 2
    have hns90_0 := NB360_377.out
    have hns90_1 := NB361_377.out
    have hms90_0 := NB377_360.out
    have hms90_1 := NB377_361.out
    have hs91 : w86.cell? ⟨gb377, 3, none⟩ = some (.int .i64 0) := (blk_cell BK377.out 3).trans rfl
    have hfs91 := blk_frozen BK377.out 3
    have hns91_0 := NB360_377.out
    have hns91_1 := NB361_377.out
    have hms91_0 := NB377_360.out
    have hms91_1 := NB377_361.out
    have hs92 : w86.cell? ⟨gb377, 4, none⟩ = some (.int .i64 0) := (blk_cell BK377.out 4).trans rfl
    have hfs92 := blk_frozen BK377.out 4
    have hns92_0 := NB360_377.out
    have hns92_1 := NB361_377.out
    have hms92_0 := NB377_360.out
    have hms92_1 := NB377_361.out
    refine skip_ (w1 := ?_) (by rfl) rfl ?_ ?_
    rotate_left
    ·go_simp
     rfl
    refine hK.out _ _ ⟨((cell_far (p := ⟨gb377, _, none⟩) NB360_377.out _).trans (((cell_far (p := ⟨gb377, _, none⟩) NB360_377.out _).trans (((cell_far (p := ⟨gb377, _, none⟩) NB360_377.out _).trans (((cell_far (p := ⟨gb377, _, none⟩) NB360_377.out _).trans (((cell_far (p := ⟨gb377, _, none⟩) NB360_377.out _).trans (hHeld.1)))))))))), ((cell_far (p := ⟨gb377, _, none⟩) NB360_377.out _).trans (((cell_far (p := ⟨gb377, _, none⟩) NB360_377.out _).trans (((cell_far (p := ⟨gb377, _, none⟩) NB360_377.out _).trans (((cell_far (p := ⟨gb377, _, none⟩) NB360_377.out _).trans (((cell_far (p := ⟨gb377, _, none⟩) NB360_377.out _).trans (hHeld.2.1)))))))))), ((cell_far (p := ⟨gb377, _, none⟩) NB360_377.out _).trans (((cell_far (p := ⟨gb377, _, none⟩) NB360_377.out _).trans (((cell_far (p := ⟨gb377, _, none⟩) NB360_377.out _).trans (((cell_far (p := ⟨gb377, _, none⟩) NB360_377.out _).trans (((cell_far (p := ⟨gb377, _, none⟩) NB360_377.out _).trans (hHeld.2.2.1)))))))))), ((cell_far (p := ⟨gb377, _, none⟩) NB360_377.out _).trans (((cell_far (p := ⟨gb377, _, none⟩) NB360_377.out _).trans (((cell_far (p := ⟨gb377, _, none⟩) NB360_377.out _).trans (((cell_far (p := ⟨gb377, _, none⟩) NB360_377.out _).trans (((cell_far (p := ⟨gb377, _, none⟩) NB360_377.out _).trans (hHeld.2.2.2))))))))))⟩ (fun hHeld => ?_)
    clear hK K
    refine done_ (by kernel_rfl) ?_
    obtain ⟨Ao93, co93, eo93⟩ := Kd.S_slice HO_5.out
    subst eo93
    have hnb94 := NB377_360.out
    have hnc94 := NB360_377.out
    have hnb95 := NB377_361.out
    have hnc95 := NB361_377.out
    obtain ⟨hcz96_0, hcz96_1, hcz96_2, hcz96_3, hcz96_4, hfz96_0, hfz96_1, hfz96_2, hfz96_3, hfz96_4⟩ := cellsF5 BK377.out
    have hnb97 := NB361_360.out
    have hnc97 := NB360_361.out
    obtain ⟨hcz98_0, hcz98_1, hcz98_2, hcz98_3, hfz98_0, hfz98_1, hfz98_2, hfz98_3⟩ := cellsF4 BK361.out
    try go_wp2
    refine bodyPost_ret (results_cell_row rfl _ _ gb361 78 #[.slice none 0 0, .int .i64 (wrap64 (x6_1 + t375)), .int .i64 (x5_1.length : Int), .int .i64 t376] (0, 0) _ rfl (bq_ BK361) Try.underlying78 rfl (by kernel_rfl)) rfl ?_
    exact ⟨_, au4_0, au4_1, bl_⟩
   rw [if_pos c64] at H
   have c64b0 : (t376 == 0) = true := beq_iff_eq.mpr c64
   have c64b1 : (t376 != 0) = false := bne_eq_false_iff_eq.mpr c64
   clear c64
   replace H := iln_ H; rcases H with ⟨LMc65, H⟩
   obtain ⟨y381, hy381⟩ : ∃ y_ : List (S59), y_ = (x5_1 ++ [(⟨t370, t371⟩ : S59)]) := ⟨_, rfl⟩
   replace H : (F51.l0 k1 a1 y381 (wrap64 (x6_1 + t374)) a0_0 a0_1 a0_2 a0_3) = some (r1, r2, r3, r4) := by first | (rw [hy381]; exact H) | exact H
   have Ny381 := am_ hy381
   clear hy381
   have H' := am_ H
   clear H
   try go_wp2
   replace HO_5 := am_ (Kd.S_drew HO_5.out)
   replace BK360 := bd_ BK360
   replace BK361 := bd_ BK361
   replace HB := am_ (below_drew1 HB.out)
   refine start_ (n := 7) (S := fun w' => w'.cell? ⟨gb360, 0, none⟩ = some (.int .i64 a0_0) ∧ w'.cell? ⟨gb360, 1, none⟩ = some (.int .i64 a0_1) ∧ w'.cell? ⟨gb360, 2, none⟩ = some (.int .i64 a0_2) ∧ w'.cell? ⟨gb360, 3, none⟩ = some (.int .i64 a0_3)) (ds := []) (bs 7 0) (by kernel_rfl) rfl rfl ⟨(blk_cell BK360.out 0).trans rfl, (blk_cell BK360.out 1).trans rfl, (blk_cell BK360.out 2).trans rfl, (blk_cell BK360.out 3).trans rfl⟩ (fun hHeld => ?_)
   generalize wr.drew = w66 at HO_5 BK360 BK361 HB hHeld ⊢
   replace HO_5 := am_ (Kd.S_mono (ok' := fun k_ => k_ < w66.heap.size) (Kd.S_bound HO_5.out) (fun k_ hk_ => hk_.2.2.1))
   have HWB := am_ (Nat.le_refl w66.heap.size)
   refine pk_ 1 24 (bs 7 2) ?_ rfl rfl
   refine pk_ 2 25 (bs 7 6) ?_ rfl rfl
   refine pk_ 3 26 (bs 7 14) ?_ rfl rfl
   refine take_ (i := 0) (N := some 23) (v := ?_) (a' := ?_) (bs 7 15) rfl rfl (by kernel_rfl) (fun _ _ _ h => h) (Or.inl ⟨by rfl, ?_⟩) hHeld ?_ ?_
   rotate_left
   ·rintro w' ⟨s0, s1, s2, s3⟩
    go_simp
    with_reducible rfl
   rotate_left
   ·simp only [Act.put, List.setIfInBounds_toArray, List.set_cons_zero, List.set_cons_succ, i64_w, i32_w]
    rfl
   refine join_ (σ := Value × Nat) 1 (bs 7 63) (fun s_ => [(27, .agg #[.string t370, s_.1, .int .i64 t374, .int .i64 t375, .int .i64 t376]), (7, .pointer (some ⟨s_.2, 0, none⟩))]) (fun s_ w' => (w'.cell? ⟨gb360, 0, none⟩ = some (.int .i64 a0_0) ∧ w'.cell? ⟨gb360, 1, none⟩ = some (.int .i64 a0_1) ∧ w'.cell? ⟨gb360, 2, none⟩ = some (.int .i64 a0_2) ∧ w'.cell? ⟨gb360, 3, none⟩ = some (.int .i64 a0_3)) ∧ (Kd.S k102 102 w' w.heap.size (fun k_ => w66.heap.size ≤ k_) s_.1 t371) ∧ (Kd.S k59 59 w' w.heap.size (fun k_ => k_ < w66.heap.size ∧ some k_ ≠ (s_.1 : Value).ownBlock) u5 x5_1) ∧ (w'.heap[gb360]? = some (.cells #[.int .i64 a0_0, .int .i64 a0_1, .int .i64 a0_2, .int .i64 a0_3] 23 (0, 0))) ∧ (w'.heap[gb361]? = some (.cells #[.slice none 0 0, .int .i64 x362001_1, .int .i64 x362002_1, .int .i64 x362003_1] 78 (0, 0))) ∧ (w'.heap[s_.2]? = some (.cells #[.string (⟨#[]⟩ : ByteArray), .slice none 0 0, .int .i64 0, .int .i64 0, .int .i64 0] 66 (0, 0))) ∧ (w.heap.size ≤ s_.2) ∧ (w.heap.size ≤ s_.2) ∧ (gb360 ≠ s_.2) ∧ (s_.2 ≠ gb360) ∧ (gb361 ≠ s_.2) ∧ (s_.2 ≠ gb361) ∧ (Below w.heap.size w w')) ?_ ?_
   rotate_left
   ·intro hCont
    refine two_ (i := 4) (j := 5) (Ni := some 27) (Nj := some 7) (bs 7 31) (bs 7 47) rfl rfl rfl rfl (by kernel_rfl) (by decide) (by decide) (fun K hK => ?_) (fun K hK => ?_)
    rotate_left
    ·skip
     refine box_step ?hg (N := 7) ?hd (cs := #[.string (⟨#[]⟩ : ByteArray), .slice none 0 0, .int .i64 0, .int .i64 0, .int .i64 0]) (t := 66) ?hr ?_; (case hd => rfl); (case hg => rfl); (case hr => exact hr_)
     intro gb377 hg w67 hbox hb
     (try replace HWB := am_ (Nat.le_trans HWB.out hb.size))
     replace HO_5 := am_ (Kd.S_below au4_2 hb)
     have BK377 := am_ (hbox)
     have GW377 := am_ (gw_ hg bl_)
     have GE377 := am_ (gw_ hg bl_)
     replace HB := hs_ w hb
     have NB360_377 := am_ (gn_ hg (blkl_ BK360))
     have NB377_360 := am_ (gm_ hg (blkl_ BK360))
     replace BK360 := bb_ BK360 hb
     have NB361_377 := am_ (gn_ hg (blkl_ BK361))
     have NB377_361 := am_ (gm_ hg (blkl_ BK361))
     replace BK361 := bb_ BK361 hb
     clear hb hbox hg
     refine hK.out _ _ ⟨(blk_cell BK360.out 0).trans rfl, (blk_cell BK360.out 1).trans rfl, (blk_cell BK360.out 2).trans rfl, (blk_cell BK360.out 3).trans rfl⟩ (fun hHeld => ?_)
     clear hK K
     refine no_ 7 ?_
     refine one_ (i := 4) (N := some 27) (bs 7 63) rfl rfl (by kernel_rfl) (by decide) (fun K hK => ?_)
     refine gr_ Try.func41 #[.agg #[.int .i64 a0_0, .int .i64 a0_1, .int .i64 a0_2, .int .i64 a0_3], .string (a1.extract (x6_1 : Int).toNat a1.size)] (by rfl) ?_ rfl rfl rfl
     with_reducible refine (F41.calls k1 a0_0 a0_1 a0_2 a0_3 (a1.extract (x6_1 : Int).toNat a1.size) t370 t371 t374 t375 t376 _ A27.out).mono ?_
     rintro e w68 ⟨v372, rfl, ho0, hb⟩
     refine ⟨_, rfl, ?_⟩
     replace HO_5 := am_ (Kd.S_elder' au4_2 (Kd.S_base ho0) hb)
     have HO373 := am_ (Kd.S_lower (Kd.S_mono (ok' := (fun k_ => w66.heap.size ≤ k_)) (Kd.S_bound ho0) (fun k_ hk_ => Nat.le_trans HWB.out hk_.2.1)) (below_size bl_))
     replace BK360 := bb_ BK360 hb
     replace BK361 := bb_ BK361 hb
     replace BK377 := bb_ BK377 hb
     replace HB := hs_ w hb
     (try clear hb)
     (try clear hb2)
     (try clear hk)
     (try clear hi)
     (try clear ho0)
     refine hK.out _ _ ⟨(blk_cell BK360.out 0).trans rfl, (blk_cell BK360.out 1).trans rfl, (blk_cell BK360.out 2).trans rfl, (blk_cell BK360.out 3).trans rfl⟩ (fun hHeld => ?_)
     clear hK K
     refine no_ 27 ?_
     exact norm_ au4_8 (hCont (v372, gb377) _ ⟨hHeld, au4_4, au4_26, (bk_ BK360), (bk_ BK361), (bk_ BK377), GW377.out, GE377.out, NB360_377.out, NB377_360.out, NB361_377.out, NB377_361.out, bl_⟩)
    skip
    refine gr_ Try.func41 #[.agg #[.int .i64 a0_0, .int .i64 a0_1, .int .i64 a0_2, .int .i64 a0_3], .string (a1.extract (x6_1 : Int).toNat a1.size)] (by rfl) ?_ rfl rfl rfl
    with_reducible refine (F41.calls k1 a0_0 a0_1 a0_2 a0_3 (a1.extract (x6_1 : Int).toNat a1.size) t370 t371 t374 t375 t376 _ A27.out).mono ?_
    rintro e w67 ⟨v372, rfl, ho0, hb⟩
    refine ⟨_, rfl, ?_⟩
    replace HO_5 := am_ (Kd.S_elder' au4_2 (Kd.S_base ho0) hb)
    have HO373 := am_ (Kd.S_lower (Kd.S_mono (ok' := (fun k_ => w66.heap.size ≤ k_)) (Kd.S_bound ho0) (fun k_ hk_ => Nat.le_trans HWB.out hk_.2.1)) (below_size bl_))
    replace BK360 := bb_ BK360 hb
    replace BK361 := bb_ BK361 hb
    replace HB := hs_ w hb
    (try clear hb)
    (try clear hb2)
    (try clear hk)
    (try clear hi)
    (try clear ho0)
    refine hK.out _ _ ⟨(blk_cell BK360.out 0).trans rfl, (blk_cell BK360.out 1).trans rfl, (blk_cell BK360.out 2).trans rfl, (blk_cell BK360.out 3).trans rfl⟩ (fun hHeld => ?_)
    clear hK K
    refine no_ 27 ?_
    refine one_ (i := 5) (N := some 7) (bs 7 63) rfl rfl (by kernel_rfl) (by decide) (fun K hK => ?_)
    refine box_step ?hg (N := 7) ?hd (cs := #[.string (⟨#[]⟩ : ByteArray), .slice none 0 0, .int .i64 0, .int .i64 0, .int .i64 0]) (t := 66) ?hr ?_; (case hd => rfl); (case hg => rfl); (case hr => exact hr_)
    intro gb377 hg w68 hbox hb
    (try replace HWB := am_ (Nat.le_trans HWB.out hb.size))
    replace HO_5 := am_ (Kd.S_below au4_2 hb)
    replace HO373 := am_ (Kd.S_below au4_4 hb)
    have BK377 := am_ (hbox)
    have GW377 := am_ (gw_ hg bl_)
    have GE377 := am_ (gw_ hg bl_)
    replace HB := hs_ w hb
    have NB360_377 := am_ (gn_ hg (blkl_ BK360))
    have NB377_360 := am_ (gm_ hg (blkl_ BK360))
    replace BK360 := bb_ BK360 hb
    have NB361_377 := am_ (gn_ hg (blkl_ BK361))
    have NB377_361 := am_ (gm_ hg (blkl_ BK361))
    replace BK361 := bb_ BK361 hb
    clear hb hbox hg
    refine hK.out _ _ ⟨(blk_cell BK360.out 0).trans rfl, (blk_cell BK360.out 1).trans rfl, (blk_cell BK360.out 2).trans rfl, (blk_cell BK360.out 3).trans rfl⟩ (fun hHeld => ?_)
    clear hK K
    refine no_ 7 ?_
    exact norm_ au4_8 (hCont (v372, gb377) _ ⟨hHeld, au4_4, au4_26, (bk_ BK360), (bk_ BK361), (bk_ BK377), GW377.out, GE377.out, NB360_377.out, NB377_360.out, NB361_377.out, NB377_361.out, bl_⟩)
   rintro ⟨v372, gb377⟩ w69 ⟨hS_, h0_, h1_, h2_, h3_, h4_, h5_, h6_, h7_, h8_, h9_, h10_, h11_⟩
   have n0_ : Aside0 (Kd.S k102 102 w69 w.heap.size (fun k_ => w66.heap.size ≤ k_) v372 t371) := ⟨h0_⟩
   have n1_ : Aside0 (Kd.S k59 59 w69 w.heap.size (fun k_ => k_ < w66.heap.size ∧ some k_ ≠ (v372 : Value).ownBlock) u5 x5_1) := ⟨h1_⟩
   have n2_ : Aside0 (w69.heap[gb360]? = some (.cells #[.int .i64 a0_0, .int .i64 a0_1, .int .i64 a0_2, .int .i64 a0_3] 23 (0, 0))) := ⟨h2_⟩
   have n3_ : Aside0 (w69.heap[gb361]? = some (.cells #[.slice none 0 0, .int .i64 x362001_1, .int .i64 x362002_1, .int .i64 x362003_1] 78 (0, 0))) := ⟨h3_⟩
   have n4_ : Aside0 (w69.heap[gb377]? = some (.cells #[.string (⟨#[]⟩ : ByteArray), .slice none 0 0, .int .i64 0, .int .i64 0, .int .i64 0] 66 (0, 0))) := ⟨h4_⟩
   have n5_ : Aside0 (w.heap.size ≤ gb377) := ⟨h5_⟩
   have n6_ : Aside0 (w.heap.size ≤ gb377) := ⟨h6_⟩
   have n7_ : Aside0 (gb360 ≠ gb377) := ⟨h7_⟩
   have n8_ : Aside0 (gb377 ≠ gb360) := ⟨h8_⟩
   have n9_ : Aside0 (gb361 ≠ gb377) := ⟨h9_⟩
   have n10_ : Aside0 (gb377 ≠ gb361) := ⟨h10_⟩
   have n11_ : Aside0 (Below w.heap.size w w69) := ⟨h11_⟩
   clear HO_5
   clear BK360
   clear BK361
   clear HB
   clear h0_ h1_ h2_ h3_ h4_ h5_ h6_ h7_ h8_ h9_ h10_ h11_
   have HO373 := n0_
   have HO_5 := n1_
   have BK360 := n2_
   have BK361 := n3_
   have BK377 := n4_
   have GW377 := n5_
   have GE377 := n6_
   have NB360_377 := n7_
   have NB377_360 := n8_
   have NB361_377 := n9_
   have NB377_361 := n10_
   have HB := n11_
   clear n0_ n1_ n2_ n3_ n4_ n5_ n6_ n7_ n8_ n9_ n10_ n11_
   have hHeld : w69.cell? ⟨gb360, 0, none⟩ = some (.int .i64 a0_0) ∧ w69.cell? ⟨gb360, 1, none⟩ = some (.int .i64 a0_1) ∧ w69.cell? ⟨gb360, 2, none⟩ = some (.int .i64 a0_2) ∧ w69.cell? ⟨gb360, 3, none⟩ = some (.int .i64 a0_3) := hS_
   obtain ⟨Ao71, co71, eo71⟩ := Kd.S_slice HO373.out
   (first | subst eo71 | (injection eo71 with f1_ f2_ f3_; have f4_ := f1_.symm; have f5_ := f3_.symm; clear f1_ f2_ f3_; subst f4_; subst f5_))
   refine norm_ (a' := ?_) ?_ ?_
   rotate_left
   ·simp only [putAll, Act.put, List.setIfInBounds_toArray, List.set_cons_zero, List.set_cons_succ]
    rfl
   refine one_ (i := 6) (N := none) (bs 7 127) rfl rfl (by kernel_rfl) (by decide) (fun K hK => ?_)
   have hs70 : w69.cell? ⟨gb377, 0, none⟩ = some (.string (⟨#[]⟩ : ByteArray)) := (blk_cell BK377.out 0).trans rfl
   have hfs70 := blk_frozen BK377.out 0
   have hns70_0 := NB360_377.out
   have hns70_1 := NB361_377.out
   have hms70_0 := NB377_360.out
   have hms70_1 := NB377_361.out
   have hs72 : w69.cell? ⟨gb377, 1, none⟩ = some (.slice none 0 0) := (blk_cell BK377.out 1).trans rfl
   have hfs72 := blk_frozen BK377.out 1
   have hns72_0 := NB360_377.out
   have hns72_1 := NB361_377.out
   have hms72_0 := NB377_360.out
   have hms72_1 := NB377_361.out
   have hs73 : w69.cell? ⟨gb377, 2, none⟩ = some (.int .i64 0) := (blk_cell BK377.out 2).trans rfl
   have hfs73 := blk_frozen BK377.out 2
   have hns73_0 := NB360_377.out
   have hns73_1 := NB361_377.out
   have hms73_0 := NB377_360.out
   have hms73_1 := NB377_361.out
   have hs74 : w69.cell? ⟨gb377, 3, none⟩ = some (.int .i64 0) := (blk_cell BK377.out 3).trans rfl
   have hfs74 := blk_frozen BK377.out 3
   have hns74_0 := NB360_377.out
   have hns74_1 := NB361_377.out
   have hms74_0 := NB377_360.out
   have hms74_1 := NB377_361.out
   have hs75 : w69.cell? ⟨gb377, 4, none⟩ = some (.int .i64 0) := (blk_cell BK377.out 4).trans rfl
   have hfs75 := blk_frozen BK377.out 4
   have hns75_0 := NB360_377.out
   have hns75_1 := NB361_377.out
   have hms75_0 := NB377_360.out
   have hms75_1 := NB377_361.out
   refine skip_ (w1 := ?_) (by rfl) rfl ?_ ?_
   rotate_left
   ·go_simp
    rfl
   refine hK.out _ _ ⟨((cell_far (p := ⟨gb377, _, none⟩) NB360_377.out _).trans (((cell_far (p := ⟨gb377, _, none⟩) NB360_377.out _).trans (((cell_far (p := ⟨gb377, _, none⟩) NB360_377.out _).trans (((cell_far (p := ⟨gb377, _, none⟩) NB360_377.out _).trans (((cell_far (p := ⟨gb377, _, none⟩) NB360_377.out _).trans (hHeld.1)))))))))), ((cell_far (p := ⟨gb377, _, none⟩) NB360_377.out _).trans (((cell_far (p := ⟨gb377, _, none⟩) NB360_377.out _).trans (((cell_far (p := ⟨gb377, _, none⟩) NB360_377.out _).trans (((cell_far (p := ⟨gb377, _, none⟩) NB360_377.out _).trans (((cell_far (p := ⟨gb377, _, none⟩) NB360_377.out _).trans (hHeld.2.1)))))))))), ((cell_far (p := ⟨gb377, _, none⟩) NB360_377.out _).trans (((cell_far (p := ⟨gb377, _, none⟩) NB360_377.out _).trans (((cell_far (p := ⟨gb377, _, none⟩) NB360_377.out _).trans (((cell_far (p := ⟨gb377, _, none⟩) NB360_377.out _).trans (((cell_far (p := ⟨gb377, _, none⟩) NB360_377.out _).trans (hHeld.2.2.1)))))))))), ((cell_far (p := ⟨gb377, _, none⟩) NB360_377.out _).trans (((cell_far (p := ⟨gb377, _, none⟩) NB360_377.out _).trans (((cell_far (p := ⟨gb377, _, none⟩) NB360_377.out _).trans (((cell_far (p := ⟨gb377, _, none⟩) NB360_377.out _).trans (((cell_far (p := ⟨gb377, _, none⟩) NB360_377.out _).trans (hHeld.2.2.2))))))))))⟩ (fun hHeld => ?_)
   clear hK K
   refine done_ (by kernel_rfl) ?_
   obtain ⟨Ao76, co76, eo76⟩ := Kd.S_slice HO_5.out
   subst eo76
   have hnb77 := NB377_360.out
   have hnc77 := NB360_377.out
   have hnb78 := NB377_361.out
   have hnc78 := NB361_377.out
   obtain ⟨hcz79_0, hcz79_1, hcz79_2, hcz79_3, hcz79_4, hfz79_0, hfz79_1, hfz79_2, hfz79_3, hfz79_4⟩ := cellsF5 BK377.out
   try go_wp2
   have n0_ : Aside0 (Kd.S k59 59 (((((w69.setCell ⟨gb377, 0, none⟩ (.string t370)).setCell ⟨gb377, 1, none⟩ (.slice Ao71 t371.length co71)).setCell ⟨gb377, 2, none⟩ (.int .i64 t374)).setCell ⟨gb377, 3, none⟩ (.int .i64 t375)).setCell ⟨gb377, 4, none⟩ (.int .i64 t376)) w.heap.size (fun k_ => k_ < w66.heap.size ∧ some k_ ≠ (.slice Ao71 t371.length co71 : Value).ownBlock) (.slice Ao76 x5_1.length co76) x5_1) := ⟨by (with_reducible repeat (first | apply Kd.S_alloc | apply Kd.S_drewN | apply Kd.S_drew)); exact Kd.S_mono (Kd.S_far (p := ⟨gb377, 4, none⟩) (Kd.S_far (p := ⟨gb377, 3, none⟩) (Kd.S_far (p := ⟨gb377, 2, none⟩) (Kd.S_far (p := ⟨gb377, 1, none⟩) (Kd.S_far (p := ⟨gb377, 0, none⟩) (Kd.S_types HO_5.out BK377.out (by decide)) (fun _ hk => hk.2) (.string t370)) (fun _ hk => hk.2) (.slice Ao71 t371.length co71)) (fun _ hk => hk.2) (.int .i64 t374)) (fun _ hk => hk.2) (.int .i64 t375)) (fun _ hk => hk.2) (.int .i64 t376)) (fun _ hk => hk.1)⟩
   have n1_ : Aside0 (Kd.S k102 102 (((((w69.setCell ⟨gb377, 0, none⟩ (.string t370)).setCell ⟨gb377, 1, none⟩ (.slice Ao71 t371.length co71)).setCell ⟨gb377, 2, none⟩ (.int .i64 t374)).setCell ⟨gb377, 3, none⟩ (.int .i64 t375)).setCell ⟨gb377, 4, none⟩ (.int .i64 t376)) w.heap.size (fun k_ => w66.heap.size ≤ k_) (.slice Ao71 t371.length co71) t371) := ⟨by (with_reducible repeat (first | apply Kd.S_alloc | apply Kd.S_drewN | apply Kd.S_drew)); exact Kd.S_mono (Kd.S_far (p := ⟨gb377, 4, none⟩) (Kd.S_far (p := ⟨gb377, 3, none⟩) (Kd.S_far (p := ⟨gb377, 2, none⟩) (Kd.S_far (p := ⟨gb377, 1, none⟩) (Kd.S_far (p := ⟨gb377, 0, none⟩) (Kd.S_types HO373.out BK377.out (by decide)) (fun _ hk => hk.2) (.string t370)) (fun _ hk => hk.2) (.slice Ao71 t371.length co71)) (fun _ hk => hk.2) (.int .i64 t374)) (fun _ hk => hk.2) (.int .i64 t375)) (fun _ hk => hk.2) (.int .i64 t376)) (fun _ hk => hk.1)⟩
   have n2_ : Aside0 ((((((w69.setCell ⟨gb377, 0, none⟩ (.string t370)).setCell ⟨gb377, 1, none⟩ (.slice Ao71 t371.length co71)).setCell ⟨gb377, 2, none⟩ (.int .i64 t374)).setCell ⟨gb377, 3, none⟩ (.int .i64 t375)).setCell ⟨gb377, 4, none⟩ (.int .i64 t376)).heap[gb360]? = some (.cells #[.int .i64 a0_0, .int .i64 a0_1, .int .i64 a0_2, .int .i64 a0_3] 23 (0, 0))) := ⟨bf_ BK360⟩
   have n3_ : Aside0 ((((((w69.setCell ⟨gb377, 0, none⟩ (.string t370)).setCell ⟨gb377, 1, none⟩ (.slice Ao71 t371.length co71)).setCell ⟨gb377, 2, none⟩ (.int .i64 t374)).setCell ⟨gb377, 3, none⟩ (.int .i64 t375)).setCell ⟨gb377, 4, none⟩ (.int .i64 t376)).heap[gb361]? = some (.cells #[.slice none 0 0, .int .i64 x362001_1, .int .i64 x362002_1, .int .i64 x362003_1] 78 (0, 0))) := ⟨bf_ BK361⟩
   have n4_ : Aside0 ((((((w69.setCell ⟨gb377, 0, none⟩ (.string t370)).setCell ⟨gb377, 1, none⟩ (.slice Ao71 t371.length co71)).setCell ⟨gb377, 2, none⟩ (.int .i64 t374)).setCell ⟨gb377, 3, none⟩ (.int .i64 t375)).setCell ⟨gb377, 4, none⟩ (.int .i64 t376)).heap[gb377]? = some (.cells #[.string t370, .slice Ao71 t371.length co71, .int .i64 t374, .int .i64 t375, .int .i64 t376] 66 (0, 0))) := ⟨bq_ BK377⟩
   have n5_ : Aside0 (Below w.heap.size w (((((w69.setCell ⟨gb377, 0, none⟩ (.string t370)).setCell ⟨gb377, 1, none⟩ (.slice Ao71 t371.length co71)).setCell ⟨gb377, 2, none⟩ (.int .i64 t374)).setCell ⟨gb377, 3, none⟩ (.int .i64 t375)).setCell ⟨gb377, 4, none⟩ (.int .i64 t376))) := ⟨bl_⟩
   (try clear HO_5)
   (try clear HO373)
   (try clear BK360)
   (try clear BK361)
   (try clear BK377)
   (try clear HB)
   generalize (((((w69.setCell ⟨gb377, 0, none⟩ (.string t370)).setCell ⟨gb377, 1, none⟩ (.slice Ao71 t371.length co71)).setCell ⟨gb377, 2, none⟩ (.int .i64 t374)).setCell ⟨gb377, 3, none⟩ (.int .i64 t375)).setCell ⟨gb377, 4, none⟩ (.int .i64 t376)) = w80 at n0_ n1_ n2_ n3_ n4_ n5_ ⊢
   have HO_5 := n0_
   have HO373 := n1_
   have BK360 := n2_
   have BK361 := n3_
   have BK377 := n4_
   have HB := n5_
   clear n0_ n1_ n2_ n3_ n4_ n5_
   replace HO_5 := am_ (Kd.S_drew HO_5.out)
   replace HO373 := am_ (Kd.S_drew HO373.out)
   replace BK360 := bd_ BK360
   replace BK361 := bd_ BK361
   replace BK377 := bd_ BK377
   replace HB := am_ (below_drew1 HB.out)
   refine start_ (n := 11) (S := fun w' => w'.cell? ⟨gb377, 0, none⟩ = some (.string t370) ∧ w'.cell? ⟨gb377, 1, none⟩ = some (.slice Ao71 t371.length co71) ∧ w'.cell? ⟨gb377, 2, none⟩ = some (.int .i64 t374) ∧ w'.cell? ⟨gb377, 3, none⟩ = some (.int .i64 t375) ∧ w'.cell? ⟨gb377, 4, none⟩ = some (.int .i64 t376)) (ds := []) (bs 11 0) (by kernel_rfl) rfl rfl ⟨(blk_cell BK377.out 0).trans rfl, (blk_cell BK377.out 1).trans rfl, (blk_cell BK377.out 2).trans rfl, (blk_cell BK377.out 3).trans rfl, (blk_cell BK377.out 4).trans rfl⟩ (fun hHeld => ?_); refine with_tabW F51.tab12 F51.bits12 (fun HT_ HW_ => ?_)
   generalize w80.drew = w81 at HO_5 HO373 BK360 BK361 BK377 HB hHeld ⊢
   refine pu_ 0 44 (bs 11 1) HT_ ?_ rfl rfl
   refine pu_ 1 45 (bs 11 3) HT_ ?_ rfl rfl
   refine pu_ 5 49 (bs 11 35) HT_ ?_ rfl rfl
   refine pu_ 6 50 (bs 11 99) HT_ ?_ rfl rfl
   refine tk_ 2 46 (bs 11 103) HT_ HW_ hHeld au4_14 ?_ rfl rfl
   refine tk_ 7 51 (bs 11 231) HT_ HW_ hHeld au4_14 ?_ rfl rfl
   refine pu_ 8 52 (bs 11 487) HT_ ?_ rfl rfl
   refine one_ (i := 3) (N := some 47) (bs 11 495) rfl rfl (one_of HT_.out (by kernel_rfl)) (by decide) (fun K hK => ?_)
   refine value_ (w1 := ?_) (v := ?_) (by rfl) rfl ?_ ?_
   rotate_left 2
   ·go_simp
    constructor
    ·rfl
    ·rfl
   refine hK.out _ _ ⟨(blk_cell (blk_alloc BK377.out _) 0).trans rfl, (blk_cell (blk_alloc BK377.out _) 1).trans rfl, (blk_cell (blk_alloc BK377.out _) 2).trans rfl, (blk_cell (blk_alloc BK377.out _) 3).trans rfl, (blk_cell (blk_alloc BK377.out _) 4).trans rfl⟩ (fun hHeld => ?_)
   clear hK K
   refine no_ 47 ?_
   refine one_ (i := 4) (N := some 48) (bs 11 511) rfl rfl (one_of HT_.out (by kernel_rfl)) (by decide) (fun K hK => ?_)
   refine Kd.S_append_step k59 (w0 := w) w.heap.size (by rfl) (.tmp 44) (.tmp 47) 73 59 (.agg #[(.string ⟨#[]⟩), (.slice none 0 0)]) 40 rfl Try.underlying73 info59 rfl (by decide) (by omega) (.slice Ao76 x5_1.length co76) x5_1 (⟨t370, t371⟩ : S59) [.string t370, .slice Ao71 t371.length co71] (fun _ => True) (fun k_ => w66.heap.size ≤ k_) rfl rfl ?aP (fun k_ hk_ => ⟨trivial, fun e_ => Nat.not_le.2 ((Kd.S_R HO_5.out).1 k_ e_.symm).1 hk_⟩) ?aF ?aO ?aB ?aS ?aL ?_
   (case aP => exact k59_mkM _ _ _ (⟨t370, t371⟩ : S59) (Kd.S_mono HO373.out (fun k_ hk => hk)))
   (case aB => exact bl_)
   (case aF => exact (fun _ _ => trivial))
   (case aO => exact (by (with_reducible repeat (first | apply Kd.S_alloc | apply Kd.S_drewN | apply Kd.S_drew)); exact Kd.S_mono HO_5.out (fun k_ hk => ⟨trivial, Nat.not_le.2 hk.1⟩)))
   (case aS => exact (below_size bl_))
   (case aL => have := LMc65.out; omega)
   intro v382 w82 ho hb hg hat
   rw [← Ny381.out] at ho
   have n0_ := am_ (bg_ BK360 hg (Kd.S_ne HO_5.out BK360.out (by decide)))
   have n1_ := am_ (bg_ BK361 hg (Kd.S_ne HO_5.out BK361.out (by decide)))
   have n2_ := am_ (bg_ BK377 hg (Kd.S_ne HO_5.out BK377.out (by decide)))
   have n3_ := am_ (hb)
   have n4_ := am_ (ho)
   clear BK360
   clear BK361
   clear BK377
   clear HB
   clear HO_5
   clear HO373
   have BK360 := n0_
   have BK361 := n1_
   have BK377 := n2_
   have HB := n3_
   have HO383 := n4_
   clear n0_ n1_ n2_ n3_ n4_
   clear ho hb hg hat
   refine hK.out _ _ ⟨(blk_cell BK377.out 0).trans rfl, (blk_cell BK377.out 1).trans rfl, (blk_cell BK377.out 2).trans rfl, (blk_cell BK377.out 3).trans rfl, (blk_cell BK377.out 4).trans rfl⟩ (fun hHeld => ?_)
   clear hK K
   refine no_ 48 ?_
   refine pu_ 9 5 (bs 11 1023) HT_ ?_ rfl rfl
   refine pu_ 10 6 (bs 11 2047) HT_ ?_ rfl rfl
   refine done_ (done_of HT_.out (by kernel_rfl)) ?_
   try go_wp2
   go_roundg k1
   case measure => have := HK1.out; omega
   case rel => exact ⟨(y381), (wrap64 (x6_1 + t374)), (x362001_1), (x362002_1), (x362003_1), er_, H', ⟨by have := HK1.out; omega⟩, ⟨by (with_reducible repeat (first | apply Kd.S_alloc | apply Kd.S_drewN | apply Kd.S_drew)); exact HO383.out⟩, ⟨bk_ BK360⟩, ⟨bk_ BK361⟩, ⟨bl_⟩⟩
/-! ### F27: function 27 -/
def F27.l0 : Nat → List ByteArray → List ByteArray → Int → Option (Bool)
  | 0, _, _, _ => none
  | k + 1, x0, x1, x5 => if x5 < (x0.length : Int) then (if 0 ≤ x5 then (if x5 < (x1.length : Int) then (if (rdOf ByteArray.empty x0 x5).toList = (rdOf ByteArray.empty x1 x5).toList then (F27.l0 k x0 x1 (wrap64 (x5 + 1))) else (some false)) else (none)) else (none)) else (some true)
def F27.f (k : Nat) (l0 : List ByteArray) (l1 : List ByteArray) : Option (Bool) := if (l0.length : Int) = (l1.length : Int) then (F27.l0 k l0 l1 0) else (some false)
theorem F27.mono_l : ∀ k, (∀ y0 y1 y2, LeO (F27.l0 k y0 y1 y2) (F27.l0 (k + 1) y0 y1 y2))
 | 0 => fun _ _ _ r h => by simp [F27.l0] at h
 | k + 1 => by
  have ih0 := F27.mono_l k
  intro y0 y1 y2
  unfold F27.l0
  repeat' with_reducible first | exact ih0 _ _ _ | exact LeO.refl _ | exact LeO.none _ | refine LeO.ite ?_ ?_ | refine LeO.bind ?_ (fun _ => ?_)
theorem F27.mono : ∀ a0 a1 k, LeO (F27.f k a0 a1) (F27.f (k + 1) a0 a1) := by
 intro a0 a1 k
 have ih0 := F27.mono_l k
 unfold F27.f
 repeat' with_reducible first | exact ih0 _ _ _ | exact LeO.refl _ | exact LeO.none _ | refine LeO.ite ?_ ?_ | refine LeO.bind ?_ (fun _ => ?_)
theorem F27.calls (k : Nat) (A0 : Option Addr) (c0 : Nat) (l0 : List ByteArray) (A1 : Option Addr) (c1 : Nat) (l1 : List ByteArray) (r : Bool) (w : World) (hr0 : Kd.C Kd.string w A0 l0.length l0) (hc0 : l0.length ≤ c0) (hr1 : Kd.C Kd.string w A1 l1.length l1) (hc1 : l1.length ≤ c1) (h : F27.f k l0 l1 = some r) :
  Calls Try.prog 27 #[.slice A0 l0.length c0, .slice A1 l1.length c1] w fun e w' => e = .returned (.bool r) ∧ Drawn0 w w' := by
 have HR0 := am_ hr0
 have HC0 := am_ hc0
 clear hr0 hc0
 have HR1 := am_ hr1
 have HC1 := am_ hc1
 clear hr1 hc1
 have H : (if (l0.length : Int) = (l1.length : Int) then (F27.l0 k l0 l1 0) else (some false)) = some r := h
 clear h
 by_cases c3 : (l0.length : Int) = (l1.length : Int)
 rotate_left
 ·rw [if_neg c3] at H
  have c3b0 : ((l0.length : Int) == (l1.length : Int)) = false := beq_eq_false_iff_ne.mpr c3
  have c3b1 : ((l0.length : Int) != (l1.length : Int)) = true := bne_iff_ne.mpr c3
  have c3b2 : (l0.length == l1.length) = false := by first | simpa using c3 | (simp at c3 ⊢; omega)
  obtain rfl := Option.some.inj H
  go_enter Try.func27, Try.ntmps27
  go_wp2
  repeat (go_quiet (fail); try go_wp2)
  go_ret
  exact ⟨er_, dn_⟩

 rw [if_pos c3] at H
 have c3b0 : ((l0.length : Int) == (l1.length : Int)) = true := beq_iff_eq.mpr c3
 have c3b1 : ((l0.length : Int) != (l1.length : Int)) = false := bne_eq_false_iff_eq.mpr c3
 have c3b2 : (l0.length == l1.length) = true := by first | simpa using c3 | (simp at c3 ⊢; omega)
 clear c3
 have H' := am_ H
 clear H
 go_enter Try.func27, Try.ntmps27
 go_wp2
 repeat (go_quiet (fail); try go_wp2)
 go_loopg [5] k (fun kq v5 w' => ∃ (x5_1 : Int), v5 = .int .i64 x5_1 ∧ Aside0 (F27.l0 kq l0 l1 x5_1 = some r) ∧ Aside0 (kq ≤ k) ∧ Drawn0 w w')
 case atStart => exact ⟨(0), er_, H', ⟨Nat.le_refl _⟩, dn_⟩
 case round =>
  clear H'
  try clear c1
  try clear c3
  try clear c3b0
  try clear c3b1
  try clear c3b2
  obtain ⟨x5_1, rfl, HA, HK1, ⟨m1, rfl⟩⟩ := hrel
  cases gk with
  | zero => exact absurd HA.out (by simp [F27.l0])
  | succ k1 =>
   have H := HA.out
   clear HA
   simp only [F27.l0] at H
   replace H := it_ H; rcases H with ⟨c4b0, H⟩ | ⟨c4b0, H⟩
   rotate_left
   ·obtain rfl := Option.some.inj H
    go_wp2
    repeat (go_quiet (fail); try go_wp2)
    go_ret
    exact ⟨er_, dn_⟩
   replace H := itn_ H; rcases H with ⟨c5b0, H⟩
   replace H := itn_ H; rcases H with ⟨c6b0, H⟩
   by_cases c7 : (rdOf ByteArray.empty l0 x5_1).toList = (rdOf ByteArray.empty l1 x5_1).toList
   rotate_left
   ·rw [if_neg c7] at H
    have c7b0 : ((rdOf ByteArray.empty l0 x5_1).toList == (rdOf ByteArray.empty l1 x5_1).toList) = false := beq_eq_false_iff_ne.mpr c7
    have c7b1 : ((rdOf ByteArray.empty l0 x5_1).toList != (rdOf ByteArray.empty l1 x5_1).toList) = true := bne_iff_ne.mpr c7
    obtain rfl := Option.some.inj H
    have p384 : 0 ≤ (x5_1 : Int) := od_
    have q384 : x5_1 < (l0.length : Int) := od_
    obtain ⟨ad384, e384, hx384_0⟩ := Kd.at_string HR0.out x5_1 p384 q384
    cases e384
    replace p384 := eq_true p384
    replace q384 := eq_true q384
    have p385 : 0 ≤ (x5_1 : Int) := od_
    have q385 : x5_1 < (l1.length : Int) := od_
    obtain ⟨ad385, e385, hx385_0⟩ := Kd.at_string HR1.out x5_1 p385 q385
    cases e385
    replace p385 := eq_true p385
    replace q385 := eq_true q385
    go_wp2
    repeat (go_quiet (fail); try go_wp2)
    go_ret
    exact ⟨er_, dn_⟩
   rw [if_pos c7] at H
   have c7b0 : ((rdOf ByteArray.empty l0 x5_1).toList == (rdOf ByteArray.empty l1 x5_1).toList) = true := beq_iff_eq.mpr c7
   have c7b1 : ((rdOf ByteArray.empty l0 x5_1).toList != (rdOf ByteArray.empty l1 x5_1).toList) = false := bne_eq_false_iff_eq.mpr c7
   clear c7
   have H' := am_ H
   clear H
   have p384 : 0 ≤ (x5_1 : Int) := od_
   have q384 : x5_1 < (l0.length : Int) := od_
   obtain ⟨ad384, e384, hx384_0⟩ := Kd.at_string HR0.out x5_1 p384 q384
   cases e384
   replace p384 := eq_true p384
   replace q384 := eq_true q384
   have p385 : 0 ≤ (x5_1 : Int) := od_
   have q385 : x5_1 < (l1.length : Int) := od_
   obtain ⟨ad385, e385, hx385_0⟩ := Kd.at_string HR1.out x5_1 p385 q385
   cases e385
   replace p385 := eq_true p385
   replace q385 := eq_true q385
   go_wp2
   repeat (go_quiet (fail); try go_wp2)
   go_roundg k1
   case measure => have := HK1.out; omega
   case rel => exact ⟨(wrap64 (x5_1 + 1)), er_, H', ⟨by have := HK1.out; omega⟩, dn_⟩
/-! ### F113: function 113 -/
def F113.f (k : Nat) (l0_0 : List ByteArray) (l1_0 : List ByteArray) : Option (Bool) := (F27.f k l0_0 l1_0).bind fun t388 => (if t388 = true then (some true) else (some false))
theorem F113.mono : ∀ a0 a1 k, LeO (F113.f k a0 a1) (F113.f (k + 1) a0 a1) := by
 intro a0 a1 k
 unfold F113.f
 repeat' with_reducible first | exact F27.mono _ _ _ | exact LeO.refl _ | exact LeO.none _ | refine LeO.ite ?_ ?_ | refine LeO.bind ?_ (fun _ => ?_)
theorem F113.calls (k : Nat) (A0_0 : Option Addr) (c0_0 : Nat) (l0_0 : List ByteArray) (A1_0 : Option Addr) (c1_0 : Nat) (l1_0 : List ByteArray) (r : Bool) (w : World) (hr0_0 : Kd.C Kd.string w A0_0 l0_0.length l0_0) (hc0_0 : l0_0.length ≤ c0_0) (hr1_0 : Kd.C Kd.string w A1_0 l1_0.length l1_0) (hc1_0 : l1_0.length ≤ c1_0) (h : F113.f k l0_0 l1_0 = some r) :
  Calls Try.prog 113 #[.agg #[.slice A0_0 l0_0.length c0_0], .agg #[.slice A1_0 l1_0.length c1_0]] w fun e w' => e = .returned (.bool r) ∧ Below w.heap.size w w' := by
 have hu102 := Try.underlying102
 have HR0_0 := am_ hr0_0
 have HC0_0 := am_ hc0_0
 clear hr0_0 hc0_0
 have HR1_0 := am_ hr1_0
 have HC1_0 := am_ hc1_0
 clear hr1_0 hc1_0
 have HB := am_ (Below.refl w.heap.size w)
 have H : ((F27.f k l0_0 l1_0).bind fun t388 => (if t388 = true then (some true) else (some false))) = some r := h
 clear h
 replace H := bi_ H; rcases H with ⟨t388, A3, H⟩
 replace H := ib_ H; rcases H with ⟨rfl, H⟩ | ⟨rfl, H⟩
 ·obtain rfl := Option.some.inj H
  go_enter Try.func113, Try.ntmps113
  go_wp2_with (first | ((with_reducible refine gate_dst (N := 2) rfl ?_); refine be_ 2 #[.slice A0_0 l0_0.length c0_0] 102 ?_; intro gb386 hg w5 hbox hb; have BK386 := am_ (hbox); have GW386 := am_ (gw_ hg bl_); have GE386 := GW386; replace HB := hs_ w hb; clear hb hbox hg) | ((with_reducible refine gate_dst (N := 3) rfl ?_); refine be_ 3 #[.slice A1_0 l1_0.length c1_0] 102 ?_; intro gb387 hg w6 hbox hb; have BK387 := am_ (hbox); have GW387 := am_ (gw_ hg bl_); have GE387 := GW387; replace HB := hs_ w hb; have NB386_387 := am_ (gn_ hg (blkl_ BK386)); have NB387_386 := am_ (gm_ hg (blkl_ BK386)); replace BK386 := bb_ BK386 hb; clear hb hbox hg; have hnb7 := NB386_387.out; have hnc7 := NB387_386.out; have hcz8_0 : w6.cell? ⟨gb386, 0, none⟩ = some (.slice A0_0 l0_0.length c0_0) := (blk_cell BK386.out 0).trans rfl; have hfz8_0 := blk_frozen BK386.out 0; have hcz9_0 : w6.cell? ⟨gb387, 0, none⟩ = some (.slice A1_0 l1_0.length c1_0) := (blk_cell BK387.out 0).trans rfl; have hfz9_0 := blk_frozen BK387.out 0) | ((with_reducible refine gate_callee (f := 27) rfl ?_); refine gl_ 9 Try.func27 #[.slice A0_0 l0_0.length c0_0, .slice A1_0 l1_0.length c1_0] ?_ rfl rfl rfl rfl; (with_reducible refine (F27.calls k _ _ l0_0 _ _ l1_0 true _ ?s1 ?s2 ?s3 ?s4 A3.out).mono ?_); (case s1 => exact au4_21); (case s2 => exact HC0_0.out); (case s3 => exact au4_22); (case s4 => exact HC1_0.out); rintro e w' ⟨rfl, ⟨nd, rfl⟩⟩; refine ⟨_, rfl, ?_⟩))
  go_ret
  exact ⟨au4_0, bl_⟩
 obtain rfl := Option.some.inj H
 go_enter Try.func113, Try.ntmps113
 go_wp2_with (first | ((with_reducible refine gate_dst (N := 2) rfl ?_); refine be_ 2 #[.slice A0_0 l0_0.length c0_0] 102 ?_; intro gb386 hg w10 hbox hb; have BK386 := am_ (hbox); have GW386 := am_ (gw_ hg bl_); have GE386 := GW386; replace HB := hs_ w hb; clear hb hbox hg) | ((with_reducible refine gate_dst (N := 3) rfl ?_); refine be_ 3 #[.slice A1_0 l1_0.length c1_0] 102 ?_; intro gb387 hg w11 hbox hb; have BK387 := am_ (hbox); have GW387 := am_ (gw_ hg bl_); have GE387 := GW387; replace HB := hs_ w hb; have NB386_387 := am_ (gn_ hg (blkl_ BK386)); have NB387_386 := am_ (gm_ hg (blkl_ BK386)); replace BK386 := bb_ BK386 hb; clear hb hbox hg; have hnb12 := NB386_387.out; have hnc12 := NB387_386.out; have hcz13_0 : w11.cell? ⟨gb386, 0, none⟩ = some (.slice A0_0 l0_0.length c0_0) := (blk_cell BK386.out 0).trans rfl; have hfz13_0 := blk_frozen BK386.out 0; have hcz14_0 : w11.cell? ⟨gb387, 0, none⟩ = some (.slice A1_0 l1_0.length c1_0) := (blk_cell BK387.out 0).trans rfl; have hfz14_0 := blk_frozen BK387.out 0) | ((with_reducible refine gate_callee (f := 27) rfl ?_); refine gl_ 9 Try.func27 #[.slice A0_0 l0_0.length c0_0, .slice A1_0 l1_0.length c1_0] ?_ rfl rfl rfl rfl; (with_reducible refine (F27.calls k _ _ l0_0 _ _ l1_0 false _ ?s1 ?s2 ?s3 ?s4 A3.out).mono ?_); (case s1 => exact au4_21); (case s2 => exact HC0_0.out); (case s3 => exact au4_22); (case s4 => exact HC1_0.out); rintro e w' ⟨rfl, ⟨nd, rfl⟩⟩; refine ⟨_, rfl, ?_⟩))
 go_ret
 exact ⟨au4_0, bl_⟩

/-! ### F84: function 84 -/
def F84.l0 : Nat → List (S102) → List (S102) → Int → Option (Bool)
  | 0, _, _, _ => none
  | k + 1, x0, x1, x5 => if x5 < (x0.length : Int) then (if 0 ≤ x5 then (if x5 < (x1.length : Int) then ((F113.f k ((rd_T102 x0 x5).f0) ((rd_T102 x1 x5).f0)).bind fun t391 => (if t391 = true then (F84.l0 k x0 x1 (wrap64 (x5 + 1))) else (some false))) else (none)) else (none)) else (some true)
def F84.f (k : Nat) (l0 : List (S102)) (l1 : List (S102)) : Option (Bool) := if (l0.length : Int) = (l1.length : Int) then (F84.l0 k l0 l1 0) else (some false)
theorem F84.mono_l : ∀ k, (∀ y0 y1 y2, LeO (F84.l0 k y0 y1 y2) (F84.l0 (k + 1) y0 y1 y2))
 | 0 => fun _ _ _ r h => by simp [F84.l0] at h
 | k + 1 => by
  have ih0 := F84.mono_l k
  intro y0 y1 y2
  unfold F84.l0
  repeat' with_reducible first | exact ih0 _ _ _ | exact F113.mono _ _ _ | exact LeO.refl _ | exact LeO.none _ | refine LeO.ite ?_ ?_ | refine LeO.bind ?_ (fun _ => ?_)
theorem F84.mono : ∀ a0 a1 k, LeO (F84.f k a0 a1) (F84.f (k + 1) a0 a1) := by
 intro a0 a1 k
 have ih0 := F84.mono_l k
 unfold F84.f
 repeat' with_reducible first | exact ih0 _ _ _ | exact F113.mono _ _ _ | exact LeO.refl _ | exact LeO.none _ | refine LeO.ite ?_ ?_ | refine LeO.bind ?_ (fun _ => ?_)
def F84.T6 : Bool × List (List Nat × List Nat) := (true, [([], []), ([], []), ([0, 1], [0, 1]), ([2], [2]), ([], []), ([], []), ([4, 5], [4, 5]), ([6], [6]), ([3, 7], [3, 7]), ([8], [8])])
def F84.B6 : List Nat := [0, 0, 3, 7, 0, 0, 48, 112, 255, 511]
theorem F84.tab6 : rtab .any (opsOf Try.f84 6) = F84.T6 := by kernel_rfl
theorem F84.bits6 : waitsOk F84.T6.2 F84.B6 = true := by kernel_rfl
theorem F84.calls (k : Nat) (A0 : Option Addr) (c0 : Nat) (l0 : List (S102)) (A1 : Option Addr) (c1 : Nat) (l1 : List (S102)) (r : Bool) (w : World) (hr0 : Kd.C k102 w A0 l0.length l0) (hc0 : l0.length ≤ c0) (hr1 : Kd.C k102 w A1 l1.length l1) (hc1 : l1.length ≤ c1) (h : F84.f k l0 l1 = some r) :
  Calls Try.prog 84 #[.slice A0 l0.length c0, .slice A1 l1.length c1] w fun e w' => e = .returned (.bool r) ∧ Below w.heap.size w w' := by
 have hu102 := Try.underlying102
 have HR0 := am_ hr0
 have HC0 := am_ hc0
 clear hr0 hc0
 have HR1 := am_ hr1
 have HC1 := am_ hc1
 clear hr1 hc1
 have HB := am_ (Below.refl w.heap.size w)
 have H : (if (l0.length : Int) = (l1.length : Int) then (F84.l0 k l0 l1 0) else (some false)) = some r := h
 clear h
 by_cases c3 : (l0.length : Int) = (l1.length : Int)
 rotate_left
 ·rw [if_neg c3] at H
  have c3b0 : ((l0.length : Int) == (l1.length : Int)) = false := beq_eq_false_iff_ne.mpr c3
  have c3b1 : ((l0.length : Int) != (l1.length : Int)) = true := bne_iff_ne.mpr c3
  have c3b2 : (l0.length == l1.length) = false := by first | simpa using c3 | (simp at c3 ⊢; omega)
  obtain rfl := Option.some.inj H
  go_enter Try.func84, Try.ntmps84
  go_wp2
  go_ret
  exact ⟨au4_0, bl_⟩

 rw [if_pos c3] at H
 have c3b0 : ((l0.length : Int) == (l1.length : Int)) = true := beq_iff_eq.mpr c3
 have c3b1 : ((l0.length : Int) != (l1.length : Int)) = false := bne_eq_false_iff_eq.mpr c3
 have c3b2 : (l0.length == l1.length) = true := by first | simpa using c3 | (simp at c3 ⊢; omega)
 clear c3
 have H' := am_ H
 clear H
 go_enter Try.func84, Try.ntmps84
 go_wp2
 go_loopg [5] k (fun kq v5 w' => ∃ (x5_1 : Int), v5 = .int .i64 x5_1 ∧ Aside0 (F84.l0 kq l0 l1 x5_1 = some r) ∧ Aside0 (kq ≤ k) ∧ Aside0 (Below w.heap.size w w'))
 case atStart => exact ⟨(0), er_, H', ⟨Nat.le_refl _⟩, ⟨bl_⟩⟩
 case round =>
  clear H'
  try clear c1
  try clear c3
  try clear c3b0
  try clear c3b1
  try clear c3b2
  obtain ⟨x5_1, rfl, HA, HK1, HB⟩ := hrel
  cases gk with
  | zero => exact absurd HA.out (by simp [F84.l0])
  | succ k1 =>
   have H := HA.out
   clear HA
   simp only [F84.l0] at H
   replace H := it_ H; rcases H with ⟨c4b0, H⟩ | ⟨c4b0, H⟩
   rotate_left
   ·obtain rfl := Option.some.inj H
    go_wp2
    go_ret
    exact ⟨au4_0, bl_⟩
   replace H := itn_ H; rcases H with ⟨c5b0, H⟩
   replace H := itn_ H; rcases H with ⟨c6b0, H⟩
   replace H := bi_ H; rcases H with ⟨t391, A7, H⟩
   replace H := ib_ H; rcases H with ⟨rfl, H⟩ | ⟨rfl, H⟩
   rotate_left
   ·obtain rfl := Option.some.inj H
    try go_wp2
    replace HB := am_ (below_drew1 HB.out)
    have p389 : 0 ≤ (x5_1 : Int) := od_
    have q389 : x5_1 < (l0.length : Int) := od_
    obtain ⟨ad389, A389_0, c389_0, e389, hx389_0, hl389_0, hi389_0⟩ := at_T102 HR0.out x5_1 p389 q389
    have hw389_0 := hx389_0
    cases e389
    replace hx389_0 := (HB.out.cell (World.block_lt_of_cell? _ _ hx389_0)).trans hx389_0
    have HR389_0 := am_ hi389_0
    have HC389_0 := am_ hl389_0
    clear hi389_0 hl389_0
    replace p389 := eq_true p389
    replace q389 := eq_true q389
    have p390 : 0 ≤ (x5_1 : Int) := od_
    have q390 : x5_1 < (l1.length : Int) := od_
    obtain ⟨ad390, A390_0, c390_0, e390, hx390_0, hl390_0, hi390_0⟩ := at_T102 HR1.out x5_1 p390 q390
    have hw390_0 := hx390_0
    cases e390
    replace hx390_0 := (HB.out.cell (World.block_lt_of_cell? _ _ hx390_0)).trans hx390_0
    have HR390_0 := am_ hi390_0
    have HC390_0 := am_ hl390_0
    clear hi390_0 hl390_0
    replace p390 := eq_true p390
    replace q390 := eq_true q390
    refine start_ (n := 10) (S := fun w' => w'.cell? (ad389.add (x5_1).toNat) = some (.slice A389_0 ((rd_T102 l0 x5_1).f0).length c389_0) ∧ w'.cell? (ad390.add (x5_1).toNat) = some (.slice A390_0 ((rd_T102 l1 x5_1).f0).length c390_0)) (ds := []) (bs 10 0) (by kernel_rfl) rfl rfl ⟨((HB.out.cell (World.block_lt_of_cell? _ _ hw389_0)).trans hw389_0), ((HB.out.cell (World.block_lt_of_cell? _ _ hw390_0)).trans hw390_0)⟩ (fun hHeld => ?_); refine with_tabW F84.tab6 F84.bits6 (fun HT_ HW_ => ?_)
    generalize wr.drew = w11 at HB HR389_0 HR390_0 hx389_0 hx390_0 hHeld ⊢
    refine pu_ 0 17 (bs 10 1) HT_ ?_ rfl rfl
    refine pu_ 1 18 (bs 10 3) HT_ ?_ rfl rfl
    refine pu_ 2 19 (bs 10 7) HT_ ?_ rfl rfl
    refine pu_ 4 21 (bs 10 23) HT_ ?_ rfl rfl
    refine pu_ 5 22 (bs 10 55) HT_ ?_ rfl rfl
    refine pu_ 6 23 (bs 10 119) HT_ ?_ rfl rfl
    refine tk_ 3 20 (bs 10 127) HT_ HW_ hHeld au4_27 ?_ rfl rfl
    refine tk_ 7 24 (bs 10 255) HT_ HW_ hHeld au4_27 ?_ rfl rfl
    refine one_ (i := 8) (N := some 25) (bs 10 511) rfl rfl (one_of HT_.out (by kernel_rfl)) (by decide) (fun K hK => ?_)
    refine gr_ Try.func113 #[.agg #[.slice A389_0 ((rd_T102 l0 x5_1).f0).length c389_0], .agg #[.slice A390_0 ((rd_T102 l1 x5_1).f0).length c390_0]] (by rfl) ?_ rfl rfl rfl
    with_reducible refine (F113.calls k1 _ _ ((rd_T102 l0 x5_1).f0) _ _ ((rd_T102 l1 x5_1).f0) false _ ?s1 ?s2 ?s3 ?s4 A7.out).mono ?_
    (case s1 => exact au4_19)
    (case s2 => exact HC389_0.out)
    (case s3 => exact au4_20)
    (case s4 => exact HC390_0.out)
    rintro e w12 ⟨rfl, hb⟩
    refine ⟨_, rfl, ?_⟩
    replace HB := hs_ w hb
    (try clear hb)
    (try clear hb2)
    (try clear hk)
    (try clear hi)
    refine hK.out _ _ ⟨((HB.out.cell (World.block_lt_of_cell? _ _ hw389_0)).trans hw389_0), ((HB.out.cell (World.block_lt_of_cell? _ _ hw390_0)).trans hw390_0)⟩ (fun hHeld => ?_)
    clear hK K
    refine no_ 25 ?_
    refine pu_ 9 26 (bs 10 1023) HT_ ?_ rfl rfl
    refine done_ (done_of HT_.out (by kernel_rfl)) ?_
    try go_wp2
    go_ret
    exact ⟨au4_0, bl_⟩
   have H' := am_ H
   clear H
   try go_wp2
   replace HB := am_ (below_drew1 HB.out)
   have p389 : 0 ≤ (x5_1 : Int) := od_
   have q389 : x5_1 < (l0.length : Int) := od_
   obtain ⟨ad389, A389_0, c389_0, e389, hx389_0, hl389_0, hi389_0⟩ := at_T102 HR0.out x5_1 p389 q389
   have hw389_0 := hx389_0
   cases e389
   replace hx389_0 := (HB.out.cell (World.block_lt_of_cell? _ _ hx389_0)).trans hx389_0
   have HR389_0 := am_ hi389_0
   have HC389_0 := am_ hl389_0
   clear hi389_0 hl389_0
   replace p389 := eq_true p389
   replace q389 := eq_true q389
   have p390 : 0 ≤ (x5_1 : Int) := od_
   have q390 : x5_1 < (l1.length : Int) := od_
   obtain ⟨ad390, A390_0, c390_0, e390, hx390_0, hl390_0, hi390_0⟩ := at_T102 HR1.out x5_1 p390 q390
   have hw390_0 := hx390_0
   cases e390
   replace hx390_0 := (HB.out.cell (World.block_lt_of_cell? _ _ hx390_0)).trans hx390_0
   have HR390_0 := am_ hi390_0
   have HC390_0 := am_ hl390_0
   clear hi390_0 hl390_0
   replace p390 := eq_true p390
   replace q390 := eq_true q390
   refine start_ (n := 10) (S := fun w' => w'.cell? (ad389.add (x5_1).toNat) = some (.slice A389_0 ((rd_T102 l0 x5_1).f0).length c389_0) ∧ w'.cell? (ad390.add (x5_1).toNat) = some (.slice A390_0 ((rd_T102 l1 x5_1).f0).length c390_0)) (ds := []) (bs 10 0) (by kernel_rfl) rfl rfl ⟨((HB.out.cell (World.block_lt_of_cell? _ _ hw389_0)).trans hw389_0), ((HB.out.cell (World.block_lt_of_cell? _ _ hw390_0)).trans hw390_0)⟩ (fun hHeld => ?_); refine with_tabW F84.tab6 F84.bits6 (fun HT_ HW_ => ?_)
   generalize wr.drew = w9 at HB HR389_0 HR390_0 hx389_0 hx390_0 hHeld ⊢
   refine pu_ 0 17 (bs 10 1) HT_ ?_ rfl rfl
   refine pu_ 1 18 (bs 10 3) HT_ ?_ rfl rfl
   refine pu_ 2 19 (bs 10 7) HT_ ?_ rfl rfl
   refine pu_ 4 21 (bs 10 23) HT_ ?_ rfl rfl
   refine pu_ 5 22 (bs 10 55) HT_ ?_ rfl rfl
   refine pu_ 6 23 (bs 10 119) HT_ ?_ rfl rfl
   refine tk_ 3 20 (bs 10 127) HT_ HW_ hHeld au4_27 ?_ rfl rfl
   refine tk_ 7 24 (bs 10 255) HT_ HW_ hHeld au4_27 ?_ rfl rfl
   refine one_ (i := 8) (N := some 25) (bs 10 511) rfl rfl (one_of HT_.out (by kernel_rfl)) (by decide) (fun K hK => ?_)
   refine gr_ Try.func113 #[.agg #[.slice A389_0 ((rd_T102 l0 x5_1).f0).length c389_0], .agg #[.slice A390_0 ((rd_T102 l1 x5_1).f0).length c390_0]] (by rfl) ?_ rfl rfl rfl
   with_reducible refine (F113.calls k1 _ _ ((rd_T102 l0 x5_1).f0) _ _ ((rd_T102 l1 x5_1).f0) true _ ?s1 ?s2 ?s3 ?s4 A7.out).mono ?_
   (case s1 => exact au4_19)
   (case s2 => exact HC389_0.out)
   (case s3 => exact au4_20)
   (case s4 => exact HC390_0.out)
   rintro e w10 ⟨rfl, hb⟩
   refine ⟨_, rfl, ?_⟩
   replace HB := hs_ w hb
   (try clear hb)
   (try clear hb2)
   (try clear hk)
   (try clear hi)
   refine hK.out _ _ ⟨((HB.out.cell (World.block_lt_of_cell? _ _ hw389_0)).trans hw389_0), ((HB.out.cell (World.block_lt_of_cell? _ _ hw390_0)).trans hw390_0)⟩ (fun hHeld => ?_)
   clear hK K
   refine no_ 25 ?_
   refine pu_ 9 26 (bs 10 1023) HT_ ?_ rfl rfl
   refine done_ (done_of HT_.out (by kernel_rfl)) ?_
   try go_wp2
   go_roundg k1
   case measure => have := HK1.out; omega
   case rel => exact ⟨(wrap64 (x5_1 + 1)), er_, H', ⟨by have := HK1.out; omega⟩, ⟨bl_⟩⟩
/-! ### F37: function 37 -/
def F37.f (k : Nat) (a0_0 : ByteArray) (l0_1 : List (S102)) (a1_0 : ByteArray) (l1_1 : List (S102)) : Option (Bool) := if a0_0.toList = a1_0.toList then ((F84.f k l0_1 l1_1).bind fun t394 => (if t394 = true then (some true) else (some false))) else (some false)
theorem F37.mono : ∀ a0 a1 a2 a3 k, LeO (F37.f k a0 a1 a2 a3) (F37.f (k + 1) a0 a1 a2 a3) := by
 intro a0 a1 a2 a3 k
 unfold F37.f
 repeat' with_reducible first | exact F84.mono _ _ _ | exact LeO.refl _ | exact LeO.none _ | refine LeO.ite ?_ ?_ | refine LeO.bind ?_ (fun _ => ?_)
theorem F37.calls (k : Nat) (a0_0 : ByteArray) (A0_1 : Option Addr) (c0_1 : Nat) (l0_1 : List (S102)) (a1_0 : ByteArray) (A1_1 : Option Addr) (c1_1 : Nat) (l1_1 : List (S102)) (r : Bool) (w : World) (hr0_1 : Kd.C k102 w A0_1 l0_1.length l0_1) (hc0_1 : l0_1.length ≤ c0_1) (hr1_1 : Kd.C k102 w A1_1 l1_1.length l1_1) (hc1_1 : l1_1.length ≤ c1_1) (h : F37.f k a0_0 l0_1 a1_0 l1_1 = some r) :
  Calls Try.prog 37 #[.agg #[.string a0_0, .slice A0_1 l0_1.length c0_1], .agg #[.string a1_0, .slice A1_1 l1_1.length c1_1]] w fun e w' => e = .returned (.bool r) ∧ Below w.heap.size w w' := by
 have hu59 := Try.underlying59
 have HR0_1 := am_ hr0_1
 have HC0_1 := am_ hc0_1
 clear hr0_1 hc0_1
 have HR1_1 := am_ hr1_1
 have HC1_1 := am_ hc1_1
 clear hr1_1 hc1_1
 have HB := am_ (Below.refl w.heap.size w)
 have H : (if a0_0.toList = a1_0.toList then ((F84.f k l0_1 l1_1).bind fun t394 => (if t394 = true then (some true) else (some false))) else (some false)) = some r := h
 clear h
 by_cases c3 : a0_0.toList = a1_0.toList
 rotate_left
 ·rw [if_neg c3] at H
  have c3b0 : (a0_0.toList == a1_0.toList) = false := beq_eq_false_iff_ne.mpr c3
  have c3b1 : (a0_0.toList != a1_0.toList) = true := bne_iff_ne.mpr c3
  obtain rfl := Option.some.inj H
  go_enter Try.func37, Try.ntmps37
  go_wp2_with (first | ((with_reducible refine gate_dst (N := 2) rfl ?_); refine be_ 2 #[.string a0_0, .slice A0_1 l0_1.length c0_1] 59 ?_; intro gb392 hg w18 hbox hb; have BK392 := am_ (hbox); have GW392 := am_ (gw_ hg bl_); have GE392 := GW392; replace HB := hs_ w hb; clear hb hbox hg) | ((with_reducible refine gate_dst (N := 3) rfl ?_); refine be_ 3 #[.string a1_0, .slice A1_1 l1_1.length c1_1] 59 ?_; intro gb393 hg w19 hbox hb; have BK393 := am_ (hbox); have GW393 := am_ (gw_ hg bl_); have GE393 := GW393; replace HB := hs_ w hb; have NB392_393 := am_ (gn_ hg (blkl_ BK392)); have NB393_392 := am_ (gm_ hg (blkl_ BK392)); replace BK392 := bb_ BK392 hb; clear hb hbox hg; have hnb20 := NB392_393.out; have hnc20 := NB393_392.out; obtain ⟨hcz21_0, hcz21_1, hfz21_0, hfz21_1⟩ := cellsF2 BK392.out; obtain ⟨hcz22_0, hcz22_1, hfz22_0, hfz22_1⟩ := cellsF2 BK393.out))
  go_ret
  exact ⟨au4_0, bl_⟩
 rw [if_pos c3] at H
 have c3b0 : (a0_0.toList == a1_0.toList) = true := beq_iff_eq.mpr c3
 have c3b1 : (a0_0.toList != a1_0.toList) = false := bne_eq_false_iff_eq.mpr c3
 clear c3
 replace H := bi_ H; rcases H with ⟨t394, A4, H⟩
 replace H := ib_ H; rcases H with ⟨rfl, H⟩ | ⟨rfl, H⟩
 rotate_left
 ·obtain rfl := Option.some.inj H
  go_enter Try.func37, Try.ntmps37
  go_wp2_with (first | ((with_reducible refine gate_dst (N := 2) rfl ?_); refine be_ 2 #[.string a0_0, .slice A0_1 l0_1.length c0_1] 59 ?_; intro gb392 hg w12 hbox hb; have BK392 := am_ (hbox); have GW392 := am_ (gw_ hg bl_); have GE392 := GW392; replace HB := hs_ w hb; clear hb hbox hg) | ((with_reducible refine gate_dst (N := 3) rfl ?_); refine be_ 3 #[.string a1_0, .slice A1_1 l1_1.length c1_1] 59 ?_; intro gb393 hg w13 hbox hb; have BK393 := am_ (hbox); have GW393 := am_ (gw_ hg bl_); have GE393 := GW393; replace HB := hs_ w hb; have NB392_393 := am_ (gn_ hg (blkl_ BK392)); have NB393_392 := am_ (gm_ hg (blkl_ BK392)); replace BK392 := bb_ BK392 hb; clear hb hbox hg; have hnb14 := NB392_393.out; have hnc14 := NB393_392.out; obtain ⟨hcz15_0, hcz15_1, hfz15_0, hfz15_1⟩ := cellsF2 BK392.out; obtain ⟨hcz16_0, hcz16_1, hfz16_0, hfz16_1⟩ := cellsF2 BK393.out) | ((with_reducible refine gate_callee (f := 84) rfl ?_); refine gl_ 14 Try.func84 #[.slice A0_1 l0_1.length c0_1, .slice A1_1 l1_1.length c1_1] ?_ rfl rfl rfl rfl; (with_reducible refine (F84.calls k _ _ l0_1 _ _ l1_1 false _ ?s1 ?s2 ?s3 ?s4 A4.out).mono ?_); (case s1 => exact au4_23); (case s2 => exact HC0_1.out); (case s3 => exact au4_24); (case s4 => exact HC1_1.out); rintro e w17 ⟨rfl, hb⟩; refine ⟨_, rfl, ?_⟩; replace BK392 := bb_ BK392 hb; replace BK393 := bb_ BK393 hb; replace HB := hs_ w hb; (try clear hb)))
  go_ret
  exact ⟨au4_0, bl_⟩
 obtain rfl := Option.some.inj H
 go_enter Try.func37, Try.ntmps37
 go_wp2_with (first | ((with_reducible refine gate_dst (N := 2) rfl ?_); refine be_ 2 #[.string a0_0, .slice A0_1 l0_1.length c0_1] 59 ?_; intro gb392 hg w6 hbox hb; have BK392 := am_ (hbox); have GW392 := am_ (gw_ hg bl_); have GE392 := GW392; replace HB := hs_ w hb; clear hb hbox hg) | ((with_reducible refine gate_dst (N := 3) rfl ?_); refine be_ 3 #[.string a1_0, .slice A1_1 l1_1.length c1_1] 59 ?_; intro gb393 hg w7 hbox hb; have BK393 := am_ (hbox); have GW393 := am_ (gw_ hg bl_); have GE393 := GW393; replace HB := hs_ w hb; have NB392_393 := am_ (gn_ hg (blkl_ BK392)); have NB393_392 := am_ (gm_ hg (blkl_ BK392)); replace BK392 := bb_ BK392 hb; clear hb hbox hg; have hnb8 := NB392_393.out; have hnc8 := NB393_392.out; obtain ⟨hcz9_0, hcz9_1, hfz9_0, hfz9_1⟩ := cellsF2 BK392.out; obtain ⟨hcz10_0, hcz10_1, hfz10_0, hfz10_1⟩ := cellsF2 BK393.out) | ((with_reducible refine gate_callee (f := 84) rfl ?_); refine gl_ 14 Try.func84 #[.slice A0_1 l0_1.length c0_1, .slice A1_1 l1_1.length c1_1] ?_ rfl rfl rfl rfl; (with_reducible refine (F84.calls k _ _ l0_1 _ _ l1_1 true _ ?s1 ?s2 ?s3 ?s4 A4.out).mono ?_); (case s1 => exact au4_23); (case s2 => exact HC0_1.out); (case s3 => exact au4_24); (case s4 => exact HC1_1.out); rintro e w11 ⟨rfl, hb⟩; refine ⟨_, rfl, ?_⟩; replace BK392 := bb_ BK392 hb; replace BK393 := bb_ BK393 hb; replace HB := hs_ w hb; (try clear hb)))
 go_ret
 exact ⟨au4_0, bl_⟩
end Go.Proofs.Ytchoalagkcdbhaa.PFnExactSegmentsRead
