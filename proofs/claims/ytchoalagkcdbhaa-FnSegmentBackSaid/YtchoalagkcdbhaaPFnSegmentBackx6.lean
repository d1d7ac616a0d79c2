-- printed by a program of this session (wip/xp/xprint.py) out of the translation; Lean checks it
import Derived.Test.YtchoalagkcdbhaaPFnSegmentBackx0
import Derived.Test.YtchoalagkcdbhaaPFnSegmentBackx1
import Derived.Test.YtchoalagkcdbhaaPFnSegmentBackx3
import Derived.Test.YtchoalagkcdbhaaPFnSegmentBackx4
import Derived.Test.YtchoalagkcdbhaaPFnSegmentBackx5
namespace Go.Proofs.Ytchoalagkcdbhaa.PFnSegmentBack
open Go.RowKit Go.Proofs.YtchoalagkcdbhaaW.PrintWords Go.Proofs.YtchoalagkcdbhaaW.PrintLast Go.Proofs.YtchoalagkcdbhaaW.PrintMore
attribute [local go_sem] max2_int min2_int max_two min_two max_three min_three max_four min_four   -- for this text's walks alone
set_option linter.unusedVariables false
set_option linter.unusedSimpArgs false
set_option maxHeartbeats 8000000
set_option maxRecDepth 100000

theorem is6_0_ {p : Prop} (h : p := by repeat (first | (with_reducible first | exact HI0.out | apply IsS121.alloc | apply IsS121.drewN | apply IsS121.drew | apply IsS121.set_1 | apply IsS121.set_2 | apply IsS121.set_3 | refine IsS121.far ?_ (Aside0.out (by assumption)) _) | exact HI0.out)) : p := h
theorem is6_1_ {p : Prop} (h : p := by repeat (first | (with_reducible first | exact HI697.out | apply IsS121.alloc | apply IsS121.drewN | apply IsS121.drew | apply IsS121.set_1 | apply IsS121.set_2 | apply IsS121.set_3 | refine IsS121.far ?_ (Aside0.out (by assumption)) _) | exact HI697.out)) : p := h

theorem au6_0 {p : Prop} (h : p := by (with_reducible repeat (first | apply Kd.S_alloc | apply Kd.S_drewN | apply Kd.S_drew)); exact HO_744001.out) : p := h
theorem au6_1 {p : Prop} (h : p := by (with_reducible repeat (first | apply Kd.S_alloc | apply Kd.S_drewN | apply Kd.S_drew)); exact (Kd.S_mono (Kd.S_far (p := ⟨gb761, 3, none⟩) (Kd.S_far (p := ⟨gb761, 2, none⟩) (Kd.S_far (p := ⟨gb761, 1, none⟩) (Kd.S_far (p := ⟨gb761, 0, none⟩) (Kd.S_types HO_744001.out BK761.out (by decide)) (fun _ hk => hk.2) (.int .i64 t756)) (fun _ hk => hk.2) (.int .i64 t757)) (fun _ hk => hk.2) (.int .i64 t758)) (fun _ hk => hk.2) (.int .i64 t759)) (fun _ h_ => h_.1))) : p := h
theorem au6_2 {p : Prop} (h : p := by repeat (first | (with_reducible first | exact HK.out | apply KeepBut.set_ | apply keep_drewN | apply keep_drew | apply keep_alloc) | exact HK.out)) : p := h
theorem au6_3 {p : Prop} (h : p := by repeat (first | (with_reducible first | exact HI0.out | apply IsS121.alloc | apply IsS121.drewN | apply IsS121.drew | apply IsS121.set_1 | apply IsS121.set_2 | apply IsS121.set_3) | exact HI0.out)) : p := h
theorem au6_4 {p : Prop} (h : p := by repeat (first | (with_reducible first | exact HB.out | apply below_alloc | apply pw_below_drewN | apply below_drew1 | refine below_set ?_ (IsS121.ge HI0.out)) | exact HB.out)) : p := h
theorem au6_5 {p : Prop} (h : p := by repeat (first | (with_reducible first | exact HI697.out | apply IsS121.alloc | apply IsS121.drewN | apply IsS121.drew | apply IsS121.set_1 | apply IsS121.set_2 | apply IsS121.set_3 | refine IsS121.far ?_ NB697_692.out _ | refine IsS121.far ?_ NB697_705.out _) | exact HI697.out)) : p := h
theorem au6_6 {p : Prop} (h : p := by (with_reducible repeat (first | apply Kd.S_alloc | apply Kd.S_drewN | apply Kd.S_drew)); exact HO765.out) : p := h
theorem au6_7 {p : Prop} (h : p := by repeat (first | (with_reducible first | exact HB.out | apply below_alloc | apply pw_below_drewN | apply below_drew1 | refine below_set ?_ (IsS121.ge HI697.out) | refine below_set ?_ GE692.out | refine below_set ?_ GE705.out) | exact HB.out)) : p := h
theorem au6_8 {p : Prop} (h : p := by first | rfl | (simp [errW_none, errW_some] <;> rfl) | (simp [*, errW_none, errW_some] <;> rfl)) : p := h
theorem au6_9 {p : Prop} (h : p := by repeat (first | (with_reducible first | exact HB.out | apply below_alloc | apply pw_below_drewN | apply below_drew1 | refine below_set ?_ (IsS121.ge HI697.out) | refine below_set ?_ GE692.out | refine below_set ?_ GE705.out) | exact HB.out)) : p := h
theorem au6_10 {p : Prop} (h : p := by (with_reducible repeat (first | apply Kd.S_alloc | apply Kd.S_drewN | apply Kd.S_drew)); exact (Kd.S_mono (Kd.S_mono (Kd.S_far (p := ⟨gb743, 1, none⟩) (Kd.S_far (p := ⟨gb743, 0, none⟩) (Kd.S_far (p := ⟨gb742, 3, none⟩) (Kd.S_far (p := ⟨gb742, 2, none⟩) (Kd.S_far (p := ⟨gb742, 1, none⟩) (Kd.S_far (p := ⟨gb742, 0, none⟩) (Kd.S_types (Kd.S_types HO741.out BK742.out (by decide)) BK743.out (by decide)) (fun _ hk => hk.1.2) (.int .i64 t734)) (fun _ hk => hk.1.2) (.int .i64 t735)) (fun _ hk => hk.1.2) (.int .i64 t736)) (fun _ hk => hk.1.2) (.int .i64 t737)) (fun _ hk => hk.2) (.string t738)) (fun _ hk => hk.2) (.slice Ao14 t739.length co14)) (fun _ h_ => h_.1)) (fun _ h_ => h_.1))) : p := h
theorem au6_11 {p : Prop} (h : p := by repeat (first | (with_reducible first | exact HB.out | apply below_alloc | apply pw_below_drewN | apply below_drew1 | refine below_set ?_ (IsS121.ge HI0.out)) | exact HB.out)) : p := h
theorem au6_12 {p : Prop} (h : p := by repeat (first | exact (Kd.C_below HR1.out HB.out) | (with_reducible refine Kd.C_alloc ?_ _) | (with_reducible refine Kd.C_drewN ?_ _) | (with_reducible refine Kd.C_drew ?_))) : p := h
theorem au6_13 {p : Prop} (h : p := by exact (Reps.one (show Kd.M (Kd.int .u8) _ _ _ (bt (⟨#[32, 10, 48, 97, 45, 110, 44, 58, 93, 255, 40, 120, 126, 49, 128, 225, 59]⟩ : ByteArray) t677) [.int .u8 (bt (⟨#[32, 10, 48, 97, 45, 110, 44, 58, 93, 255, 40, 120, 126, 49, 128, 225, 59]⟩ : ByteArray) t677)] from rfl) (Reps.none _ _))) : p := h
theorem au6_14 {p : Prop} (h : p := by repeat (first | (with_reducible first | exact HK.out | apply KeepBut.set_ | apply keep_drewN | apply keep_drew | apply keep_alloc) | exact HK.out)) : p := h
theorem au6_15 {p : Prop} (h : p := by (with_reducible repeat (first | apply Kd.S_alloc | apply Kd.S_drewN | apply Kd.S_drew)); exact (Kd.S_mono (Kd.S_far (p := ⟨gb754, 4, none⟩) (Kd.S_far (p := ⟨gb754, 3, none⟩) (Kd.S_far (p := ⟨gb754, 2, none⟩) (Kd.S_far (p := ⟨gb754, 1, none⟩) (Kd.S_far (p := ⟨gb754, 0, none⟩) (Kd.S_types HO_744001.out BK754.out (by decide)) (fun _ hk => hk.2) (.string t747)) (fun _ hk => hk.2) (.slice Ao45 t748.length co45)) (fun _ hk => hk.2) (.int .i64 t751)) (fun _ hk => hk.2) (.int .i64 t752)) (fun _ hk => hk.2) (.int .i64 t753)) (fun _ h_ => h_.1))) : p := h
theorem au6_16 {p : Prop} (h : p := by (with_reducible repeat (first | apply Kd.S_alloc | apply Kd.S_drewN | apply Kd.S_drew)); exact (Kd.S_mono (Kd.S_far (p := ⟨gb754, 4, none⟩) (Kd.S_far (p := ⟨gb754, 3, none⟩) (Kd.S_far (p := ⟨gb754, 2, none⟩) (Kd.S_far (p := ⟨gb754, 1, none⟩) (Kd.S_far (p := ⟨gb754, 0, none⟩) (Kd.S_types HO_744001.out BK754.out (by decide)) (fun _ hk => hk.2) (.string t747)) (fun _ hk => hk.2) (.slice Ao58 t748.length co58)) (fun _ hk => hk.2) (.int .i64 t751)) (fun _ hk => hk.2) (.int .i64 t752)) (fun _ hk => hk.2) (.int .i64 t753)) (fun _ h_ => h_.1))) : p := h
theorem au6_17 {p : Prop} (h : p := by (with_reducible repeat (first | apply Kd.S_alloc | apply Kd.S_drewN | apply Kd.S_drew)); exact (Kd.S_mono (Kd.S_far (p := ⟨gb754, 4, none⟩) (Kd.S_far (p := ⟨gb754, 3, none⟩) (Kd.S_far (p := ⟨gb754, 2, none⟩) (Kd.S_far (p := ⟨gb754, 1, none⟩) (Kd.S_far (p := ⟨gb754, 0, none⟩) (Kd.S_types HO750.out BK754.out (by decide)) (fun _ hk => hk.2) (.string t747)) (fun _ hk => hk.2) (.slice Ao45 t748.length co45)) (fun _ hk => hk.2) (.int .i64 t751)) (fun _ hk => hk.2) (.int .i64 t752)) (fun _ hk => hk.2) (.int .i64 t753)) (fun _ h_ => h_.1))) : p := h
theorem au6_18 {p : Prop} (h : p := by (with_reducible repeat (first | apply Kd.S_alloc | apply Kd.S_drewN | apply Kd.S_drew)); exact (Kd.S_mono (Kd.S_far (p := ⟨gb754, 4, none⟩) (Kd.S_far (p := ⟨gb754, 3, none⟩) (Kd.S_far (p := ⟨gb754, 2, none⟩) (Kd.S_far (p := ⟨gb754, 1, none⟩) (Kd.S_far (p := ⟨gb754, 0, none⟩) (Kd.S_types HO750.out BK754.out (by decide)) (fun _ hk => hk.2) (.string t747)) (fun _ hk => hk.2) (.slice Ao58 t748.length co58)) (fun _ hk => hk.2) (.int .i64 t751)) (fun _ hk => hk.2) (.int .i64 t752)) (fun _ hk => hk.2) (.int .i64 t753)) (fun _ h_ => h_.1))) : p := h
theorem au6_19 {p : Prop} (h : p := by repeat (first | exact (Kd.S_reads' HO_744001.out).2.2 | (with_reducible refine Kd.C_alloc ?_ _) | (with_reducible refine Kd.C_drewN ?_ _) | (with_reducible refine Kd.C_drew ?_))) : p := h
theorem au6_20 {p : Prop} (h : p := by rintro w' ⟨s0, s1, s2, s3, s4, s5, s6, s7⟩; go_simp; with_reducible rfl) : p := h
theorem au6_21 {p : Prop} (h : p := by repeat (first | (with_reducible first | exact HB.out | apply below_alloc | apply pw_below_drewN | apply below_drew1 | refine below_set ?_ (IsS121.ge HI697.out) | refine below_set ?_ GE692.out) | exact HB.out)) : p := h
theorem au6_22 {p : Prop} (h : p := by repeat (first | (with_reducible first | exact HB.out | apply below_alloc | apply pw_below_drewN | apply below_drew1 | refine below_set ?_ (IsS121.ge HI0.out)) | exact HB.out)) : p := h
theorem au6_23 {p : Prop} (h : p := by (with_reducible repeat (first | apply Kd.S_alloc | apply Kd.S_drewN | apply Kd.S_drew)); exact HO750.out) : p := h
theorem au6_24 {p : Prop} (h : p := by rintro w' ⟨s0, s1, s2, s3, s4, s5, s6, s7, s8⟩; go_simp; with_reducible rfl) : p := h
theorem au6_25 {p : Prop} (h : p := by repeat (first | (with_reducible first | exact HB.out | apply below_alloc | apply pw_below_drewN | apply below_drew1 | refine below_set ?_ (IsS121.ge HI697.out) | refine below_set ?_ GE692.out | refine below_set ?_ GE705.out) | exact HB.out)) : p := h
theorem au6_26 {p : Prop} (h : p := by first | omega | exact Nat.le_refl _) : p := h
theorem au6_27 {p : Prop} (h : p := by (with_reducible repeat (first | apply Kd.S_alloc | apply Kd.S_drewN | apply Kd.S_drew)); exact HO709.out) : p := h
theorem au6_28 {p : Prop} (h : p := by (with_reducible repeat (first | apply Kd.S_alloc | apply Kd.S_drewN | apply Kd.S_drew)); exact HO741.out) : p := h
theorem au6_29 {p : Prop} (h : p := by exact (Kd.S_reads' HO_744001.out).2.1) : p := h
theorem au6_30 {p : Prop} (h : p := by rintro w' ⟨s0, s1, s2, s3, s4⟩; go_simp; with_reducible rfl) : p := h
theorem au6_31 {p : Prop} (h : p := by have := HJ2.out; have := HK2.out; have := HK3.out; omega) : p := h
theorem au6_32 {p : Prop} (h : p := by (with_reducible repeat (first | apply Kd.S_alloc | apply Kd.S_drewN | apply Kd.S_drew)); exact HO741.out) : p := h
theorem au6_33 {p : Prop} (h : p := by have := HJ2.out; have := HJ6.out; first | omega | exact Nat.le_refl _) : p := h

/-! ### F38: function 38 -/
mutual
def F38.j0 : Nat → Bool → Int → Int → Int → Int → ByteArray → List (S102) → Option (ByteArray)
  | 0, _, _, _, _, _, _, _ => none
  | k + 1, x15, x654000, x654001, x654002, x654003, x655000, x655001 => if x15 = true then (some (⟨#[]⟩ : ByteArray)) else (F38.l0 k x655000 0 x654000 x654001 x654002 x654003 x655000 x655001)
def F38.l0 : Nat → ByteArray → Int → Int → Int → Int → Int → ByteArray → List (S102) → Option (ByteArray)
  | 0, _, _, _, _, _, _, _, _ => none
  | k + 1, x5, x6, x654000, x654001, x654002, x654003, x655000, x655001 => if x6 < (x655001.length : Int) then ((some (([(x654001) % 256] : List Int) : List Int)).bind fun y660 => (if x5.size + (strOfNums y660).size ≤ 9223372036854775807 then (F38.l1 k (x5 ++ (strOfNums y660)) x6 0 x654000 x654001 x654002 x654003 x655000 x655001) else (none))) else ((some (([(x654000) % 256] : List Int) : List Int)).bind fun y657 => (if x5.size + (strOfNums y657).size ≤ 9223372036854775807 then (some (x5 ++ (strOfNums y657))) else (none)))
def F38.l1 : Nat → ByteArray → Int → Int → Int → Int → Int → Int → ByteArray → List (S102) → Option (ByteArray)
  | 0, _, _, _, _, _, _, _, _, _ => none
  | k + 1, x5, x6, x7, x654000, x654001, x654002, x654003, x655000, x655001 => if 0 ≤ x6 then (if x6 < (x655001.length : Int) then (if x7 < (((rd_T102 x655001 x6).f0).length : Int) then (if x7 > 0 then ((some (([(x654002) % 256] : List Int) : List Int)).bind fun y664 => (if x5.size + (strOfNums y664).size ≤ 9223372036854775807 then (if 0 ≤ x7 then ((F85.f k x654000 x654001 x654002 x654003 (rdOf ByteArray.empty ((rd_T102 x655001 x6).f0) x7)).bind fun t669 => (if (x5 ++ (strOfNums y664)).size + t669.size ≤ 9223372036854775807 then (F38.l1 k ((x5 ++ (strOfNums y664)) ++ t669) x6 (wrap64 (x7 + 1)) x654000 x654001 x654002 x654003 x655000 x655001) else (none))) else (none)) else (none))) else (if 0 ≤ x7 then ((F85.f k x654000 x654001 x654002 x654003 (rdOf ByteArray.empty ((rd_T102 x655001 x6).f0) x7)).bind fun t672 => (if x5.size + t672.size ≤ 9223372036854775807 then (F38.l1 k (x5 ++ t672) x6 (wrap64 (x7 + 1)) x654000 x654001 x654002 x654003 x655000 x655001) else (none))) else (none))) else (F38.l0 k x5 (wrap64 (x6 + 1)) x654000 x654001 x654002 x654003 x655000 x655001)) else (none)) else (none)
end
def F38.f (k : Nat) (a0_0 : Int) (a0_1 : Int) (a0_2 : Int) (a0_3 : Int) (a1_0 : ByteArray) (l1_1 : List (S102)) : Option (ByteArray) := (F23.f k a0_0 a0_1 a0_2 a0_3).bind fun t655 => (if t655 = true then ((F34.f k a1_0 l1_1).bind fun t656 => (F38.j0 k (!t656) a0_0 a0_1 a0_2 a0_3 a1_0 l1_1)) else (F38.j0 k true a0_0 a0_1 a0_2 a0_3 a1_0 l1_1))
theorem F38.mono_l : ∀ k, (∀ y0 y1 y2 y3 y4 y5 y6, LeO (F38.j0 k y0 y1 y2 y3 y4 y5 y6) (F38.j0 (k + 1) y0 y1 y2 y3 y4 y5 y6)) ∧ (∀ y0 y1 y2 y3 y4 y5 y6 y7, LeO (F38.l0 k y0 y1 y2 y3 y4 y5 y6 y7) (F38.l0 (k + 1) y0 y1 y2 y3 y4 y5 y6 y7)) ∧ (∀ y0 y1 y2 y3 y4 y5 y6 y7 y8, LeO (F38.l1 k y0 y1 y2 y3 y4 y5 y6 y7 y8) (F38.l1 (k + 1) y0 y1 y2 y3 y4 y5 y6 y7 y8))
 | 0 => ⟨fun _ _ _ _ _ _ _ r h => by simp [F38.j0] at h, fun _ _ _ _ _ _ _ _ r h => by simp [F38.l0] at h, fun _ _ _ _ _ _ _ _ _ r h => by simp [F38.l1] at h⟩
 | k + 1 => by
  obtain ⟨ih0, ih1, ih2⟩ := F38.mono_l k
  refine ⟨?_, ?_, ?_⟩
  rotate_left
  ·intro y0 y1 y2 y3 y4 y5 y6 y7
   unfold F38.l0
   repeat' with_reducible first | exact ih0 _ _ _ _ _ _ _ | exact ih1 _ _ _ _ _ _ _ _ | exact ih2 _ _ _ _ _ _ _ _ _ | exact F34.mono _ _ _ | exact F23.mono _ _ _ _ _ | exact F85.mono _ _ _ _ _ _ | exact LeO.refl _ | exact LeO.none _ | refine LeO.ite ?_ ?_ | refine LeO.bind ?_ (fun _ => ?_)
  ·intro y0 y1 y2 y3 y4 y5 y6 y7 y8
   unfold F38.l1
   repeat' with_reducible first | exact ih0 _ _ _ _ _ _ _ | exact ih1 _ _ _ _ _ _ _ _ | exact ih2 _ _ _ _ _ _ _ _ _ | exact F34.mono _ _ _ | exact F23.mono _ _ _ _ _ | exact F85.mono _ _ _ _ _ _ | exact LeO.refl _ | exact LeO.none _ | refine LeO.ite ?_ ?_ | refine LeO.bind ?_ (fun _ => ?_)
  intro y0 y1 y2 y3 y4 y5 y6
  unfold F38.j0
  repeat' with_reducible first | exact ih0 _ _ _ _ _ _ _ | exact ih1 _ _ _ _ _ _ _ _ | exact ih2 _ _ _ _ _ _ _ _ _ | exact F34.mono _ _ _ | exact F23.mono _ _ _ _ _ | exact F85.mono _ _ _ _ _ _ | exact LeO.refl _ | exact LeO.none _ | refine LeO.ite ?_ ?_ | refine LeO.bind ?_ (fun _ => ?_)
theorem F38.mono : ∀ a0 a1 a2 a3 a4 a5 k, LeO (F38.f k a0 a1 a2 a3 a4 a5) (F38.f (k + 1) a0 a1 a2 a3 a4 a5) := by
 intro a0 a1 a2 a3 a4 a5 k
 obtain ⟨ih0, ih1, ih2⟩ := F38.mono_l k
 unfold F38.f
 repeat' with_reducible first | exact ih0 _ _ _ _ _ _ _ | exact ih1 _ _ _ _ _ _ _ _ | exact ih2 _ _ _ _ _ _ _ _ _ | exact F34.mono _ _ _ | exact F23.mono _ _ _ _ _ | exact F85.mono _ _ _ _ _ _ | exact LeO.refl _ | exact LeO.none _ | refine LeO.ite ?_ ?_ | refine LeO.bind ?_ (fun _ => ?_)
def F38.T13 : Bool × List (List Nat × List Nat) := (true, [([], []), ([], []), ([], []), ([2], [2]), ([], []), ([3, 4], [3, 4]), ([5], [5]), ([6], [6]), ([], []), ([7, 8], [7, 8]), ([9], [9]), ([1, 10], [1, 10]), ([0, 11], [0, 11]), ([12, 11, 0, 1, 2, 3, 4, 5, 6, 7, 8, 9, 10, 11, 12], [0, 12])])
def F38.B13 : List Nat := [0, 0, 0, 4, 0, 28, 60, 124, 0, 508, 1020, 2046, 4095, 8191]
theorem F38.tab13 : rtab .any (opsOf Try.f38 13) = F38.T13 := by kernel_rfl
theorem F38.bits13 : waitsOk F38.T13.2 F38.B13 = true := by kernel_rfl
theorem F38.calls (k : Nat) (a0_0 : Int) (a0_1 : Int) (a0_2 : Int) (a0_3 : Int) (a1_0 : ByteArray) (A1_1 : Option Addr) (c1_1 : Nat) (l1_1 : List (S102)) (r : ByteArray) (w : World) (hr1_1 : Kd.C k102 w A1_1 l1_1.length l1_1) (hc1_1 : l1_1.length ≤ c1_1) (h : F38.f k a0_0 a0_1 a0_2 a0_3 a1_0 l1_1 = some r) :
  Calls Try.prog 38 #[.agg #[.int .i64 a0_0, .int .i64 a0_1, .int .i64 a0_2, .int .i64 a0_3], .agg #[.string a1_0, .slice A1_1 l1_1.length c1_1]] w fun e w' => e = .returned (.string r) ∧ Below w.heap.size w w' := by
 have hu23 := Try.underlying23
 have hu59 := Try.underlying59
 have HR1_1 := am_ hr1_1
 have HC1_1 := am_ hc1_1
 clear hr1_1 hc1_1
 have HB := am_ (Below.refl w.heap.size w)
 have H : ((F23.f k a0_0 a0_1 a0_2 a0_3).bind fun t655 => (if t655 = true then ((F34.f k a1_0 l1_1).bind fun t656 => (F38.j0 k (!t656) a0_0 a0_1 a0_2 a0_3 a1_0 l1_1)) else (F38.j0 k true a0_0 a0_1 a0_2 a0_3 a1_0 l1_1))) = some r := h
 clear h
 have HC3 := am_ H
 clear H
 go_enter Try.func38, Try.ntmps38
 go_upto_region 1 with (first | ((with_reducible refine gate_dst (N := 2) rfl ?_); refine be_ 2 #[.int .i64 a0_0, .int .i64 a0_1, .int .i64 a0_2, .int .i64 a0_3] 23 ?_; intro gb653 hg w4 hbox hb; have BK653 := am_ (hbox); have GW653 := am_ (gw_ hg bl_); have GE653 := GW653; replace HB := hs_ w hb; clear hb hbox hg) | ((with_reducible refine gate_dst (N := 3) rfl ?_); refine be_ 3 #[.string a1_0, .slice A1_1 l1_1.length c1_1] 59 ?_; intro gb654 hg w5 hbox hb; have BK654 := am_ (hbox); have GW654 := am_ (gw_ hg bl_); have GE654 := GW654; replace HB := hs_ w hb; have NB653_654 := am_ (gn_ hg (blkl_ BK653)); have NB654_653 := am_ (gm_ hg (blkl_ BK653)); replace BK653 := bb_ BK653 hb; clear hb hbox hg))
 (try simp only [Act.put, List.setIfInBounds_toArray, List.set_cons_zero, List.set_cons_succ])
 go_cut [15] (fun v15 wc => ∃ (kq : Nat) (x15_2 : Bool), v15 = .bool x15_2 ∧ Aside0 (F38.j0 kq x15_2 a0_0 a0_1 a0_2 a0_3 a1_0 l1_1 = some r) ∧ Aside0 (kq ≤ k) ∧ Aside0 (wc.heap[gb653]? = some (.cells #[.int .i64 a0_0, .int .i64 a0_1, .int .i64 a0_2, .int .i64 a0_3] 23 (0, 0))) ∧ Aside0 (wc.heap[gb654]? = some (.cells #[.string a1_0, (.slice A1_1 l1_1.length c1_1)] 59 (0, 0))) ∧ Aside0 (Below w.heap.size w wc))
 case first =>
  have H := HC3.out
  clear HC3
  replace H := bi_ H; rcases H with ⟨t655, A6, H⟩
  replace H := ib_ H; rcases H with ⟨rfl, H⟩ | ⟨rfl, H⟩
  rotate_left
  ·have H' := am_ H
   clear H
   have hnb14 := NB653_654.out
   have hnc14 := NB654_653.out
   obtain ⟨hcz15_0, hcz15_1, hcz15_2, hcz15_3, hfz15_0, hfz15_1, hfz15_2, hfz15_3⟩ := cellsF4 BK653.out
   go_wp2_with (first | (go_at_call 23; (with_reducible refine (F23.calls k a0_0 a0_1 a0_2 a0_3 false _ A6.out).mono ?_); rintro e w16 ⟨rfl, hb⟩; (try clear A6); replace BK653 := bb_ BK653 hb; replace BK654 := bb_ BK654 hb; replace HB := hs_ w hb; (try clear hb)))
   go_meet
   case rel => exact ⟨_, (true), er_, H', ⟨au6_26⟩, ⟨bk_ BK653⟩, ⟨bk_ BK654⟩, ⟨bl_⟩⟩
  replace H := bi_ H; rcases H with ⟨t656, A8, H⟩
  have H' := am_ H
  clear H
  have hnb9 := NB653_654.out
  have hnc9 := NB654_653.out
  obtain ⟨hcz10_0, hcz10_1, hcz10_2, hcz10_3, hfz10_0, hfz10_1, hfz10_2, hfz10_3⟩ := cellsF4 BK653.out
  go_wp2_with (first | (go_at_call 23; (with_reducible refine (F23.calls k a0_0 a0_1 a0_2 a0_3 true _ A6.out).mono ?_); rintro e w11 ⟨rfl, hb⟩; (try clear A6); replace BK653 := bb_ BK653 hb; replace BK654 := bb_ BK654 hb; replace HB := hs_ w hb; (try clear hb); obtain ⟨hcz12_0, hcz12_1, hfz12_0, hfz12_1⟩ := cellsF2 BK654.out) | (go_at_call 34; (with_reducible refine (F34.calls k a1_0 _ _ l1_1 t656 _ ?s1 ?s2 A8.out).mono ?_); (case s1 => repeat (first | exact (Kd.C_below HR1_1.out HB.out) | (with_reducible refine Kd.C_alloc ?_ _) | (with_reducible refine Kd.C_drewN ?_ _) | (with_reducible refine Kd.C_drew ?_))); (case s2 => exact HC1_1.out); rintro e w13 ⟨rfl, hb⟩; (try clear A8); replace BK653 := bb_ BK653 hb; replace BK654 := bb_ BK654 hb; replace HB := hs_ w hb; (try clear hb)))
  go_meet
  case rel => exact ⟨_, (!t656), er_, H', ⟨au6_26⟩, ⟨bk_ BK653⟩, ⟨bk_ BK654⟩, ⟨bl_⟩⟩
 case rest =>
  clear HC3
  try clear hcz10_0 hcz10_1 hcz10_2 hcz10_3
  try clear hcz12_0 hcz12_1
  try clear hcz15_0 hcz15_1 hcz15_2 hcz15_3
  try clear hfz10_0 hfz10_1 hfz10_2 hfz10_3
  try clear hfz12_0 hfz12_1
  try clear hfz15_0 hfz15_1 hfz15_2 hfz15_3
  obtain ⟨kq, x15_2, rfl, HA, HJ2, BK653, BK654, HB⟩ := hcut
  cases kq with
  | zero => exact absurd HA.out (by simp [F38.j0])
  | succ kj2 =>
   have H := HA.out
   clear HA
   simp only [F38.j0] at H
   replace H := ib_ H; rcases H with ⟨rfl, H⟩ | ⟨rfl, H⟩
   ·obtain rfl := Option.some.inj H
    go_wp2
    go_ret
    exact ⟨au6_8, bl_⟩
   have H' := am_ H
   clear H
   have hnb18 := NB654_653.out
   have hnc18 := NB653_654.out
   obtain ⟨hcz19_0, hcz19_1, hfz19_0, hfz19_1⟩ := cellsF2 BK654.out
   go_wp2
   go_loopg [5, 6] kj2 (fun kq v5 v6 w' => ∃ (x5_2 : ByteArray) (x6_2 : Int), v5 = .string x5_2 ∧ v6 = .int .i64 x6_2 ∧ Aside0 (F38.l0 kq x5_2 x6_2 a0_0 a0_1 a0_2 a0_3 a1_0 l1_1 = some r) ∧ Aside0 (kq ≤ kj2) ∧ Aside0 (w'.heap[gb653]? = some (.cells #[.int .i64 a0_0, .int .i64 a0_1, .int .i64 a0_2, .int .i64 a0_3] 23 (0, 0))) ∧ Aside0 (w'.heap[gb654]? = some (.cells #[.string a1_0, (.slice A1_1 l1_1.length c1_1)] 59 (0, 0))) ∧ Aside0 (Below w.heap.size w w'))
   case atStart => exact ⟨(a1_0), (0), er_, er_, H', ⟨Nat.le_refl _⟩, ⟨bk_ BK653⟩, ⟨bk_ BK654⟩, ⟨bl_⟩⟩
   case round =>
    clear H'
    try clear hcz10_0 hcz10_1 hcz10_2 hcz10_3
    try clear hcz12_0 hcz12_1
    try clear hcz15_0 hcz15_1 hcz15_2 hcz15_3
    try clear hcz19_0 hcz19_1
    try clear hfz10_0 hfz10_1 hfz10_2 hfz10_3
    try clear hfz12_0 hfz12_1
    try clear hfz15_0 hfz15_1 hfz15_2 hfz15_3
    try clear hfz19_0 hfz19_1
    obtain ⟨x5_2, x6_2, rfl, rfl, HA, HK2, BK653, BK654, HB⟩ := hrel
    cases gk with
    | zero => exact absurd HA.out (by simp [F38.l0])
    | succ k2 =>
     have H := HA.out
     clear HA
     simp only [F38.l0] at H
     replace H := it_ H; rcases H with ⟨c20b0, H⟩ | ⟨c20b0, H⟩
     rotate_left
     ·obtain ⟨y657, hy657⟩ : ∃ y_ : List Int, y_ = (([(a0_0) % 256] : List Int)) := ⟨_, rfl⟩
      replace H : (if x5_2.size + (strOfNums y657).size ≤ 9223372036854775807 then (some (x5_2 ++ (strOfNums y657))) else (none)) = some r := by first | (rw [hy657]; exact H) | exact H
      have Ny657 := am_ hy657
      clear hy657
      by_cases c53 : x5_2.size + (strOfNums y657).size ≤ 9223372036854775807
      rotate_left
      ·rw [if_neg c53] at H
       exact absurd H (by simp)

      rw [if_pos c53] at H
      have c53b0 := eq_true c53
      have c53b1 : decide (x5_2.size + (strOfNums y657).size ≤ 9223372036854775807) = true := decide_eq_true c53
      try have c53b2 : (9223372036854775807 < x5_2.size + (strOfNums y657).size) = False := eq_false (Nat.not_lt.2 c53)
      obtain rfl := Option.some.inj H
      have hnb54 := NB654_653.out
      have hnc54 := NB653_654.out
      obtain ⟨hcz55_0, hcz55_1, hfz55_0, hfz55_1⟩ := cellsF2 BK654.out
      obtain ⟨hcz56_0, hcz56_1, hcz56_2, hcz56_3, hfz56_0, hfz56_1, hfz56_2, hfz56_3⟩ := cellsF4 BK653.out
      go_wp2_with (first | ((with_reducible refine gate_dst (N := 69) rfl ?_); refine Kd.R_lit (Kd.int .u8) _ 5 ?hg (N := 69) ?hd (xs := ([(a0_0) % 256] : List Int)) (inner := [.int .u8 ((a0_0) % 256)]) (ok := fun _ => True) (okp := fun _ => True) ?hr ?hp (fun _ hk => hk) trivial (Below.refl _ _) (Nat.le_refl _) (by simp) ?_; (case hd => rfl); (case hg => rfl); (case hr => exact hr_); (case hp => exact (Reps.one (show Kd.M (Kd.int .u8) _ _ _ ((a0_0) % 256) [.int .u8 ((a0_0) % 256)] from rfl) (Reps.none _ _))); intro v658 w57 ho58 hb hg_ hnew_; clear hg_ hnew_; (first | rw [← Ny657.out] at ho58 | (simp only [Int.reduceToNat] at ho58; rw [← Ny657.out] at ho58)); have HO659 := am_ (Kd.R_lower ho58 (below_size bl_)); replace BK653 := bb_ BK653 hb; replace BK654 := bb_ BK654 hb; replace HB := hs_ w hb; clear hb ho58; have hcv59 := own_string (P := Try.prog) Try.underlying36 Try.underlying5 Try.underlying9 (Kd.own_of_R HO659.out)))
      go_ret
      exact ⟨au6_8, bl_⟩
     obtain ⟨y660, hy660⟩ : ∃ y_ : List Int, y_ = (([(a0_1) % 256] : List Int)) := ⟨_, rfl⟩
     replace H : (if x5_2.size + (strOfNums y660).size ≤ 9223372036854775807 then (F38.l1 k2 (x5_2 ++ (strOfNums y660)) x6_2 0 a0_0 a0_1 a0_2 a0_3 a1_0 l1_1) else (none)) = some r := by first | (rw [hy660]; exact H) | exact H
     have Ny660 := am_ hy660
     clear hy660
     by_cases c21 : x5_2.size + (strOfNums y660).size ≤ 9223372036854775807
     rotate_left
     ·rw [if_neg c21] at H
      exact absurd H (by simp)
     rw [if_pos c21] at H
     have c21b0 := eq_true c21
     have c21b1 : decide (x5_2.size + (strOfNums y660).size ≤ 9223372036854775807) = true := decide_eq_true c21
     try have c21b2 : (9223372036854775807 < x5_2.size + (strOfNums y660).size) = False := eq_false (Nat.not_lt.2 c21)
     have H' := am_ H
     clear H
     have hnb22 := NB654_653.out
     have hnc22 := NB653_654.out
     obtain ⟨hcz23_0, hcz23_1, hfz23_0, hfz23_1⟩ := cellsF2 BK654.out
     obtain ⟨hcz24_0, hcz24_1, hcz24_2, hcz24_3, hfz24_0, hfz24_1, hfz24_2, hfz24_3⟩ := cellsF4 BK653.out
     go_wp2_with (first | ((with_reducible refine gate_dst (N := 29) rfl ?_); refine Kd.R_lit (Kd.int .u8) _ 5 ?hg (N := 29) ?hd (xs := ([(a0_1) % 256] : List Int)) (inner := [.int .u8 ((a0_1) % 256)]) (ok := fun _ => True) (okp := fun _ => True) ?hr ?hp (fun _ hk => hk) trivial (Below.refl _ _) (Nat.le_refl _) (by simp) ?_; (case hd => rfl); (case hg => rfl); (case hr => exact hr_); (case hp => exact (Reps.one (show Kd.M (Kd.int .u8) _ _ _ ((a0_1) % 256) [.int .u8 ((a0_1) % 256)] from rfl) (Reps.none _ _))); intro v661 w25 ho26 hb hg_ hnew_; clear hg_ hnew_; (first | rw [← Ny660.out] at ho26 | (simp only [Int.reduceToNat] at ho26; rw [← Ny660.out] at ho26)); have HO662 := am_ (Kd.R_lower ho26 (below_size bl_)); replace BK653 := bb_ BK653 hb; replace BK654 := bb_ BK654 hb; replace HB := hs_ w hb; clear hb ho26; have hcv27 := own_string (P := Try.prog) Try.underlying36 Try.underlying5 Try.underlying9 (Kd.own_of_R HO662.out)))
     go_loopg [5, 7] k2 (fun kq v5 v7 w' => ∃ (x5_3 : ByteArray) (x7_3 : Int), v5 = .string x5_3 ∧ v7 = .int .i64 x7_3 ∧ Aside0 (F38.l1 kq x5_3 x6_2 x7_3 a0_0 a0_1 a0_2 a0_3 a1_0 l1_1 = some r) ∧ Aside0 (kq ≤ k2) ∧ Aside0 (w'.heap[gb653]? = some (.cells #[.int .i64 a0_0, .int .i64 a0_1, .int .i64 a0_2, .int .i64 a0_3] 23 (0, 0))) ∧ Aside0 (w'.heap[gb654]? = some (.cells #[.string a1_0, (.slice A1_1 l1_1.length c1_1)] 59 (0, 0))) ∧ Aside0 (Below w.heap.size w w'))
     case atStart => exact ⟨(x5_2 ++ (strOfNums y660)), (0), er_, er_, H', ⟨Nat.le_refl _⟩, ⟨bk_ BK653⟩, ⟨bk_ BK654⟩, ⟨bl_⟩⟩
     case round =>
      clear H'
      try clear c20b0
      try clear c21
      try clear c21b0
      try clear c21b1
      try clear c21b2
      try clear hcv27
      try clear hcz10_0 hcz10_1 hcz10_2 hcz10_3
      try clear hcz12_0 hcz12_1
      try clear hcz15_0 hcz15_1 hcz15_2 hcz15_3
      try clear hcz19_0 hcz19_1
      try clear hcz23_0 hcz23_1
      try clear hcz24_0 hcz24_1 hcz24_2 hcz24_3
      try clear hfz10_0 hfz10_1 hfz10_2 hfz10_3
      try clear hfz12_0 hfz12_1
      try clear hfz15_0 hfz15_1 hfz15_2 hfz15_3
      try clear hfz19_0 hfz19_1
      try clear hfz23_0 hfz23_1
      try clear hfz24_0 hfz24_1 hfz24_2 hfz24_3
      obtain ⟨x5_3, x7_3, rfl, rfl, HA, HK3, BK653, BK654, HB⟩ := hrel
      cases gk with
      | zero => exact absurd HA.out (by simp [F38.l1])
      | succ k3 =>
       have H := HA.out
       clear HA
       simp only [F38.l1] at H
       replace H := itn_ H; rcases H with ⟨c28b0, H⟩
       replace H := itn_ H; rcases H with ⟨c29b0, H⟩
       replace H := it_ H; rcases H with ⟨c30b0, H⟩ | ⟨c30b0, H⟩
       rotate_left
       ·have H' := am_ H
        clear H
        have hnb51 := NB654_653.out
        have hnc51 := NB653_654.out
        obtain ⟨hcz52_0, hcz52_1, hfz52_0, hfz52_1⟩ := cellsF2 BK654.out
        have p663 : 0 ≤ (x6_2 : Int) := od_
        have q663 : x6_2 < (l1_1.length : Int) := od_
        obtain ⟨ad663, A663_0, c663_0, e663, hx663_0, hl663_0, hi663_0⟩ := at_T102 HR1_1.out x6_2 p663 q663
        cases e663
        replace hx663_0 := (HB.out.cell (World.block_lt_of_cell? _ _ hx663_0)).trans hx663_0
        have HR663_0 := am_ hi663_0
        have HC663_0 := am_ hl663_0
        clear hi663_0 hl663_0
        replace p663 := eq_true p663
        replace q663 := eq_true q663
        go_wp2
        go_roundg k3
        case measure => have := HJ2.out; have := HK2.out; have := HK3.out; omega
        case rel => exact ⟨(x5_3), (wrap64 (x6_2 + 1)), er_, er_, H', ⟨au6_31⟩, ⟨bk_ BK653⟩, ⟨bk_ BK654⟩, ⟨bl_⟩⟩
       replace H := it_ H; rcases H with ⟨(c31b0 : decide (0 < x7_3) = true), H⟩ | ⟨(c31b0 : decide (0 < x7_3) = false), H⟩
       rotate_left
       ·replace H := itn_ H; rcases H with ⟨c44b0, H⟩
        replace H := bi_ H; rcases H with ⟨t672, A45, H⟩
        by_cases c46 : x5_3.size + t672.size ≤ 9223372036854775807
        rotate_left
        ·rw [if_neg c46] at H
         exact absurd H (by simp)
        rw [if_pos c46] at H
        have c46b0 := eq_true c46
        have c46b1 : decide (x5_3.size + t672.size ≤ 9223372036854775807) = true := decide_eq_true c46
        try have c46b2 : (9223372036854775807 < x5_3.size + t672.size) = False := eq_false (Nat.not_lt.2 c46)
        have H' := am_ H
        clear H
        have hnb47 := NB654_653.out
        have hnc47 := NB653_654.out
        obtain ⟨hcz48_0, hcz48_1, hfz48_0, hfz48_1⟩ := cellsF2 BK654.out
        have p663 : 0 ≤ (x6_2 : Int) := od_
        have q663 : x6_2 < (l1_1.length : Int) := od_
        obtain ⟨ad663, A663_0, c663_0, e663, hx663_0, hl663_0, hi663_0⟩ := at_T102 HR1_1.out x6_2 p663 q663
        cases e663
        replace hx663_0 := (HB.out.cell (World.block_lt_of_cell? _ _ hx663_0)).trans hx663_0
        have HR663_0 := am_ hi663_0
        have HC663_0 := am_ hl663_0
        clear hi663_0 hl663_0
        replace p663 := eq_true p663
        replace q663 := eq_true q663
        try go_wp2
        replace BK653 := bd_ BK653
        replace BK654 := bd_ BK654
        replace HB := am_ (below_drew1 HB.out)
        have p670 : 0 ≤ (x6_2 : Int) := od_
        have q670 : x6_2 < (l1_1.length : Int) := od_
        obtain ⟨ad670, A670_0, c670_0, e670, hx670_0, hl670_0, hi670_0⟩ := at_T102 HR1_1.out x6_2 p670 q670
        have hw670_0 := hx670_0
        obtain rfl : ad663 = ad670 := (by injection e670)
        replace hx670_0 := (HB.out.cell (World.block_lt_of_cell? _ _ hx670_0)).trans hx670_0
        have HR670_0 := am_ hi670_0
        have HC670_0 := am_ hl670_0
        clear hi670_0 hl670_0
        replace p670 := eq_true p670
        replace q670 := eq_true q670
        have p671 : 0 ≤ (x7_3 : Int) := od_
        have q671 : x7_3 < (((rd_T102 l1_1 x6_2).f0).length : Int) := od_
        obtain ⟨ad671, e671, hx671_0⟩ := Kd.at_string HR670_0.out x7_3 p671 q671
        have hw671_0 := hx671_0
        cases e671
        replace hx671_0 := (HB.out.cell (World.block_lt_of_cell? _ _ hx671_0)).trans hx671_0
        replace p671 := eq_true p671
        replace q671 := eq_true q671
        refine start_ (n := 14) (S := fun w' => w'.cell? ⟨gb653, 0, none⟩ = some (.int .i64 a0_0) ∧ w'.cell? ⟨gb653, 1, none⟩ = some (.int .i64 a0_1) ∧ w'.cell? ⟨gb653, 2, none⟩ = some (.int .i64 a0_2) ∧ w'.cell? ⟨gb653, 3, none⟩ = some (.int .i64 a0_3) ∧ w'.cell? ⟨gb654, 0, none⟩ = some (.string a1_0) ∧ w'.cell? ⟨gb654, 1, none⟩ = some (.slice (some ad663) l1_1.length c1_1) ∧ w'.cell? (ad663.add (x6_2).toNat) = some (.slice (some ad671) ((rd_T102 l1_1 x6_2).f0).length c670_0) ∧ w'.cell? (ad671.add (x7_3).toNat) = some (.string (rdOf ByteArray.empty ((rd_T102 l1_1 x6_2).f0) x7_3))) (ds := []) (bs 14 0) (by kernel_rfl) rfl rfl ⟨(blk_cell BK653.out 0).trans rfl, (blk_cell BK653.out 1).trans rfl, (blk_cell BK653.out 2).trans rfl, (blk_cell BK653.out 3).trans rfl, (blk_cell BK654.out 0).trans rfl, (blk_cell BK654.out 1).trans rfl, ((HB.out.cell (World.block_lt_of_cell? _ _ hw670_0)).trans hw670_0), ((HB.out.cell (World.block_lt_of_cell? _ _ hw671_0)).trans hw671_0)⟩ (fun hHeld => ?_); refine with_tabW F38.tab13 F38.bits13 (fun HT_ HW_ => ?_)
        generalize wr.drew = w49 at BK653 BK654 HB HR670_0 hx670_0 hx671_0 hHeld ⊢
        refine pu_ 0 52 (bs 14 1) HT_ ?_ rfl rfl
        refine pu_ 2 54 (bs 14 5) HT_ ?_ rfl rfl
        refine pu_ 4 56 (bs 14 21) HT_ ?_ rfl rfl
        refine pu_ 8 60 (bs 14 277) HT_ ?_ rfl rfl
        refine tk_ 1 53 (bs 14 279) HT_ HW_ hHeld au6_20 ?_ rfl rfl
        refine tk_ 3 55 (bs 14 287) HT_ HW_ hHeld au6_20 ?_ rfl rfl
        refine pu_ 5 57 (bs 14 319) HT_ ?_ rfl rfl
        refine pu_ 6 58 (bs 14 383) HT_ ?_ rfl rfl
        refine tk_ 7 59 (bs 14 511) HT_ HW_ hHeld au6_20 ?_ rfl rfl
        refine pu_ 9 61 (bs 14 1023) HT_ ?_ rfl rfl
        refine tk_ 10 62 (bs 14 2047) HT_ HW_ hHeld au6_20 ?_ rfl rfl
        refine one_ (i := 11) (N := some 63) (bs 14 4095) rfl rfl (one_of HT_.out (by kernel_rfl)) (by decide) (fun K hK => ?_)
        refine gr_ Try.func85 #[.agg #[.int .i64 a0_0, .int .i64 a0_1, .int .i64 a0_2, .int .i64 a0_3], .string (rdOf ByteArray.empty ((rd_T102 l1_1 x6_2).f0) x7_3)] (by rfl) ?_ rfl rfl rfl
        with_reducible refine (F85.calls k3 a0_0 a0_1 a0_2 a0_3 (rdOf ByteArray.empty ((rd_T102 l1_1 x6_2).f0) x7_3) t672 _ A45.out).mono ?_
        rintro e w50 ⟨rfl, hb⟩
        refine ⟨_, rfl, ?_⟩
        replace BK653 := bb_ BK653 hb
        replace BK654 := bb_ BK654 hb
        replace HB := hs_ w hb
        (try clear hb)
        (try clear hb2)
        (try clear hk)
        (try clear hi)
        refine hK.out _ _ ⟨(blk_cell BK653.out 0).trans rfl, (blk_cell BK653.out 1).trans rfl, (blk_cell BK653.out 2).trans rfl, (blk_cell BK653.out 3).trans rfl, (blk_cell BK654.out 0).trans rfl, (blk_cell BK654.out 1).trans rfl, ((HB.out.cell (World.block_lt_of_cell? _ _ hw670_0)).trans hw670_0), ((HB.out.cell (World.block_lt_of_cell? _ _ hw671_0)).trans hw671_0)⟩ (fun hHeld => ?_)
        clear hK K
        refine no_ 63 ?_
        refine pu_ 12 64 (bs 14 8191) HT_ ?_ rfl rfl
        refine pu_ 13 5 (bs 14 16383) HT_ ?_ rfl rfl
        refine done_ (done_of HT_.out (by kernel_rfl)) ?_
        try go_wp2
        go_roundg k3
        case measure => have := HJ2.out; have := HK2.out; have := HK3.out; omega
        case rel => exact ⟨(x5_3 ++ t672), (wrap64 (x7_3 + 1)), er_, er_, H', ⟨au6_31⟩, ⟨bk_ BK653⟩, ⟨bk_ BK654⟩, ⟨bl_⟩⟩
       obtain ⟨y664, hy664⟩ : ∃ y_ : List Int, y_ = (([(a0_2) % 256] : List Int)) := ⟨_, rfl⟩
       replace H : (if x5_3.size + (strOfNums y664).size ≤ 9223372036854775807 then (if 0 ≤ x7_3 then ((F85.f k3 a0_0 a0_1 a0_2 a0_3 (rdOf ByteArray.empty ((rd_T102 l1_1 x6_2).f0) x7_3)).bind fun t669 => (if (x5_3 ++ (strOfNums y664)).size + t669.size ≤ 9223372036854775807 then (F38.l1 k3 ((x5_3 ++ (strOfNums y664)) ++ t669) x6_2 (wrap64 (x7_3 + 1)) a0_0 a0_1 a0_2 a0_3 a1_0 l1_1) else (none))) else (none)) else (none)) = some r := by first | (rw [hy664]; exact H) | exact H
       have Ny664 := am_ hy664
       clear hy664
       by_cases c32 : x5_3.size + (strOfNums y664).size ≤ 9223372036854775807
       rotate_left
       ·rw [if_neg c32] at H
        exact absurd H (by simp)
       rw [if_pos c32] at H
       have c32b0 := eq_true c32
       have c32b1 : decide (x5_3.size + (strOfNums y664).size ≤ 9223372036854775807) = true := decide_eq_true c32
       try have c32b2 : (9223372036854775807 < x5_3.size + (strOfNums y664).size) = False := eq_false (Nat.not_lt.2 c32)
       replace H := itn_ H; rcases H with ⟨c33b0, H⟩
       replace H := bi_ H; rcases H with ⟨t669, A34, H⟩
       by_cases c35 : (x5_3 ++ (strOfNums y664)).size + t669.size ≤ 9223372036854775807
       rotate_left
       ·rw [if_neg c35] at H
        exact absurd H (by simp)
       rw [if_pos c35] at H
       have c35b0 := eq_true c35
       have c35b1 : decide ((x5_3 ++ (strOfNums y664)).size + t669.size ≤ 9223372036854775807) = true := decide_eq_true c35
       try have c35b2 : (9223372036854775807 < (x5_3 ++ (strOfNums y664)).size + t669.size) = False := eq_false (Nat.not_lt.2 c35)
       try (have c35b3 := c35b2; simp only [ByteArray.size_append] at c35b3)
       have H' := am_ H
       clear H
       have hnb36 := NB654_653.out
       have hnc36 := NB653_654.out
       obtain ⟨hcz37_0, hcz37_1, hfz37_0, hfz37_1⟩ := cellsF2 BK654.out
       have p663 : 0 ≤ (x6_2 : Int) := od_
       have q663 : x6_2 < (l1_1.length : Int) := od_
       obtain ⟨ad663, A663_0, c663_0, e663, hx663_0, hl663_0, hi663_0⟩ := at_T102 HR1_1.out x6_2 p663 q663
       cases e663
       replace hx663_0 := (HB.out.cell (World.block_lt_of_cell? _ _ hx663_0)).trans hx663_0
       have HR663_0 := am_ hi663_0
       have HC663_0 := am_ hl663_0
       clear hi663_0 hl663_0
       replace p663 := eq_true p663
       replace q663 := eq_true q663
       obtain ⟨hcz38_0, hcz38_1, hcz38_2, hcz38_3, hfz38_0, hfz38_1, hfz38_2, hfz38_3⟩ := cellsF4 BK653.out
       try go_wp2_with (first | ((with_reducible refine gate_dst (N := 49) rfl ?_); refine Kd.R_lit (Kd.int .u8) _ 5 ?hg (N := 49) ?hd (xs := ([(a0_2) % 256] : List Int)) (inner := [.int .u8 ((a0_2) % 256)]) (ok := fun _ => True) (okp := fun _ => True) ?hr ?hp (fun _ hk => hk) trivial (Below.refl _ _) (Nat.le_refl _) (by simp) ?_; (case hd => rfl); (case hg => rfl); (case hr => exact hr_); (case hp => exact (Reps.one (show Kd.M (Kd.int .u8) _ _ _ ((a0_2) % 256) [.int .u8 ((a0_2) % 256)] from rfl) (Reps.none _ _))); intro v665 w39 ho40 hb hg_ hnew_; clear hg_ hnew_; (first | rw [← Ny664.out] at ho40 | (simp only [Int.reduceToNat] at ho40; rw [← Ny664.out] at ho40)); have HO666 := am_ (Kd.R_lower ho40 (below_size bl_)); replace BK653 := bb_ BK653 hb; replace BK654 := bb_ BK654 hb; replace HB := hs_ w hb; clear hb ho40; have hcv41 := own_string (P := Try.prog) Try.underlying36 Try.underlying5 Try.underlying9 (Kd.own_of_R HO666.out)))
       replace HO666 := am_ (Kd.R_drew HO666.out)
       replace BK653 := bd_ BK653
       replace BK654 := bd_ BK654
       replace HB := am_ (below_drew1 HB.out)
       have p667 : 0 ≤ (x6_2 : Int) := od_
       have q667 : x6_2 < (l1_1.length : Int) := od_
       obtain ⟨ad667, A667_0, c667_0, e667, hx667_0, hl667_0, hi667_0⟩ := at_T102 HR1_1.out x6_2 p667 q667
       have hw667_0 := hx667_0
       obtain rfl : ad663 = ad667 := (by injection e667)
       replace hx667_0 := (HB.out.cell (World.block_lt_of_cell? _ _ hx667_0)).trans hx667_0
       have HR667_0 := am_ hi667_0
       have HC667_0 := am_ hl667_0
       clear hi667_0 hl667_0
       replace p667 := eq_true p667
       replace q667 := eq_true q667
       have p668 : 0 ≤ (x7_3 : Int) := od_
       have q668 : x7_3 < (((rd_T102 l1_1 x6_2).f0).length : Int) := od_
       obtain ⟨ad668, e668, hx668_0⟩ := Kd.at_string HR667_0.out x7_3 p668 q668
       have hw668_0 := hx668_0
       cases e668
       replace hx668_0 := (HB.out.cell (World.block_lt_of_cell? _ _ hx668_0)).trans hx668_0
       replace p668 := eq_true p668
       replace q668 := eq_true q668
       refine start_ (n := 14) (S := fun w' => w'.cell? ⟨gb653, 0, none⟩ = some (.int .i64 a0_0) ∧ w'.cell? ⟨gb653, 1, none⟩ = some (.int .i64 a0_1) ∧ w'.cell? ⟨gb653, 2, none⟩ = some (.int .i64 a0_2) ∧ w'.cell? ⟨gb653, 3, none⟩ = some (.int .i64 a0_3) ∧ w'.cell? ⟨gb654, 0, none⟩ = some (.string a1_0) ∧ w'.cell? ⟨gb654, 1, none⟩ = some (.slice (some ad663) l1_1.length c1_1) ∧ w'.cell? (ad663.add (x6_2).toNat) = some (.slice (some ad668) ((rd_T102 l1_1 x6_2).f0).length c667_0) ∧ w'.cell? (ad668.add (x7_3).toNat) = some (.string (rdOf ByteArray.empty ((rd_T102 l1_1 x6_2).f0) x7_3))) (ds := []) (bs 14 0) (by kernel_rfl) rfl rfl ⟨(blk_cell BK653.out 0).trans rfl, (blk_cell BK653.out 1).trans rfl, (blk_cell BK653.out 2).trans rfl, (blk_cell BK653.out 3).trans rfl, (blk_cell BK654.out 0).trans rfl, (blk_cell BK654.out 1).trans rfl, ((HB.out.cell (World.block_lt_of_cell? _ _ hw667_0)).trans hw667_0), ((HB.out.cell (World.block_lt_of_cell? _ _ hw668_0)).trans hw668_0)⟩ (fun hHeld => ?_); refine with_tabW F38.tab13 F38.bits13 (fun HT_ HW_ => ?_)
       generalize w39.drew = w42 at HO666 BK653 BK654 HB HR667_0 hx667_0 hx668_0 hHeld ⊢
       refine pu_ 0 52 (bs 14 1) HT_ ?_ rfl rfl
       refine pu_ 2 54 (bs 14 5) HT_ ?_ rfl rfl
       refine pu_ 4 56 (bs 14 21) HT_ ?_ rfl rfl
       refine pu_ 8 60 (bs 14 277) HT_ ?_ rfl rfl
       refine tk_ 1 53 (bs 14 279) HT_ HW_ hHeld au6_20 ?_ rfl rfl
       refine tk_ 3 55 (bs 14 287) HT_ HW_ hHeld au6_20 ?_ rfl rfl
       refine pu_ 5 57 (bs 14 319) HT_ ?_ rfl rfl
       refine pu_ 6 58 (bs 14 383) HT_ ?_ rfl rfl
       refine tk_ 7 59 (bs 14 511) HT_ HW_ hHeld au6_20 ?_ rfl rfl
       refine pu_ 9 61 (bs 14 1023) HT_ ?_ rfl rfl
       refine tk_ 10 62 (bs 14 2047) HT_ HW_ hHeld au6_20 ?_ rfl rfl
       refine one_ (i := 11) (N := some 63) (bs 14 4095) rfl rfl (one_of HT_.out (by kernel_rfl)) (by decide) (fun K hK => ?_)
       refine gr_ Try.func85 #[.agg #[.int .i64 a0_0, .int .i64 a0_1, .int .i64 a0_2, .int .i64 a0_3], .string (rdOf ByteArray.empty ((rd_T102 l1_1 x6_2).f0) x7_3)] (by rfl) ?_ rfl rfl rfl
       with_reducible refine (F85.calls k3 a0_0 a0_1 a0_2 a0_3 (rdOf ByteArray.empty ((rd_T102 l1_1 x6_2).f0) x7_3) t669 _ A34.out).mono ?_
       rintro e w43 ⟨rfl, hb⟩
       refine ⟨_, rfl, ?_⟩
       replace HO666 := am_ (Kd.R_below (rk_ HO666) hb)
       replace BK653 := bb_ BK653 hb
       replace BK654 := bb_ BK654 hb
       replace HB := hs_ w hb
       (try clear hb)
       (try clear hb2)
       (try clear hk)
       (try clear hi)
       refine hK.out _ _ ⟨(blk_cell BK653.out 0).trans rfl, (blk_cell BK653.out 1).trans rfl, (blk_cell BK653.out 2).trans rfl, (blk_cell BK653.out 3).trans rfl, (blk_cell BK654.out 0).trans rfl, (blk_cell BK654.out 1).trans rfl, ((HB.out.cell (World.block_lt_of_cell? _ _ hw667_0)).trans hw667_0), ((HB.out.cell (World.block_lt_of_cell? _ _ hw668_0)).trans hw668_0)⟩ (fun hHeld => ?_)
       clear hK K
       refine no_ 63 ?_
       refine pu_ 12 64 (bs 14 8191) HT_ ?_ rfl rfl
       refine pu_ 13 5 (bs 14 16383) HT_ ?_ rfl rfl
       refine done_ (done_of HT_.out (by kernel_rfl)) ?_
       try go_wp2
       go_roundg k3
       case measure => have := HJ2.out; have := HK2.out; have := HK3.out; omega
       case rel => exact ⟨((x5_3 ++ (strOfNums y664)) ++ t669), (wrap64 (x7_3 + 1)), er_, er_, H', ⟨au6_31⟩, ⟨bk_ BK653⟩, ⟨bk_ BK654⟩, ⟨bl_⟩⟩
/-! ### F99: function 99 -/
def F99.j0 : Nat → ByteArray → Int → ByteArray → Bool → List Int → Int → Int → Int → Option (ByteArray × Int × Int × Int)
  | 0, _, _, _, _, _, _, _, _ => none
  | k + 1, x1, x5, x6, x24, x1000, x1001, x1002, x1003 => if x24 = true then (if 0 ≤ x5 then (if x5 ≤ (x1.size : Int) then (if (x1.extract 0 (x5 : Int).toNat).size + x6.size ≤ 9223372036854775807 then (if ((x1.extract 0 (x5 : Int).toNat) ++ x6).size + (x1.extract (x5 : Int).toNat x1.size).size ≤ 9223372036854775807 then (some (((x1.extract 0 (x5 : Int).toNat) ++ x6) ++ (x1.extract (x5 : Int).toNat x1.size), x1001, x1002, x1003)) else (none)) else (none)) else (none)) else (none)) else ((F98.f x1000 x1001 x1002 x1003 2).bind fun bt688 => (if bt688.1 = true then (if 0 ≤ x5 then (if x5 ≤ (x1.size : Int) then (if 0 ≤ (wrap64 (x5 + 1)) then (if (wrap64 (x5 + 1)) ≤ (x1.size : Int) then (if (x1.extract 0 (x5 : Int).toNat).size + (x1.extract ((wrap64 (x5 + 1)) : Int).toNat x1.size).size ≤ 9223372036854775807 then (some ((x1.extract 0 (x5 : Int).toNat) ++ (x1.extract ((wrap64 (x5 + 1)) : Int).toNat x1.size), bt688.2.1, bt688.2.2.1, bt688.2.2.2)) else (none)) else (none)) else (none)) else (none)) else (none)) else (if 0 ≤ x5 then (if x5 ≤ (x1.size : Int) then (if (x1.extract 0 (x5 : Int).toNat).size + x6.size ≤ 9223372036854775807 then (if 0 ≤ (wrap64 (x5 + 1)) then (if (wrap64 (x5 + 1)) ≤ (x1.size : Int) then (if ((x1.extract 0 (x5 : Int).toNat) ++ x6).size + (x1.extract ((wrap64 (x5 + 1)) : Int).toNat x1.size).size ≤ 9223372036854775807 then (some (((x1.extract 0 (x5 : Int).toNat) ++ x6) ++ (x1.extract ((wrap64 (x5 + 1)) : Int).toNat x1.size), bt688.2.1, bt688.2.2.1, bt688.2.2.2)) else (none)) else (none)) else (none)) else (none)) else (none)) else (none))))
def F99.f (k : Nat) (s0_0 : List Int) (s0_1 : Int) (s0_2 : Int) (s0_3 : Int) (a1 : ByteArray) : Option (ByteArray × Int × Int × Int) := (F72.f s0_0 s0_1 s0_2 s0_3 (wrap64 ((a1.size : Int) + 1))).bind fun bt673 => ((F72.f s0_0 bt673.2.1 bt673.2.2.1 bt673.2.2.2 17).bind fun bt677 => (if 0 ≤ bt677.1 then (if bt677.1 < 17 then ((some (([bt (⟨#[32, 10, 48, 97, 45, 110, 44, 58, 93, 255, 40, 120, 126, 49, 128, 225, 59]⟩ : ByteArray) bt677.1] : List Int) : List Int)).bind fun y681 => (if bt673.1 = (a1.size : Int) then (F99.j0 k a1 bt673.1 (strOfNums y681) true s0_0 bt677.2.1 bt677.2.2.1 bt677.2.2.2) else ((F98.f s0_0 bt677.2.1 bt677.2.2.1 bt677.2.2.2 3).bind fun bt684 => (F99.j0 k a1 bt673.1 (strOfNums y681) bt684.1 s0_0 bt684.2.1 bt684.2.2.1 bt684.2.2.2)))) else (none)) else (none)))
theorem F99.mono_l : ∀ k, (∀ y0 y1 y2 y3 y4 y5 y6 y7, LeO (F99.j0 k y0 y1 y2 y3 y4 y5 y6 y7) (F99.j0 (k + 1) y0 y1 y2 y3 y4 y5 y6 y7))
 | 0 => fun _ _ _ _ _ _ _ _ r h => by simp [F99.j0] at h
 | k + 1 => by
  have ih0 := F99.mono_l k
  intro y0 y1 y2 y3 y4 y5 y6 y7
  unfold F99.j0
  repeat' with_reducible first | exact ih0 _ _ _ _ _ _ _ _ | exact LeO.refl _ | exact LeO.none _ | refine LeO.ite ?_ ?_ | refine LeO.bind ?_ (fun _ => ?_)
theorem F99.mono : ∀ a0 a1 a2 a3 a4 k, LeO (F99.f k a0 a1 a2 a3 a4) (F99.f (k + 1) a0 a1 a2 a3 a4) := by
 intro a0 a1 a2 a3 a4 k
 have ih0 := F99.mono_l k
 unfold F99.f
 repeat' with_reducible first | exact ih0 _ _ _ _ _ _ _ _ | exact LeO.refl _ | exact LeO.none _ | refine LeO.ite ?_ ?_ | refine LeO.bind ?_ (fun _ => ?_)
theorem F99.calls (k : Nat) (g : Nat) (s0_0 : List Int) (s0_1 : Int) (s0_2 : Int) (s0_3 : Int) (a1 : ByteArray) (r1 : ByteArray) (r2 : Int) (r3 : Int) (r4 : Int) (w0 w : World) (hI : IsS121 w0 w g s0_0 s0_1 s0_2 s0_3) (hB : Below w0.heap.size w0 w) (h : F99.f k s0_0 s0_1 s0_2 s0_3 a1 = some (r1, r2, r3, r4)) :
  Calls Try.prog 99 #[.pointer (some ⟨g, 0, none⟩), .string a1] w fun e w' => e = .returned (.string r1) ∧ IsS121 w0 w' g s0_0 r2 r3 r4 ∧ Below w0.heap.size w0 w' ∧ KeepBut w w' g none := by
 have HI0 := am_ hI
 have HK := am_ (KeepBut.refl w g none)
 have HL := am_ hB.size
 clear hI
 have HW0 := am_ hB.size
 have HB := am_ hB
 clear hB
 have H : ((F72.f s0_0 s0_1 s0_2 s0_3 (wrap64 ((a1.size : Int) + 1))).bind fun bt673 => ((F72.f s0_0 bt673.2.1 bt673.2.2.1 bt673.2.2.2 17).bind fun bt677 => (if 0 ≤ bt677.1 then (if bt677.1 < 17 then ((some (([bt (⟨#[32, 10, 48, 97, 45, 110, 44, 58, 93, 255, 40, 120, 126, 49, 128, 225, 59]⟩ : ByteArray) bt677.1] : List Int) : List Int)).bind fun y681 => (if bt673.1 = (a1.size : Int) then (F99.j0 k a1 bt673.1 (strOfNums y681) true s0_0 bt677.2.1 bt677.2.2.1 bt677.2.2.2) else ((F98.f s0_0 bt677.2.1 bt677.2.2.1 bt677.2.2.2 3).bind fun bt684 => (F99.j0 k a1 bt673.1 (strOfNums y681) bt684.1 s0_0 bt684.2.1 bt684.2.2.1 bt684.2.2.2)))) else (none)) else (none)))) = some (r1, r2, r3, r4) := h
 clear h
 replace H := bi_ H; rcases H with ⟨⟨t673, t674, t675, t676⟩, A3, H⟩
 replace H := bi_ H; rcases H with ⟨⟨t677, t678, t679, t680⟩, A4, H⟩
 by_cases c5 : 0 ≤ t677
 rotate_left
 ·rw [if_neg c5] at H
  exact absurd H (by simp)

 rw [if_pos c5] at H
 have c5b0 : decide (0 ≤ t677) = true := decide_eq_true c5
 clear c5
 replace H := itn_ H; rcases H with ⟨c6b0, H⟩
 obtain ⟨y681, hy681⟩ : ∃ y_ : List Int, y_ = (([bt (⟨#[32, 10, 48, 97, 45, 110, 44, 58, 93, 255, 40, 120, 126, 49, 128, 225, 59]⟩ : ByteArray) t677] : List Int)) := ⟨_, rfl⟩
 replace H : (if t673 = (a1.size : Int) then (F99.j0 k a1 t673 (strOfNums y681) true s0_0 t678 t679 t680) else ((F98.f s0_0 t678 t679 t680 3).bind fun bt684 => (F99.j0 k a1 t673 (strOfNums y681) bt684.1 s0_0 bt684.2.1 bt684.2.2.1 bt684.2.2.2))) = some (r1, r2, r3, r4) := by first | (rw [hy681]; exact H) | exact H
 have Ny681 := am_ hy681
 clear hy681
 have HC8 := am_ H
 clear H
 go_enter Try.func99, Try.ntmps99
 go_upto_region 3 with (first | (go_at_call 72; (with_reducible refine (F72.calls g s0_0 s0_1 s0_2 s0_3 (wrap64 ((a1.size : Int) + 1)) t673 t674 t675 t676 w0 _ ?s1 ?s2 A3.out).mono ?_); (case s1 => exact au6_3); (case s2 => exact au6_4); rintro e w9 ⟨rfl, hi, hb, hk⟩; replace HK := am_ (KeepBut.trans au6_2 hk (.inl rfl)); replace HB := am_ (hb); replace HI0 := am_ (hi); (try clear hb); (try clear hb2); (try clear hk); (try clear hi)) | (go_at_call 72; (with_reducible refine (F72.calls g s0_0 t674 t675 t676 17 t677 t678 t679 t680 w0 _ ?s1 ?s2 A4.out).mono ?_); (case s1 => exact au6_3); (case s2 => exact au6_4); rintro e w10 ⟨rfl, hi, hb, hk⟩; replace HK := am_ (KeepBut.trans au6_2 hk (.inl rfl)); replace HB := am_ (hb); replace HI0 := am_ (hi); (try clear hb); (try clear hb2); (try clear hk); (try clear hi); have p7 : 0 ≤ (t677 : Int) := od_; have q7 : t677 < (17 : Int) := od_; have hx7 := bt_at (⟨#[32, 10, 48, 97, 45, 110, 44, 58, 93, 255, 40, 120, 126, 49, 128, 225, 59]⟩ : ByteArray) t677; replace p7 := eq_true p7; replace q7 := eq_true q7) | ((with_reducible refine gate_dst (N := 15) rfl ?_); refine Kd.R_lit (Kd.int .u8) _ 5 ?hg (N := 15) ?hd (xs := ([bt (⟨#[32, 10, 48, 97, 45, 110, 44, 58, 93, 255, 40, 120, 126, 49, 128, 225, 59]⟩ : ByteArray) t677] : List Int)) (inner := [.int .u8 (bt (⟨#[32, 10, 48, 97, 45, 110, 44, 58, 93, 255, 40, 120, 126, 49, 128, 225, 59]⟩ : ByteArray) t677)]) (ok := fun _ => True) (okp := fun _ => True) ?hr ?hp (fun _ hk => hk) trivial (Below.refl _ _) (Nat.le_refl _) (by simp) ?_; (case hd => rfl); (case hg => rfl); (case hr => exact hr_); (case hp => exact au6_13); intro v682 w11 ho12 hb hg_ hnew_; clear hg_ hnew_; (first | rw [← Ny681.out] at ho12 | (simp only [Int.reduceToNat] at ho12; rw [← Ny681.out] at ho12)); have HO683 := am_ (Kd.R_lower ho12 (keep_size (w := w) (g := g) (row := none) au6_2)); replace HK := am_ (KeepBut.trans au6_2 (KeepBut.of_below hb g none) (.inl rfl)); replace HB := am_ (below_step au6_22 hb); replace HI0 := am_ (IsS121.below is6_0_ hb); clear hb ho12; have hcv13 := own_string (P := Try.prog) Try.underlying36 Try.underlying5 Try.underlying9 (Kd.own_of_R HO683.out)))
 repeat (go_quiet (first | (go_at_call 72; (with_reducible refine (F72.calls g s0_0 s0_1 s0_2 s0_3 (wrap64 ((a1.size : Int) + 1)) t673 t674 t675 t676 w0 _ ?s1 ?s2 A3.out).mono ?_); (case s1 => exact au6_3); (case s2 => exact au6_4); rintro e w9 ⟨rfl, hi, hb, hk⟩; replace HK := am_ (KeepBut.trans au6_2 hk (.inl rfl)); replace HB := am_ (hb); replace HI0 := am_ (hi); (try clear hb); (try clear hb2); (try clear hk); (try clear hi)) | (go_at_call 72; (with_reducible refine (F72.calls g s0_0 t674 t675 t676 17 t677 t678 t679 t680 w0 _ ?s1 ?s2 A4.out).mono ?_); (case s1 => exact au6_3); (case s2 => exact au6_4); rintro e w10 ⟨rfl, hi, hb, hk⟩; replace HK := am_ (KeepBut.trans au6_2 hk (.inl rfl)); replace HB := am_ (hb); replace HI0 := am_ (hi); (try clear hb); (try clear hb2); (try clear hk); (try clear hi); have p7 : 0 ≤ (t677 : Int) := od_; have q7 : t677 < (17 : Int) := od_; have hx7 := bt_at (⟨#[32, 10, 48, 97, 45, 110, 44, 58, 93, 255, 40, 120, 126, 49, 128, 225, 59]⟩ : ByteArray) t677; replace p7 := eq_true p7; replace q7 := eq_true q7) | ((with_reducible refine gate_dst (N := 15) rfl ?_); refine Kd.R_lit (Kd.int .u8) _ 5 ?hg (N := 15) ?hd (xs := ([bt (⟨#[32, 10, 48, 97, 45, 110, 44, 58, 93, 255, 40, 120, 126, 49, 128, 225, 59]⟩ : ByteArray) t677] : List Int)) (inner := [.int .u8 (bt (⟨#[32, 10, 48, 97, 45, 110, 44, 58, 93, 255, 40, 120, 126, 49, 128, 225, 59]⟩ : ByteArray) t677)]) (ok := fun _ => True) (okp := fun _ => True) ?hr ?hp (fun _ hk => hk) trivial (Below.refl _ _) (Nat.le_refl _) (by simp) ?_; (case hd => rfl); (case hg => rfl); (case hr => exact hr_); (case hp => exact au6_13); intro v682 w11 ho12 hb hg_ hnew_; clear hg_ hnew_; (first | rw [← Ny681.out] at ho12 | (simp only [Int.reduceToNat] at ho12; rw [← Ny681.out] at ho12)); have HO683 := am_ (Kd.R_lower ho12 (keep_size (w := w) (g := g) (row := none) au6_2)); replace HK := am_ (KeepBut.trans au6_2 (KeepBut.of_below hb g none) (.inl rfl)); replace HB := am_ (below_step au6_22 hb); replace HI0 := am_ (IsS121.below is6_0_ hb); clear hb ho12; have hcv13 := own_string (P := Try.prog) Try.underlying36 Try.underlying5 Try.underlying9 (Kd.own_of_R HO683.out))); go_upto_region 3 with (first | (go_at_call 72; (with_reducible refine (F72.calls g s0_0 s0_1 s0_2 s0_3 (wrap64 ((a1.size : Int) + 1)) t673 t674 t675 t676 w0 _ ?s1 ?s2 A3.out).mono ?_); (case s1 => exact au6_3); (case s2 => exact au6_4); rintro e w9 ⟨rfl, hi, hb, hk⟩; replace HK := am_ (KeepBut.trans au6_2 hk (.inl rfl)); replace HB := am_ (hb); replace HI0 := am_ (hi); (try clear hb); (try clear hb2); (try clear hk); (try clear hi)) | (go_at_call 72; (with_reducible refine (F72.calls g s0_0 t674 t675 t676 17 t677 t678 t679 t680 w0 _ ?s1 ?s2 A4.out).mono ?_); (case s1 => exact au6_3); (case s2 => exact au6_4); rintro e w10 ⟨rfl, hi, hb, hk⟩; replace HK := am_ (KeepBut.trans au6_2 hk (.inl rfl)); replace HB := am_ (hb); replace HI0 := am_ (hi); (try clear hb); (try clear hb2); (try clear hk); (try clear hi); have p7 : 0 ≤ (t677 : Int) := od_; have q7 : t677 < (17 : Int) := od_; have hx7 := bt_at (⟨#[32, 10, 48, 97, 45, 110, 44, 58, 93, 255, 40, 120, 126, 49, 128, 225, 59]⟩ : ByteArray) t677; replace p7 := eq_true p7; replace q7 := eq_true q7) | ((with_reducible refine gate_dst (N := 15) rfl ?_); refine Kd.R_lit (Kd.int .u8) _ 5 ?hg (N := 15) ?hd (xs := ([bt (⟨#[32, 10, 48, 97, 45, 110, 44, 58, 93, 255, 40, 120, 126, 49, 128, 225, 59]⟩ : ByteArray) t677] : List Int)) (inner := [.int .u8 (bt (⟨#[32, 10, 48, 97, 45, 110, 44, 58, 93, 255, 40, 120, 126, 49, 128, 225, 59]⟩ : ByteArray) t677)]) (ok := fun _ => True) (okp := fun _ => True) ?hr ?hp (fun _ hk => hk) trivial (Below.refl _ _) (Nat.le_refl _) (by simp) ?_; (case hd => rfl); (case hg => rfl); (case hr => exact hr_); (case hp => exact au6_13); intro v682 w11 ho12 hb hg_ hnew_; clear hg_ hnew_; (first | rw [← Ny681.out] at ho12 | (simp only [Int.reduceToNat] at ho12; rw [← Ny681.out] at ho12)); have HO683 := am_ (Kd.R_lower ho12 (keep_size (w := w) (g := g) (row := none) au6_2)); replace HK := am_ (KeepBut.trans au6_2 (KeepBut.of_below hb g none) (.inl rfl)); replace HB := am_ (below_step au6_22 hb); replace HI0 := am_ (IsS121.below is6_0_ hb); clear hb ho12; have hcv13 := own_string (P := Try.prog) Try.underlying36 Try.underlying5 Try.underlying9 (Kd.own_of_R HO683.out))))
 (try simp only [Act.put, List.setIfInBounds_toArray, List.set_cons_zero, List.set_cons_succ])
 go_cut [24] (fun v24 wc => ∃ (kq : Nat) (x24_7 : Bool) (x1001_7 : Int) (x1002_7 : Int) (x1003_7 : Int), v24 = .bool x24_7 ∧ Aside0 (F99.j0 kq a1 t673 (strOfNums y681) x24_7 s0_0 x1001_7 x1002_7 x1003_7 = some (r1, r2, r3, r4)) ∧ Aside0 (kq ≤ k) ∧ Aside0 (IsS121 w0 wc g s0_0 x1001_7 x1002_7 x1003_7) ∧ Aside0 (KeepBut w wc g none) ∧ Aside0 (Below w0.heap.size w0 wc))
 case first =>
  have H := HC8.out
  clear HC8
  by_cases c14 : t673 = (a1.size : Int)
  ·rw [if_pos c14] at H
   have c14b0 : (t673 == (a1.size : Int)) = true := beq_iff_eq.mpr c14
   have c14b1 : (t673 != (a1.size : Int)) = false := bne_eq_false_iff_eq.mpr c14
   clear c14
   (first | rw [c14b0] | (simp only [i64_w, i32_w]; rw [c14b0]) | skip)
   have H' := am_ H
   clear H
   go_wp2
   repeat (go_quiet (fail); try go_wp2)
   go_meet
   case rel => exact ⟨_, (true), (t678), (t679), (t680), er_, H', ⟨au6_26⟩, ⟨is6_0_⟩, ⟨au6_14⟩, ⟨au6_11⟩⟩
  rw [if_neg c14] at H
  have c14b0 : (t673 == (a1.size : Int)) = false := beq_eq_false_iff_ne.mpr c14
  have c14b1 : (t673 != (a1.size : Int)) = true := bne_iff_ne.mpr c14
  (first | rw [c14b0] | (simp only [i64_w, i32_w]; rw [c14b0]) | skip)
  replace H := bi_ H; rcases H with ⟨⟨t684, t685, t686, t687⟩, A15, H⟩
  have H' := am_ H
  clear H
  go_wp2_with (first | (go_at_call 98; (with_reducible refine (F98.calls g s0_0 t678 t679 t680 3 t684 t685 t686 t687 w0 _ ?s1 ?s2 A15.out).mono ?_); (case s1 => exact au6_3); (case s2 => exact au6_4); rintro e w16 ⟨rfl, hi, hb, hk⟩; replace HO683 := am_ (Kd.R_mono (Kd.R_keep (IsS121.apart (is6_0_ : IsS121 w0 _ g s0_0 t678 t679 t680) (rk_ HO683) (by decide)) hk (fun _ h => h.2)) (fun _ h => h.1)); replace HK := am_ (KeepBut.trans au6_2 hk (.inl rfl)); replace HB := am_ (hb); replace HI0 := am_ (hi); (try clear hb); (try clear hb2); (try clear hk); (try clear hi)))
  repeat (go_quiet (first | (go_at_call 98; (with_reducible refine (F98.calls g s0_0 t678 t679 t680 3 t684 t685 t686 t687 w0 _ ?s1 ?s2 A15.out).mono ?_); (case s1 => exact au6_3); (case s2 => exact au6_4); rintro e w16 ⟨rfl, hi, hb, hk⟩; replace HO683 := am_ (Kd.R_mono (Kd.R_keep (IsS121.apart (is6_0_ : IsS121 w0 _ g s0_0 t678 t679 t680) (rk_ HO683) (by decide)) hk (fun _ h => h.2)) (fun _ h => h.1)); replace HK := am_ (KeepBut.trans au6_2 hk (.inl rfl)); replace HB := am_ (hb); replace HI0 := am_ (hi); (try clear hb); (try clear hb2); (try clear hk); (try clear hi))); try go_wp2_with (first | (go_at_call 98; (with_reducible refine (F98.calls g s0_0 t678 t679 t680 3 t684 t685 t686 t687 w0 _ ?s1 ?s2 A15.out).mono ?_); (case s1 => exact au6_3); (case s2 => exact au6_4); rintro e w16 ⟨rfl, hi, hb, hk⟩; replace HO683 := am_ (Kd.R_mono (Kd.R_keep (IsS121.apart (is6_0_ : IsS121 w0 _ g s0_0 t678 t679 t680) (rk_ HO683) (by decide)) hk (fun _ h => h.2)) (fun _ h => h.1)); replace HK := am_ (KeepBut.trans au6_2 hk (.inl rfl)); replace HB := am_ (hb); replace HI0 := am_ (hi); (try clear hb); (try clear hb2); (try clear hk); (try clear hi))))
  go_meet
  case rel => exact ⟨_, (t684), (t685), (t686), (t687), er_, H', ⟨au6_26⟩, ⟨is6_0_⟩, ⟨au6_14⟩, ⟨au6_11⟩⟩
 case rest =>
  clear HC8
  try clear c5
  try clear c5b0
  try clear c6b0
  try clear p7
  try clear q7
  try clear hx7
  try clear hcv13
  try clear c14
  try clear c14b0
  try clear c14b1
  try clear p7
  try clear q7
  obtain ⟨kq, x24_7, x1001_7, x1002_7, x1003_7, rfl, HA, HJ7, HI0, HK, HB⟩ := hcut
  cases kq with
  | zero => exact absurd HA.out (by simp [F99.j0])
  | succ kj7 =>
   have H := HA.out
   clear HA
   simp only [F99.j0] at H
   replace H := ib_ H; rcases H with ⟨rfl, H⟩ | ⟨rfl, H⟩
   ·by_cases c18 : 0 ≤ t673
    rotate_left
    ·rw [if_neg c18] at H
     exact absurd H (by simp)
    rw [if_pos c18] at H
    have c18b0 := eq_true c18
    have c18b1 : decide (0 ≤ t673) = true := decide_eq_true c18
    clear c18
    by_cases c19 : t673 ≤ (a1.size : Int)
    rotate_left
    ·rw [if_neg c19] at H
     exact absurd H (by simp)
    rw [if_pos c19] at H
    have c19b0 := eq_true c19
    have c19b1 : decide (t673 ≤ (a1.size : Int)) = true := decide_eq_true c19
    clear c19
    by_cases c20 : (a1.extract 0 (t673 : Int).toNat).size + (strOfNums y681).size ≤ 9223372036854775807
    rotate_left
    ·rw [if_neg c20] at H
     exact absurd H (by simp)
    rw [if_pos c20] at H
    have c20b0 := eq_true c20
    have c20b1 : decide ((a1.extract 0 (t673 : Int).toNat).size + (strOfNums y681).size ≤ 9223372036854775807) = true := decide_eq_true c20
    try have c20b2 : (9223372036854775807 < (a1.extract 0 (t673 : Int).toNat).size + (strOfNums y681).size) = False := eq_false (Nat.not_lt.2 c20)
    have c21b0 := eq_true (of_decide_eq_true as_ : 0 ≤ t673)
    have c22b0 := eq_true (of_decide_eq_true as_ : t673 ≤ (a1.size : Int))
    by_cases c23 : ((a1.extract 0 (t673 : Int).toNat) ++ (strOfNums y681)).size + (a1.extract (t673 : Int).toNat a1.size).size ≤ 9223372036854775807
    rotate_left
    ·rw [if_neg c23] at H
     exact absurd H (by simp)
    rw [if_pos c23] at H
    have c23b0 := eq_true c23
    have c23b1 : decide (((a1.extract 0 (t673 : Int).toNat) ++ (strOfNums y681)).size + (a1.extract (t673 : Int).toNat a1.size).size ≤ 9223372036854775807) = true := decide_eq_true c23
    try have c23b2 : (9223372036854775807 < ((a1.extract 0 (t673 : Int).toNat) ++ (strOfNums y681)).size + (a1.extract (t673 : Int).toNat a1.size).size) = False := eq_false (Nat.not_lt.2 c23)
    try (have c23b3 := c23b2; simp only [ByteArray.size_append] at c23b3)
    simp only [Option.some.injEq, Prod.mk.injEq] at H
    obtain ⟨rfl, rfl, rfl, rfl⟩ := H
    go_wp2
    repeat (go_quiet (fail); try go_wp2)
    go_ret
    exact ⟨au6_8, is6_0_, au6_11, au6_14⟩
   replace H := bi_ H; rcases H with ⟨⟨t688, t689, t690, t691⟩, A24, H⟩
   replace H := ib_ H; rcases H with ⟨rfl, H⟩ | ⟨rfl, H⟩
   ·by_cases c26 : 0 ≤ t673
    rotate_left
    ·rw [if_neg c26] at H
     exact absurd H (by simp)
    rw [if_pos c26] at H
    have c26b0 := eq_true c26
    have c26b1 : decide (0 ≤ t673) = true := decide_eq_true c26
    clear c26
    by_cases c27 : t673 ≤ (a1.size : Int)
    rotate_left
    ·rw [if_neg c27] at H
     exact absurd H (by simp)
    rw [if_pos c27] at H
    have c27b0 := eq_true c27
    have c27b1 : decide (t673 ≤ (a1.size : Int)) = true := decide_eq_true c27
    clear c27
    obtain ⟨ji28, hji28⟩ : ∃ j_ : Int, (wrap64 (t673 + 1)) = j_ := ⟨_, rfl⟩
    replace H : (if 0 ≤ (ji28) then (if (ji28) ≤ (a1.size : Int) then (if (a1.extract 0 (t673 : Int).toNat).size + (a1.extract ((ji28) : Int).toNat a1.size).size ≤ 9223372036854775807 then (some ((a1.extract 0 (t673 : Int).toNat) ++ (a1.extract ((ji28) : Int).toNat a1.size), t689, t690, t691)) else (none)) else (none)) else (none)) = some (r1, r2, r3, r4) := by first | (rw [hji28] at H; exact H) | (simp only [hji28] at H ⊢; exact H)
    (try rw [hji28] at A24)
    have hji28w : (IntKind.i64.wrap (t673 + 1)) = ji28 := (i64_w _).trans hji28
    by_cases c29 : 0 ≤ (ji28)
    rotate_left
    ·rw [if_neg c29] at H
     exact absurd H (by simp)
    rw [if_pos c29] at H
    have c29b0 := eq_true c29
    have c29b1 : decide (0 ≤ (ji28)) = true := decide_eq_true c29
    clear c29
    by_cases c30 : (ji28) ≤ (a1.size : Int)
    rotate_left
    ·rw [if_neg c30] at H
     exact absurd H (by simp)
    rw [if_pos c30] at H
    have c30b0 := eq_true c30
    have c30b1 : decide ((ji28) ≤ (a1.size : Int)) = true := decide_eq_true c30
    clear c30
    by_cases c31 : (a1.extract 0 (t673 : Int).toNat).size + (a1.extract ((ji28) : Int).toNat a1.size).size ≤ 9223372036854775807
    rotate_left
    ·rw [if_neg c31] at H
     exact absurd H (by simp)
    rw [if_pos c31] at H
    have c31b0 := eq_true c31
    have c31b1 : decide ((a1.extract 0 (t673 : Int).toNat).size + (a1.extract ((ji28) : Int).toNat a1.size).size ≤ 9223372036854775807) = true := decide_eq_true c31
    try have c31b2 : (9223372036854775807 < (a1.extract 0 (t673 : Int).toNat).size + (a1.extract ((ji28) : Int).toNat a1.size).size) = False := eq_false (Nat.not_lt.2 c31)
    simp only [Option.some.injEq, Prod.mk.injEq] at H
    obtain ⟨rfl, rfl, rfl, rfl⟩ := H
    go_wp2_with (first | (go_at_call 98; (with_reducible refine (F98.calls g s0_0 x1001_7 x1002_7 x1003_7 2 true t689 t690 t691 w0 _ ?s1 ?s2 A24.out).mono ?_); (case s1 => exact au6_3); (case s2 => exact au6_4); rintro e w32 ⟨rfl, hi, hb, hk⟩; replace HK := am_ (KeepBut.trans au6_2 hk (.inl rfl)); replace HB := am_ (hb); replace HI0 := am_ (hi); (try clear hb); (try clear hb2); (try clear hk); (try clear hi)))
    repeat (go_quiet (first | (go_at_call 98; (with_reducible refine (F98.calls g s0_0 x1001_7 x1002_7 x1003_7 2 true t689 t690 t691 w0 _ ?s1 ?s2 A24.out).mono ?_); (case s1 => exact au6_3); (case s2 => exact au6_4); rintro e w32 ⟨rfl, hi, hb, hk⟩; replace HK := am_ (KeepBut.trans au6_2 hk (.inl rfl)); replace HB := am_ (hb); replace HI0 := am_ (hi); (try clear hb); (try clear hb2); (try clear hk); (try clear hi))); try go_wp2_with (first | (go_at_call 98; (with_reducible refine (F98.calls g s0_0 x1001_7 x1002_7 x1003_7 2 true t689 t690 t691 w0 _ ?s1 ?s2 A24.out).mono ?_); (case s1 => exact au6_3); (case s2 => exact au6_4); rintro e w32 ⟨rfl, hi, hb, hk⟩; replace HK := am_ (KeepBut.trans au6_2 hk (.inl rfl)); replace HB := am_ (hb); replace HI0 := am_ (hi); (try clear hb); (try clear hb2); (try clear hk); (try clear hi))))
    go_ret
    exact ⟨by first | rfl | (simp [errW_none, errW_some] <;> rfl) | (simp only [← hji28]; first | rfl | (simp [errW_none, errW_some] <;> rfl)) | (simp [*, errW_none, errW_some] <;> rfl), is6_0_, au6_11, au6_14⟩
   by_cases c33 : 0 ≤ t673
   rotate_left
   ·rw [if_neg c33] at H
    exact absurd H (by simp)
   rw [if_pos c33] at H
   have c33b0 := eq_true c33
   have c33b1 : decide (0 ≤ t673) = true := decide_eq_true c33
   clear c33
   by_cases c34 : t673 ≤ (a1.size : Int)
   rotate_left
   ·rw [if_neg c34] at H
    exact absurd H (by simp)
   rw [if_pos c34] at H
   have c34b0 := eq_true c34
   have c34b1 : decide (t673 ≤ (a1.size : Int)) = true := decide_eq_true c34
   clear c34
   by_cases c35 : (a1.extract 0 (t673 : Int).toNat).size + (strOfNums y681).size ≤ 9223372036854775807
   rotate_left
   ·rw [if_neg c35] at H
    exact absurd H (by simp)
   rw [if_pos c35] at H
   have c35b0 := eq_true c35
   have c35b1 : decide ((a1.extract 0 (t673 : Int).toNat).size + (strOfNums y681).size ≤ 9223372036854775807) = true := decide_eq_true c35
   try have c35b2 : (9223372036854775807 < (a1.extract 0 (t673 : Int).toNat).size + (strOfNums y681).size) = False := eq_false (Nat.not_lt.2 c35)
   obtain ⟨ji36, hji36⟩ : ∃ j_ : Int, (wrap64 (t673 + 1)) = j_ := ⟨_, rfl⟩
   replace H : (if 0 ≤ (ji36) then (if (ji36) ≤ (a1.size : Int) then (if ((a1.extract 0 (t673 : Int).toNat) ++ (strOfNums y681)).size + (a1.extract ((ji36) : Int).toNat a1.size).size ≤ 9223372036854775807 then (some (((a1.extract 0 (t673 : Int).toNat) ++ (strOfNums y681)) ++ (a1.extract ((ji36) : Int).toNat a1.size), t689, t690, t691)) else (none)) else (none)) else (none)) = some (r1, r2, r3, r4) := by first | (rw [hji36] at H; exact H) | (simp only [hji36] at H ⊢; exact H)
   (try rw [hji36] at A24)
   have hji36w : (IntKind.i64.wrap (t673 + 1)) = ji36 := (i64_w _).trans hji36
   by_cases c37 : 0 ≤ (ji36)
   rotate_left
   ·rw [if_neg c37] at H
    exact absurd H (by simp)
   rw [if_pos c37] at H
   have c37b0 := eq_true c37
   have c37b1 : decide (0 ≤ (ji36)) = true := decide_eq_true c37
   clear c37
   by_cases c38 : (ji36) ≤ (a1.size : Int)
   rotate_left
   ·rw [if_neg c38] at H
    exact absurd H (by simp)
   rw [if_pos c38] at H
   have c38b0 := eq_true c38
   have c38b1 : decide ((ji36) ≤ (a1.size : Int)) = true := decide_eq_true c38
   clear c38
   by_cases c39 : ((a1.extract 0 (t673 : Int).toNat) ++ (strOfNums y681)).size + (a1.extract ((ji36) : Int).toNat a1.size).size ≤ 9223372036854775807
   rotate_left
   ·rw [if_neg c39] at H
    exact absurd H (by simp)
   rw [if_pos c39] at H
   have c39b0 := eq_true c39
   have c39b1 : decide (((a1.extract 0 (t673 : Int).toNat) ++ (strOfNums y681)).size + (a1.extract ((ji36) : Int).toNat a1.size).size ≤ 9223372036854775807) = true := decide_eq_true c39
   try have c39b2 : (9223372036854775807 < ((a1.extract 0 (t673 : Int).toNat) ++ (strOfNums y681)).size + (a1.extract ((ji36) : Int).toNat a1.size).size) = False := eq_false (Nat.not_lt.2 c39)
   try (have c39b3 := c39b2; simp only [ByteArray.size_append] at c39b3)
   simp only [Option.some.injEq, Prod.mk.injEq] at H
   obtain ⟨rfl, rfl, rfl, rfl⟩ := H
   go_wp2_with (first | (go_at_call 98; (with_reducible refine (F98.calls g s0_0 x1001_7 x1002_7 x1003_7 2 false t689 t690 t691 w0 _ ?s1 ?s2 A24.out).mono ?_); (case s1 => exact au6_3); (case s2 => exact au6_4); rintro e w40 ⟨rfl, hi, hb, hk⟩; replace HK := am_ (KeepBut.trans au6_2 hk (.inl rfl)); replace HB := am_ (hb); replace HI0 := am_ (hi); (try clear hb); (try clear hb2); (try clear hk); (try clear hi)))
   repeat (go_quiet (first | (go_at_call 98; (with_reducible refine (F98.calls g s0_0 x1001_7 x1002_7 x1003_7 2 false t689 t690 t691 w0 _ ?s1 ?s2 A24.out).mono ?_); (case s1 => exact au6_3); (case s2 => exact au6_4); rintro e w40 ⟨rfl, hi, hb, hk⟩; replace HK := am_ (KeepBut.trans au6_2 hk (.inl rfl)); replace HB := am_ (hb); replace HI0 := am_ (hi); (try clear hb); (try clear hb2); (try clear hk); (try clear hi))); try go_wp2_with (first | (go_at_call 98; (with_reducible refine (F98.calls g s0_0 x1001_7 x1002_7 x1003_7 2 false t689 t690 t691 w0 _ ?s1 ?s2 A24.out).mono ?_); (case s1 => exact au6_3); (case s2 => exact au6_4); rintro e w40 ⟨rfl, hi, hb, hk⟩; replace HK := am_ (KeepBut.trans au6_2 hk (.inl rfl)); replace HB := am_ (hb); replace HI0 := am_ (hi); (try clear hb); (try clear hb2); (try clear hk); (try clear hi))))
   go_ret
   exact ⟨by first | rfl | (simp [errW_none, errW_some] <;> rfl) | (simp only [← hji36]; first | rfl | (simp [errW_none, errW_some] <;> rfl)) | (simp [*, errW_none, errW_some] <;> rfl), is6_0_, au6_11, au6_14⟩
/-! ### F57: function 57 -/
def F57.j0 : Nat → ByteArray → List Int → Int → Int → Int → Int → Int → Int → Int → Option (Int × Int × Int × Int × ByteArray)
  | 0, _, _, _, _, _, _, _, _, _ => none
  | k + 1, x6, x698000, x698001, x698002, x698003, x706000, x706001, x706002, x706003 => (F98.f x698000 x698001 x698002 x698003 4).bind fun bt722 => (if bt722.1 = true then ((F72.f x698000 bt722.2.1 bt722.2.2.1 bt722.2.2.2 16).bind fun bt726 => ((F71.f k x698000 bt726.2.1 bt726.2.2.1 bt726.2.2.2 x706000 x706001 x706002 x706003 bt726.1).bind fun bt730 => (if 3 + bt730.1.size ≤ 9223372036854775807 then (some (x706000, x706001, x706002, x706003, (⟨#[65, 66, 67]⟩ : ByteArray) ++ bt730.1)) else (none)))) else (some (x706000, x706001, x706002, x706003, x6)))
def F57.f (k : Nat) (l0 : List Int) : Option (Int × Int × Int × Int × ByteArray) := (F64.f k l0).bind fun bt693 => ((F65.f k bt693.1 bt693.2.1 bt693.2.2.1 bt693.2.2.2).bind fun bt698 => ((F97.f k bt693.1 bt698.2.2.2.2.1 bt698.2.2.2.2.2.1 bt698.2.2.2.2.2.2).bind fun bt706 => ((F38.f k bt698.1 bt698.2.1 bt698.2.2.1 bt698.2.2.2.1 bt706.1 bt706.2.1).bind fun t713 => ((F98.f bt693.1 bt706.2.2.1 bt706.2.2.2.1 bt706.2.2.2.2 2).bind fun bt714 => (if bt714.1 = true then ((F99.f k bt693.1 bt714.2.1 bt714.2.2.1 bt714.2.2.2 t713).bind fun bt718 => (F57.j0 k bt718.1 bt693.1 bt718.2.1 bt718.2.2.1 bt718.2.2.2 bt698.1 bt698.2.1 bt698.2.2.1 bt698.2.2.2.1)) else (F57.j0 k t713 bt693.1 bt714.2.1 bt714.2.2.1 bt714.2.2.2 bt698.1 bt698.2.1 bt698.2.2.1 bt698.2.2.2.1))))))
theorem F57.mono_l : ∀ k, (∀ y0 y1 y2 y3 y4 y5 y6 y7 y8, LeO (F57.j0 k y0 y1 y2 y3 y4 y5 y6 y7 y8) (F57.j0 (k + 1) y0 y1 y2 y3 y4 y5 y6 y7 y8))
 | 0 => fun _ _ _ _ _ _ _ _ _ r h => by simp [F57.j0] at h
 | k + 1 => by
  have ih0 := F57.mono_l k
  intro y0 y1 y2 y3 y4 y5 y6 y7 y8
  unfold F57.j0
  repeat' with_reducible first | exact ih0 _ _ _ _ _ _ _ _ _ | exact F38.mono _ _ _ _ _ _ _ | exact F64.mono _ _ | exact F97.mono _ _ _ _ _ | exact F99.mono _ _ _ _ _ _ | exact F65.mono _ _ _ _ _ | exact F71.mono _ _ _ _ _ _ _ _ _ _ | exact LeO.refl _ | exact LeO.none _ | refine LeO.ite ?_ ?_ | refine LeO.bind ?_ (fun _ => ?_)
theorem F57.mono : ∀ a0 k, LeO (F57.f k a0) (F57.f (k + 1) a0) := by
 intro a0 k
 have ih0 := F57.mono_l k
 unfold F57.f
 repeat' with_reducible first | exact ih0 _ _ _ _ _ _ _ _ _ | exact F38.mono _ _ _ _ _ _ _ | exact F64.mono _ _ | exact F97.mono _ _ _ _ _ | exact F99.mono _ _ _ _ _ _ | exact F65.mono _ _ _ _ _ | exact F71.mono _ _ _ _ _ _ _ _ _ _ | exact LeO.refl _ | exact LeO.none _ | refine LeO.ite ?_ ?_ | refine LeO.bind ?_ (fun _ => ?_)
theorem F57.calls (k : Nat) (A0 : Option Addr) (c0 : Nat) (l0 : List Int) (r1 : Int) (r2 : Int) (r3 : Int) (r4 : Int) (r5 : ByteArray) (w : World) (hr0 : Kd.C (Kd.int .u8) w A0 l0.length l0) (hc0 : l0.length ≤ c0) (h : F57.f k l0 = some (r1, r2, r3, r4, r5)) :
  Calls Try.prog 57 #[.slice A0 l0.length c0] w fun e w' => e = .returned (.tuple #[.agg #[.int .i64 r1, .int .i64 r2, .int .i64 r3, .int .i64 r4], .string r5]) ∧ Below w.heap.size w w' := by
 have hu23 := Try.underlying23
 have HR0 := am_ hr0
 have HC0 := am_ hc0
 clear hr0 hc0
 have HB := am_ (Below.refl w.heap.size w)
 have H : ((F64.f k l0).bind fun bt693 => ((F65.f k bt693.1 bt693.2.1 bt693.2.2.1 bt693.2.2.2).bind fun bt698 => ((F97.f k bt693.1 bt698.2.2.2.2.1 bt698.2.2.2.2.2.1 bt698.2.2.2.2.2.2).bind fun bt706 => ((F38.f k bt698.1 bt698.2.1 bt698.2.2.1 bt698.2.2.2.1 bt706.1 bt706.2.1).bind fun t713 => ((F98.f bt693.1 bt706.2.2.1 bt706.2.2.2.1 bt706.2.2.2.2 2).bind fun bt714 => (if bt714.1 = true then ((F99.f k bt693.1 bt714.2.1 bt714.2.2.1 bt714.2.2.2 t713).bind fun bt718 => (F57.j0 k bt718.1 bt693.1 bt718.2.1 bt718.2.2.1 bt718.2.2.2 bt698.1 bt698.2.1 bt698.2.2.1 bt698.2.2.2.1)) else (F57.j0 k t713 bt693.1 bt714.2.1 bt714.2.2.1 bt714.2.2.2 bt698.1 bt698.2.1 bt698.2.2.1 bt698.2.2.2.1))))))) = some (r1, r2, r3, r4, r5) := h
 clear h
 replace H := bi_ H; rcases H with ⟨⟨t693, t694, t695, t696⟩, A2, H⟩
 replace H := bi_ H; rcases H with ⟨⟨t698, t699, t700, t701, t702, t703, t704⟩, A3, H⟩
 replace H := bi_ H; rcases H with ⟨⟨t706, t707, t710, t711, t712⟩, A4, H⟩
 replace H := bi_ H; rcases H with ⟨t713, A5, H⟩
 replace H := bi_ H; rcases H with ⟨⟨t714, t715, t716, t717⟩, A6, H⟩
 have HC7 := am_ H
 clear H
 go_enter Try.func57, Try.ntmps57
 try go_wp2_with (first | ((with_reducible refine gate_dst (N := 2) rfl ?_); refine be_ 2 #[.int .i64 0, .int .i64 0, .int .i64 0, .int .i64 0] 23 ?_; intro gb692 hg w8 hbox hb; have BK692 := am_ (hbox); have GW692 := am_ (gw_ hg bl_); have GE692 := GW692; replace HB := hs_ w hb; clear hb hbox hg) | ((with_reducible refine gate_callee (f := 64) rfl ?_); refine gl_ 8 Try.func64 #[.slice A0 l0.length c0] ?_ rfl rfl rfl rfl; (with_reducible refine (F64.calls k _ _ l0 t693 t694 t695 t696 w _ ?s1 ?s2 ?s3 A2.out).mono ?_); (case s1 => repeat (first | (with_reducible first | exact HB.out | apply below_alloc | apply pw_below_drewN | apply below_drew1 | refine below_set ?_ GE692.out) | exact HB.out)); (case s2 => exact HR0.out); (case s3 => exact HC0.out); rintro e w9 ⟨g697, rfl, hi, hb, hb2⟩; refine ⟨_, rfl, ?_⟩; replace HB := am_ (hb); have HI697 := am_ (hi); have NB697_692 := am_ (IsS121.ne_blk hi (blkb_ BK692 hb2) (by decide)); have NB692_697 := am_ (Ne.symm (IsS121.ne_blk hi (blkb_ BK692 hb2) (by decide))); replace BK692 := am_ (blkb_ BK692 hb2); (try clear hb hb2 hi)) | ((with_reducible refine gate_callee (f := 65) rfl ?_); refine gl_ 10 Try.func65 #[.pointer (some ⟨g697, 0, none⟩)] ?_ rfl rfl rfl rfl; (with_reducible refine (F65.calls k g697 t693 t694 t695 t696 t698 t699 t700 t701 t702 t703 t704 w _ ?s1 ?s2 A3.out).mono ?_); (case s1 => repeat (first | (with_reducible first | exact HI697.out | apply IsS121.alloc | apply IsS121.drewN | apply IsS121.drew | apply IsS121.set_1 | apply IsS121.set_2 | apply IsS121.set_3 | refine IsS121.far ?_ NB697_692.out _) | exact HI697.out)); (case s2 => repeat (first | (with_reducible first | exact HB.out | apply below_alloc | apply pw_below_drewN | apply below_drew1 | refine below_set ?_ (IsS121.ge HI697.out) | refine below_set ?_ GE692.out) | exact HB.out)); rintro e w10 ⟨rfl, hi, hb, hk⟩; refine ⟨_, rfl, ?_⟩; replace BK692 := ka_ hk BK692 NB692_697; replace HB := am_ (hb); replace HI697 := am_ (hi); (try clear hb hk hi)) | ((with_reducible refine gate_dst (N := 5) rfl ?_); refine be_ 5 #[.int .i64 0, .int .i64 0, .int .i64 0, .int .i64 0] 23 ?_; intro gb705 hg w11 hbox hb; have BK705 := am_ (hbox); have GW705 := am_ ((by rw [hg]; exact (below_size au6_21) : w.heap.size ≤ gb705)); have GE705 := am_ ((by rw [hg]; exact (below_size au6_21) : w.heap.size ≤ gb705)); replace HB := am_ (below_step au6_21 hb); have NB692_705 := am_ (gn_ hg (blkl_ BK692)); have NB705_692 := am_ (gm_ hg (blkl_ BK692)); replace BK692 := bb_ BK692 hb; have NB697_705 := am_ ((by rw [hg]; exact Nat.ne_of_lt (IsS121.lt (is6_1_ : IsS121 w _ g697 t693 t702 t703 t704)) : g697 ≠ gb705)); have NB705_697 := am_ ((by rw [hg]; exact Nat.ne_of_gt (IsS121.lt (is6_1_ : IsS121 w _ g697 t693 t702 t703 t704)) : gb705 ≠ g697)); replace HI697 := am_ (IsS121.below is6_1_ hb); clear hb hbox hg; have hnb12 := NB705_692.out; have hnc12 := NB692_705.out; have hnb13 := NB705_697.out; have hnc13 := NB697_705.out; obtain ⟨hcz14_0, hcz14_1, hcz14_2, hcz14_3, hfz14_0, hfz14_1, hfz14_2, hfz14_3⟩ := cellsF4 BK705.out))
 have n0_ : Aside0 (((((w11.setCell ⟨gb705, 0, none⟩ (.int .i64 t698)).setCell ⟨gb705, 1, none⟩ (.int .i64 t699)).setCell ⟨gb705, 2, none⟩ (.int .i64 t700)).setCell ⟨gb705, 3, none⟩ (.int .i64 t701)).heap[gb692]? = some (.cells #[.int .i64 0, .int .i64 0, .int .i64 0, .int .i64 0] 23 (0, 0))) := ⟨bf_ BK692⟩
 have n1_ : Aside0 (((((w11.setCell ⟨gb705, 0, none⟩ (.int .i64 t698)).setCell ⟨gb705, 1, none⟩ (.int .i64 t699)).setCell ⟨gb705, 2, none⟩ (.int .i64 t700)).setCell ⟨gb705, 3, none⟩ (.int .i64 t701)).heap[gb705]? = some (.cells #[.int .i64 t698, .int .i64 t699, .int .i64 t700, .int .i64 t701] 23 (0, 0))) := ⟨bq_ BK705⟩
 have n2_ : Aside0 (IsS121 w ((((w11.setCell ⟨gb705, 0, none⟩ (.int .i64 t698)).setCell ⟨gb705, 1, none⟩ (.int .i64 t699)).setCell ⟨gb705, 2, none⟩ (.int .i64 t700)).setCell ⟨gb705, 3, none⟩ (.int .i64 t701)) g697 t693 t702 t703 t704) := ⟨is6_1_⟩
 have n3_ : Aside0 (Below w.heap.size w ((((w11.setCell ⟨gb705, 0, none⟩ (.int .i64 t698)).setCell ⟨gb705, 1, none⟩ (.int .i64 t699)).setCell ⟨gb705, 2, none⟩ (.int .i64 t700)).setCell ⟨gb705, 3, none⟩ (.int .i64 t701))) := ⟨au6_9⟩
 (try clear BK692)
 (try clear BK705)
 (try clear HI697)
 (try clear HB)
 generalize ((((w11.setCell ⟨gb705, 0, none⟩ (.int .i64 t698)).setCell ⟨gb705, 1, none⟩ (.int .i64 t699)).setCell ⟨gb705, 2, none⟩ (.int .i64 t700)).setCell ⟨gb705, 3, none⟩ (.int .i64 t701)) = w15 at n0_ n1_ n2_ n3_ ⊢
 have BK692 := n0_
 have BK705 := n1_
 have HI697 := n2_
 have HB := n3_
 clear n0_ n1_ n2_ n3_
 replace BK692 := bd_ BK692
 replace BK705 := bd_ BK705
 replace HI697 := am_ (IsS121.drew HI697.out)
 replace HB := am_ (below_drew1 HB.out)
 refine start_ (n := 5) (S := fun w' => w'.cell? ⟨gb705, 0, none⟩ = some (.int .i64 t698) ∧ w'.cell? ⟨gb705, 1, none⟩ = some (.int .i64 t699) ∧ w'.cell? ⟨gb705, 2, none⟩ = some (.int .i64 t700) ∧ w'.cell? ⟨gb705, 3, none⟩ = some (.int .i64 t701)) (ds := []) #[false, false, false, false, false] (by kernel_rfl) rfl rfl ⟨(blk_cell BK705.out 0).trans rfl, (blk_cell BK705.out 1).trans rfl, (blk_cell BK705.out 2).trans rfl, (blk_cell BK705.out 3).trans rfl⟩ (fun hHeld => ?_)
 generalize w15.drew = w16 at BK692 BK705 HI697 HB hHeld ⊢
 refine pk_ 1 12 #[false, true, false, false, false] ?_ rfl rfl
 refine take_ (i := 0) (N := some 11) (v := ?_) (a' := ?_) #[true, true, false, false, false] rfl rfl (by kernel_rfl) (fun _ _ _ h => h) (Or.inl ⟨by rfl, ?_⟩) hHeld ?_ ?_
 rotate_left
 ·rintro w' ⟨s0, s1, s2, s3⟩
  go_simp
  with_reducible rfl
 rotate_left
 ·simp only [Act.put, List.setIfInBounds_toArray, List.set_cons_zero, List.set_cons_succ, i64_w, i32_w]
  rfl
 refine one_ (i := 2) (N := some 13) #[true, true, true, false, false] rfl rfl (by kernel_rfl) (by decide) (fun K hK => ?_)
 refine gr_ Try.func97 #[.pointer (some ⟨g697, 0, none⟩)] (by rfl) ?_ rfl rfl rfl
 with_reducible refine (F97.calls k g697 t693 t702 t703 t704 t706 t707 t710 t711 t712 w _ ?s1 ?s2 A4.out).mono ?_
 (case s1 => exact au6_5)
 (case s2 => exact au6_7)
 rintro e w17 ⟨v708, rfl, ho0, hi, hb, hk⟩
 refine ⟨_, rfl, ?_⟩
 replace BK692 := ka_ hk BK692 NB692_697
 replace BK705 := ka_ hk BK705 NB705_697
 have HO709 := am_ (Kd.S_lower ho0 (below_size au6_25))
 replace HB := am_ (hb)
 replace HI697 := am_ (hi)
 (try clear hb)
 (try clear hb2)
 (try clear hk)
 (try clear hi)
 (try clear ho0)
 obtain ⟨Ao18, co18, eo18⟩ := Kd.S_slice HO709.out
 (first | subst eo18 | (injection eo18 with f1_ f2_ f3_; have f4_ := f1_.symm; have f5_ := f3_.symm; clear f1_ f2_ f3_; subst f4_; subst f5_))
 refine hK.out _ _ ⟨(blk_cell BK705.out 0).trans rfl, (blk_cell BK705.out 1).trans rfl, (blk_cell BK705.out 2).trans rfl, (blk_cell BK705.out 3).trans rfl⟩ (fun hHeld => ?_)
 clear hK K
 refine no_ 13 ?_
 refine one_ (i := 3) (N := some 14) #[true, true, true, true, false] rfl rfl (by kernel_rfl) (by decide) (fun K hK => ?_)
 refine gr_ Try.func38 #[.agg #[.int .i64 t698, .int .i64 t699, .int .i64 t700, .int .i64 t701], .agg #[.string t706, .slice Ao18 t707.length co18]] (by rfl) ?_ rfl rfl rfl
 with_reducible refine (F38.calls k t698 t699 t700 t701 t706 _ _ t707 t713 _ ?s1 ?s2 A5.out).mono ?_
 (case s1 => repeat (first | exact (Kd.S_reads' HO709.out).2.2 | (with_reducible refine Kd.C_alloc ?_ _) | (with_reducible refine Kd.C_drewN ?_ _) | (with_reducible refine Kd.C_drew ?_)))
 (case s2 => exact (Kd.S_reads' HO709.out).2.1)
 rintro e w19 ⟨rfl, hb⟩
 refine ⟨_, rfl, ?_⟩
 replace HO709 := am_ (Kd.S_below au6_27 hb)
 replace BK692 := bb_ BK692 hb
 replace BK705 := bb_ BK705 hb
 replace HB := am_ (below_step au6_25 hb)
 replace HI697 := am_ (IsS121.below is6_1_ hb)
 (try clear hb)
 (try clear hb2)
 (try clear hk)
 (try clear hi)
 refine hK.out _ _ ⟨(blk_cell BK705.out 0).trans rfl, (blk_cell BK705.out 1).trans rfl, (blk_cell BK705.out 2).trans rfl, (blk_cell BK705.out 3).trans rfl⟩ (fun hHeld => ?_)
 clear hK K
 refine no_ 14 ?_
 refine pk_ 4 6 #[true, true, true, true, true] ?_ rfl rfl
 refine done_ (by kernel_rfl) ?_
 go_upto_if 16 with (first | ((with_reducible refine gate_callee (f := 98) rfl ?_); refine gl_ 16 Try.func98 #[.pointer (some ⟨g697, 0, none⟩), .int .i64 2] ?_ rfl rfl rfl rfl; (with_reducible refine (F98.calls g697 t693 t710 t711 t712 2 t714 t715 t716 t717 w _ ?s1 ?s2 A6.out).mono ?_); (case s1 => exact au6_5); (case s2 => exact au6_7); rintro e w20 ⟨rfl, hi, hb, hk⟩; refine ⟨_, rfl, ?_⟩; replace BK692 := ka_ hk BK692 NB692_697; replace BK705 := ka_ hk BK705 NB705_697; replace HO709 := am_ (Kd.S_mono (Kd.S_keep (IsS121.apartS (is6_1_ : IsS121 w _ g697 t693 t710 t711 t712) au6_27 (by decide)) hk (fun _ h => h.2)) (fun _ h => h.1)); replace HB := am_ (hb); replace HI697 := am_ (hi); (try clear hb); (try clear hb2); (try clear hk); (try clear hi)))
 (try simp only [Act.put, List.setIfInBounds_toArray, List.set_cons_zero, List.set_cons_succ])
 go_cut [6] (fun v6 wc => ∃ (kq : Nat) (x6_6 : ByteArray) (x698001_6 : Int) (x698002_6 : Int) (x698003_6 : Int), v6 = .string x6_6 ∧ Aside0 (F57.j0 kq x6_6 t693 x698001_6 x698002_6 x698003_6 t698 t699 t700 t701 = some (r1, r2, r3, r4, r5)) ∧ Aside0 (kq ≤ k) ∧ Aside0 (wc.heap[gb692]? = some (.cells #[.int .i64 0, .int .i64 0, .int .i64 0, .int .i64 0] 23 (0, 0))) ∧ Aside0 (wc.heap[gb705]? = some (.cells #[.int .i64 t698, .int .i64 t699, .int .i64 t700, .int .i64 t701] 23 (0, 0))) ∧ Aside0 (IsS121 w wc g697 t693 x698001_6 x698002_6 x698003_6) ∧ Aside0 (Below w.heap.size w wc))
 case first =>
  have H := HC7.out
  clear HC7
  replace H := ib_ H; rcases H with ⟨rfl, H⟩ | ⟨rfl, H⟩
  rotate_left
  ·have H' := am_ H
   clear H
   go_wp2
   go_meet
   case rel => exact ⟨_, (t713), (t715), (t716), (t717), er_, H', ⟨au6_26⟩, ⟨bk_ BK692⟩, ⟨bk_ BK705⟩, ⟨is6_1_⟩, ⟨au6_9⟩⟩
  replace H := bi_ H; rcases H with ⟨⟨t718, t719, t720, t721⟩, A22, H⟩
  have H' := am_ H
  clear H
  go_wp2_with (first | ((with_reducible refine gate_callee (f := 99) rfl ?_); refine gl_ 19 Try.func99 #[.pointer (some ⟨g697, 0, none⟩), .string t713] ?_ rfl rfl rfl rfl; (with_reducible refine (F99.calls k g697 t693 t715 t716 t717 t713 t718 t719 t720 t721 w _ ?s1 ?s2 A22.out).mono ?_); (case s1 => exact au6_5); (case s2 => exact au6_7); rintro e w23 ⟨rfl, hi, hb, hk⟩; refine ⟨_, rfl, ?_⟩; replace BK692 := ka_ hk BK692 NB692_697; replace BK705 := ka_ hk BK705 NB705_697; replace HO709 := am_ (Kd.S_mono (Kd.S_keep (IsS121.apartS (is6_1_ : IsS121 w _ g697 t693 t715 t716 t717) au6_27 (by decide)) hk (fun _ h => h.2)) (fun _ h => h.1)); replace HB := am_ (hb); replace HI697 := am_ (hi); (try clear hb); (try clear hb2); (try clear hk); (try clear hi)))
  go_meet
  case rel => exact ⟨_, (t718), (t719), (t720), (t721), er_, H', ⟨au6_26⟩, ⟨bk_ BK692⟩, ⟨bk_ BK705⟩, ⟨is6_1_⟩, ⟨au6_9⟩⟩
 case rest =>
  clear HC7
  try clear hcz14_0 hcz14_1 hcz14_2 hcz14_3
  try clear hfz14_0 hfz14_1 hfz14_2 hfz14_3
  obtain ⟨kq, x6_6, x698001_6, x698002_6, x698003_6, rfl, HA, HJ6, BK692, BK705, HI697, HB⟩ := hcut
  cases kq with
  | zero => exact absurd HA.out (by simp [F57.j0])
  | succ kj6 =>
   have H := HA.out
   clear HA
   simp only [F57.j0] at H
   replace H := bi_ H; rcases H with ⟨⟨t722, t723, t724, t725⟩, A24, H⟩
   replace H := ib_ H; rcases H with ⟨rfl, H⟩ | ⟨rfl, H⟩
   rotate_left
   ·simp only [Option.some.injEq, Prod.mk.injEq] at H
    obtain ⟨rfl, rfl, rfl, rfl, rfl⟩ := H
    go_wp2_with (first | ((with_reducible refine gate_callee (f := 98) rfl ?_); refine gl_ 21 Try.func98 #[.pointer (some ⟨g697, 0, none⟩), .int .i64 4] ?_ rfl rfl rfl rfl; (with_reducible refine (F98.calls g697 t693 x698001_6 x698002_6 x698003_6 4 false t723 t724 t725 w _ ?s1 ?s2 A24.out).mono ?_); (case s1 => exact au6_5); (case s2 => exact au6_7); rintro e w38 ⟨rfl, hi, hb, hk⟩; refine ⟨_, rfl, ?_⟩; replace BK692 := ka_ hk BK692 NB692_697; replace BK705 := ka_ hk BK705 NB705_697; replace HB := am_ (hb); replace HI697 := am_ (hi); (try clear hb hk hi); have hnb39 := NB705_692.out; have hnc39 := NB692_705.out; have hnb40 := NB705_697.out; have hnc40 := NB697_705.out; obtain ⟨hcz41_0, hcz41_1, hcz41_2, hcz41_3, hfz41_0, hfz41_1, hfz41_2, hfz41_3⟩ := cellsF4 BK705.out; have hnb42 := NB692_697.out; have hnc42 := NB697_692.out; obtain ⟨hcz43_0, hcz43_1, hcz43_2, hcz43_3, hfz43_0, hfz43_1, hfz43_2, hfz43_3⟩ := cellsF4 BK692.out))
    refine bodyPost_ret (results_ct rfl _ _ gb692 23 #[.int .i64 t698, .int .i64 t699, .int .i64 t700, .int .i64 t701] (0, 0) _ rfl (bq_ BK692) Try.underlying23 rfl (by kernel_rfl)) rfl ?_
    exact ⟨au6_8, au6_9⟩

   replace H := bi_ H; rcases H with ⟨⟨t726, t727, t728, t729⟩, A26, H⟩
   replace H := bi_ H; rcases H with ⟨⟨t730, t731, t732, t733⟩, A27, H⟩
   by_cases c28 : 3 + t730.size ≤ 9223372036854775807
   rotate_left
   ·rw [if_neg c28] at H
    exact absurd H (by simp)
   rw [if_pos c28] at H
   have c28b0 := eq_true c28
   have c28b1 : decide (3 + t730.size ≤ 9223372036854775807) = true := decide_eq_true c28
   try have c28b2 : (9223372036854775807 < 3 + t730.size) = False := eq_false (Nat.not_lt.2 c28)
   simp only [Option.some.injEq, Prod.mk.injEq] at H
   obtain ⟨rfl, rfl, rfl, rfl, rfl⟩ := H
   try go_wp2_with (first | ((with_reducible refine gate_callee (f := 98) rfl ?_); refine gl_ 21 Try.func98 #[.pointer (some ⟨g697, 0, none⟩), .int .i64 4] ?_ rfl rfl rfl rfl; (with_reducible refine (F98.calls g697 t693 x698001_6 x698002_6 x698003_6 4 true t723 t724 t725 w _ ?s1 ?s2 A24.out).mono ?_); (case s1 => exact au6_5); (case s2 => exact au6_7); rintro e w29 ⟨rfl, hi, hb, hk⟩; refine ⟨_, rfl, ?_⟩; replace BK692 := ka_ hk BK692 NB692_697; replace BK705 := ka_ hk BK705 NB705_697; replace HB := am_ (hb); replace HI697 := am_ (hi); (try clear hb hk hi)))
   replace BK692 := bd_ BK692
   replace BK705 := bd_ BK705
   replace HI697 := am_ (IsS121.drew HI697.out)
   replace HB := am_ (below_drew1 HB.out)
   refine start_ (n := 7) (S := fun w' => w'.cell? ⟨gb705, 0, none⟩ = some (.int .i64 t698) ∧ w'.cell? ⟨gb705, 1, none⟩ = some (.int .i64 t699) ∧ w'.cell? ⟨gb705, 2, none⟩ = some (.int .i64 t700) ∧ w'.cell? ⟨gb705, 3, none⟩ = some (.int .i64 t701)) (ds := []) (bs 7 0) (by kernel_rfl) rfl rfl ⟨(blk_cell BK705.out 0).trans rfl, (blk_cell BK705.out 1).trans rfl, (blk_cell BK705.out 2).trans rfl, (blk_cell BK705.out 3).trans rfl⟩ (fun hHeld => ?_)
   generalize w29.drew = w30 at BK692 BK705 HI697 HB hHeld ⊢
   refine pk_ 0 22 (bs 7 1) ?_ rfl rfl
   refine pk_ 2 24 (bs 7 5) ?_ rfl rfl
   refine take_ (i := 1) (N := some 23) (v := ?_) (a' := ?_) (bs 7 7) rfl rfl (by kernel_rfl) (fun _ _ _ h => h) (Or.inl ⟨by rfl, ?_⟩) hHeld ?_ ?_
   rotate_left
   ·rintro w' ⟨s0, s1, s2, s3⟩
    go_simp
    with_reducible rfl
   rotate_left
   ·simp only [Act.put, List.setIfInBounds_toArray, List.set_cons_zero, List.set_cons_succ, i64_w, i32_w]
    rfl
   refine one_ (i := 3) (N := some 25) (bs 7 15) rfl rfl (by kernel_rfl) (by decide) (fun K hK => ?_)
   refine gr_ Try.func72 #[.pointer (some ⟨g697, 0, none⟩), .int .i64 16] (by rfl) ?_ rfl rfl rfl
   with_reducible refine (F72.calls g697 t693 t723 t724 t725 16 t726 t727 t728 t729 w _ ?s1 ?s2 A26.out).mono ?_
   (case s1 => exact au6_5)
   (case s2 => exact au6_7)
   rintro e w31 ⟨rfl, hi, hb, hk⟩
   refine ⟨_, rfl, ?_⟩
   replace BK692 := ka_ hk BK692 NB692_697
   replace BK705 := ka_ hk BK705 NB705_697
   replace HB := am_ (hb)
   replace HI697 := am_ (hi)
   (try clear hb)
   (try clear hb2)
   (try clear hk)
   (try clear hi)
   refine hK.out _ _ ⟨(blk_cell BK705.out 0).trans rfl, (blk_cell BK705.out 1).trans rfl, (blk_cell BK705.out 2).trans rfl, (blk_cell BK705.out 3).trans rfl⟩ (fun hHeld => ?_)
   clear hK K
   refine no_ 25 ?_
   refine one_ (i := 4) (N := some 26) (bs 7 31) rfl rfl (by kernel_rfl) (by decide) (fun K hK => ?_)
   refine gr_ Try.func71 #[.pointer (some ⟨g697, 0, none⟩), .agg #[.int .i64 t698, .int .i64 t699, .int .i64 t700, .int .i64 t701], .int .i64 t726] (by rfl) ?_ rfl rfl rfl
   with_reducible refine (F71.calls kj6 g697 t693 t727 t728 t729 t698 t699 t700 t701 t726 t730 t731 t732 t733 w _ ?s1 ?s2 A27.out).mono ?_
   (case s1 => exact au6_5)
   (case s2 => exact au6_7)
   rintro e w32 ⟨rfl, hi, hb, hk⟩
   refine ⟨_, rfl, ?_⟩
   replace BK692 := ka_ hk BK692 NB692_697
   replace BK705 := ka_ hk BK705 NB705_697
   replace HB := am_ (hb)
   replace HI697 := am_ (hi)
   (try clear hb)
   (try clear hb2)
   (try clear hk)
   (try clear hi)
   refine hK.out _ _ ⟨(blk_cell BK705.out 0).trans rfl, (blk_cell BK705.out 1).trans rfl, (blk_cell BK705.out 2).trans rfl, (blk_cell BK705.out 3).trans rfl⟩ (fun hHeld => ?_)
   clear hK K
   refine no_ 26 ?_
   refine pk_ 5 27 (bs 7 63) ?_ rfl rfl
   refine pk_ 6 6 (bs 7 127) ?_ rfl rfl
   refine done_ (by kernel_rfl) ?_
   have hnb33 := NB705_692.out
   have hnc33 := NB692_705.out
   have hnb34 := NB705_697.out
   have hnc34 := NB697_705.out
   obtain ⟨hcz35_0, hcz35_1, hcz35_2, hcz35_3, hfz35_0, hfz35_1, hfz35_2, hfz35_3⟩ := cellsF4 BK705.out
   have hnb36 := NB692_697.out
   have hnc36 := NB697_692.out
   obtain ⟨hcz37_0, hcz37_1, hcz37_2, hcz37_3, hfz37_0, hfz37_1, hfz37_2, hfz37_3⟩ := cellsF4 BK692.out
   try go_wp2
   refine bodyPost_ret (results_ct rfl _ _ gb692 23 #[.int .i64 t698, .int .i64 t699, .int .i64 t700, .int .i64 t701] (0, 0) _ rfl (bq_ BK692) Try.underlying23 rfl (by kernel_rfl)) rfl ?_
   exact ⟨au6_8, au6_9⟩
/-! ### F14: function 14 -/
mutual
def F14.j0 : Nat → List Int → List Int → Bool → Option (Bool)
  | 0, _, _, _ => none
  | k + 1, x0, x1, x19 => if x19 = true then (some true) else ((F55.f k x0).bind fun bt734 => ((F23.f k bt734.1 bt734.2.1 bt734.2.2.1 bt734.2.2.2.1).bind fun t744 => (if t744 = true then ((F34.f k bt734.2.2.2.2.1 bt734.2.2.2.2.2).bind fun t745 => (F14.j1 k x1 t745 bt734.1 bt734.2.1 bt734.2.2.1 bt734.2.2.2.1 bt734.2.2.2.2.1 bt734.2.2.2.2.2)) else (F14.j1 k x1 false bt734.1 bt734.2.1 bt734.2.2.1 bt734.2.2.2.1 bt734.2.2.2.2.1 bt734.2.2.2.2.2))))
def F14.j1 : Nat → List Int → Bool → Int → Int → Int → Int → ByteArray → List (S102) → Option (Bool)
  | 0, _, _, _, _, _, _, _, _ => none
  | k + 1, x1, x30, x743000, x743001, x743002, x743003, x744000, x744001 => if x30 = true then ((F39.f k x743000 x743001 x743002 x743003 x744000 x744001).bind fun t746 => (if t746.size + 2 ≤ 9223372036854775807 then ((F41.f k x743000 x743001 x743002 x743003 (t746 ++ (⟨#[65, 66]⟩ : ByteArray))).bind fun bt747 => (if bt747.2.2.2.2 = 0 then (if bt747.2.2.1 = (t746.size : Int) then ((F56.f k bt747.1 bt747.2.1 x744000 x744001).bind fun t755 => (if t755 = true then (F14.j2 k x1) else (some false))) else (some false)) else (some false))) else (none))) else (F14.j2 k x1)
def F14.j2 : Nat → List Int → Option (Bool)
  | 0, _ => none
  | k + 1, x1 => (F57.f k x1).bind fun bt756 => ((F41.f k bt756.1 bt756.2.1 bt756.2.2.1 bt756.2.2.2.1 bt756.2.2.2.2).bind fun bt762 => ((F40.f k bt756.1 bt756.2.1 bt756.2.2.1 bt756.2.2.2.1 bt756.2.2.2.2).bind fun bt770 => (if bt762.2.2.2.2 = bt770.2.2.2.2 then (if bt762.2.2.2.2 = 0 then (if bt762.2.2.1 > 0 then (if bt762.2.2.1 ≤ (bt756.2.2.2.2.size : Int) then ((F39.f k bt756.1 bt756.2.1 bt756.2.2.1 bt756.2.2.2.1 bt762.1 bt762.2.1).bind fun t777 => (if 0 ≤ bt762.2.2.1 then (some (t777.toList == (bt756.2.2.2.2.extract 0 (bt762.2.2.1 : Int).toNat).toList)) else (none))) else (some false)) else (some false)) else (some true)) else (some false))))
end
def F14.f (k : Nat) (l0 : List Int) (l1 : List Int) : Option (Bool) := if (l0.length : Int) > 1048576 then (F14.j0 k l0 l1 true) else (F14.j0 k l0 l1 (decide ((l1.length : Int) > 1048576)))
theorem F14.mono_l : ∀ k, (∀ y0 y1 y2, LeO (F14.j0 k y0 y1 y2) (F14.j0 (k + 1) y0 y1 y2)) ∧ (∀ y0 y1 y2 y3 y4 y5 y6 y7, LeO (F14.j1 k y0 y1 y2 y3 y4 y5 y6 y7) (F14.j1 (k + 1) y0 y1 y2 y3 y4 y5 y6 y7)) ∧ (∀ y0, LeO (F14.j2 k y0) (F14.j2 (k + 1) y0))
 | 0 => ⟨fun _ _ _ r h => by simp [F14.j0] at h, fun _ _ _ _ _ _ _ _ r h => by simp [F14.j1] at h, fun _ r h => by simp [F14.j2] at h⟩
 | k + 1 => by
  obtain ⟨ih0, ih1, ih2⟩ := F14.mono_l k
  refine ⟨?_, ?_, ?_⟩
  rotate_left
  ·intro y0 y1 y2 y3 y4 y5 y6 y7
   unfold F14.j1
   repeat' with_reducible first | exact ih0 _ _ _ | exact ih1 _ _ _ _ _ _ _ _ | exact ih2 _ | exact F41.mono _ _ _ _ _ _ | exact F39.mono _ _ _ _ _ _ _ | exact F56.mono _ _ _ _ _ | exact F57.mono _ _ | exact F55.mono _ _ | exact F40.mono _ _ _ _ _ _ | exact F34.mono _ _ _ | exact F23.mono _ _ _ _ _ | exact LeO.refl _ | exact LeO.none _ | refine LeO.ite ?_ ?_ | refine LeO.bind ?_ (fun _ => ?_)
  ·intro y0
   unfold F14.j2
   repeat' with_reducible first | exact ih0 _ _ _ | exact ih1 _ _ _ _ _ _ _ _ | exact ih2 _ | exact F41.mono _ _ _ _ _ _ | exact F39.mono _ _ _ _ _ _ _ | exact F56.mono _ _ _ _ _ | exact F57.mono _ _ | exact F55.mono _ _ | exact F40.mono _ _ _ _ _ _ | exact F34.mono _ _ _ | exact F23.mono _ _ _ _ _ | exact LeO.refl _ | exact LeO.none _ | refine LeO.ite ?_ ?_ | refine LeO.bind ?_ (fun _ => ?_)
  intro y0 y1 y2
  unfold F14.j0
  repeat' with_reducible first | exact ih0 _ _ _ | exact ih1 _ _ _ _ _ _ _ _ | exact ih2 _ | exact F41.mono _ _ _ _ _ _ | exact F39.mono _ _ _ _ _ _ _ | exact F56.mono _ _ _ _ _ | exact F57.mono _ _ | exact F55.mono _ _ | exact F40.mono _ _ _ _ _ _ | exact F34.mono _ _ _ | exact F23.mono _ _ _ _ _ | exact LeO.refl _ | exact LeO.none _ | refine LeO.ite ?_ ?_ | refine LeO.bind ?_ (fun _ => ?_)
theorem F14.mono : ∀ a0 a1 k, LeO (F14.f k a0 a1) (F14.f (k + 1) a0 a1) := by
 intro a0 a1 k
 obtain ⟨ih0, ih1, ih2⟩ := F14.mono_l k
 unfold F14.f
 repeat' with_reducible first | exact ih0 _ _ _ | exact ih1 _ _ _ _ _ _ _ _ | exact ih2 _ | exact F41.mono _ _ _ _ _ _ | exact F39.mono _ _ _ _ _ _ _ | exact F56.mono _ _ _ _ _ | exact F57.mono _ _ | exact F55.mono _ _ | exact F40.mono _ _ _ _ _ _ | exact F34.mono _ _ _ | exact F23.mono _ _ _ _ _ | exact LeO.refl _ | exact LeO.none _ | refine LeO.ite ?_ ?_ | refine LeO.bind ?_ (fun _ => ?_)
def F14.T15 : Bool × List (List Nat × List Nat) := (true, [([], []), ([0], [0]), ([1], [1]), ([2], [2]), ([3], [3]), ([4, 3], [3, 4]), ([3], [3]), ([6, 3], [3, 6]), ([5, 7, 3], [3, 5, 7]), ([3, 8], [3, 8]), ([9, 3], [9]), ([10], [10]), ([10], [10]), ([12, 10], [10, 12]), ([11, 13, 10, 10], [10, 11, 13]), ([10], [10]), ([10], [10]), ([16, 10], [10, 16]), ([15, 17, 10], [10, 15, 17]), ([14, 18, 10], [10, 14, 18]), ([10, 19], [10, 19]), ([20, 14, 0, 1, 2, 3, 4, 5, 6, 7, 8, 9, 10, 11, 12, 13, 14, 15, 16, 17, 18, 19, 20], [20])])
def F14.B15 : List Nat := [0, 1, 3, 7, 15, 31, 15, 79, 255, 511, 1023, 2047, 2047, 6143, 16383, 2047, 2047, 67583, 231423, 524287, 1048575, 2097151]
theorem F14.tab15 : rtab .any (opsOf Try.f14 15) = F14.T15 := by kernel_rfl
theorem F14.bits15 : waitsOk F14.T15.2 F14.B15 = true := by kernel_rfl
theorem F14.calls (k : Nat) (A0 : Option Addr) (c0 : Nat) (l0 : List Int) (A1 : Option Addr) (c1 : Nat) (l1 : List Int) (r : Bool) (w : World) (hr0 : Kd.C (Kd.int .u8) w A0 l0.length l0) (hc0 : l0.length ≤ c0) (hr1 : Kd.C (Kd.int .u8) w A1 l1.length l1) (hc1 : l1.length ≤ c1) (h : F14.f k l0 l1 = some r) :
  Calls Try.prog 14 #[.slice A0 l0.length c0, .slice A1 l1.length c1] w fun e w' => e = .returned (.bool r) ∧ Below w.heap.size w w' := by
 have hu23 := Try.underlying23
 have hu59 := Try.underlying59
 have hu66 := Try.underlying66
 have HR0 := am_ hr0
 have HC0 := am_ hc0
 clear hr0 hc0
 have HR1 := am_ hr1
 have HC1 := am_ hc1
 clear hr1 hc1
 have HB := am_ (Below.refl w.heap.size w)
 have H : (if (l0.length : Int) > 1048576 then (F14.j0 k l0 l1 true) else (F14.j0 k l0 l1 (decide ((l1.length : Int) > 1048576)))) = some r := h
 clear h
 have HC3 := am_ H
 clear H
 go_enter Try.func14, Try.ntmps14
 go_upto_region 1 with (fail)
 go_cut [19] (fun v19 wc => ∃ (kq : Nat) (x19_2 : Bool), v19 = .bool x19_2 ∧ Aside0 (F14.j0 kq l0 l1 x19_2 = some r) ∧ Aside0 (kq ≤ k) ∧ Aside0 (Below w.heap.size w wc))
 case first =>
  have H := HC3.out
  clear HC3
  replace H := it_ H; rcases H with ⟨(c4b0 : decide (1048576 < (l0.length : Int)) = true), H⟩ | ⟨(c4b0 : decide (1048576 < (l0.length : Int)) = false), H⟩
  rotate_left
  ·have c4b1 : decide (1048576 < l0.length) = false := n2_ c4b0
   (first | rw [c4b0] | (simp only [i64_w, i32_w]; rw [c4b0]) | skip)
   have H' := am_ H
   clear H
   go_wp2
   go_meet
   case rel => exact ⟨_, (decide ((l1.length : Int) > 1048576)), er_, H', ⟨au6_26⟩, ⟨bl_⟩⟩
  have c4b1 : decide (1048576 < l0.length) = true := n2_ c4b0
  (first | rw [c4b0] | (simp only [i64_w, i32_w]; rw [c4b0]) | skip)
  have H' := am_ H
  clear H
  go_wp2
  go_meet
  case rel => exact ⟨_, (true), er_, H', ⟨au6_26⟩, ⟨bl_⟩⟩
 case rest =>
  clear HC3
  try clear c1
  try clear c4b0
  try clear c4b1
  obtain ⟨kq, x19_2, rfl, HA, HJ2, HB⟩ := hcut
  cases kq with
  | zero => exact absurd HA.out (by simp [F14.j0])
  | succ kj2 =>
   have H := HA.out
   clear HA
   simp only [F14.j0] at H
   replace H := ib_ H; rcases H with ⟨rfl, H⟩ | ⟨rfl, H⟩
   ·obtain rfl := Option.some.inj H
    go_wp2
    go_ret
    exact ⟨au6_8, bl_⟩
   replace H := bi_ H; rcases H with ⟨⟨t734, t735, t736, t737, t738, t739⟩, A6, H⟩
   have HC7 := am_ H
   clear H
   go_upto_region 4 with (first | (go_at_call 55; (with_reducible refine (F55.calls kj2 _ _ l0 t734 t735 t736 t737 t738 t739 _ ?s1 ?s2 A6.out).mono ?_); (case s1 => repeat (first | exact (Kd.C_below HR0.out HB.out) | (with_reducible refine Kd.C_alloc ?_ _) | (with_reducible refine Kd.C_drewN ?_ _) | (with_reducible refine Kd.C_drew ?_))); (case s2 => exact HC0.out); rintro e w8 ⟨v740, rfl, ho0, hb⟩; (try clear A6); have HO741 := am_ (Kd.S_lower ho0 (below_size bl_)); replace HB := hs_ w hb; (try clear hb); (try clear ho0)) | ((with_reducible refine gate_dst (N := 5) rfl ?_); (try (refine gate_guard (by rfl) ?_; dsimp only)); refine be_ 5 #[.int .i64 0, .int .i64 0, .int .i64 0, .int .i64 0] 23 ?_; intro gb742 hg w9 hbox hb; replace HO741 := am_ (Kd.S_below au6_28 hb); have BK742 := am_ (hbox); have GW742 := am_ (gw_ hg bl_); have GE742 := GW742; replace HB := hs_ w hb; clear hb hbox hg) | ((with_reducible refine gate_dst (N := 6) rfl ?_); (try (refine gate_guard (by rfl) ?_; dsimp only)); refine be_ 6 #[.string (⟨#[]⟩ : ByteArray), .slice none 0 0] 59 ?_; intro gb743 hg w10 hbox hb; replace HO741 := am_ (Kd.S_below au6_28 hb); have BK743 := am_ (hbox); have GW743 := am_ (gw_ hg bl_); have GE743 := GW743; replace HB := hs_ w hb; have NB742_743 := am_ (gn_ hg (blkl_ BK742)); have NB743_742 := am_ (gm_ hg (blkl_ BK742)); replace BK742 := bb_ BK742 hb; clear hb hbox hg; have hnb11 := NB742_743.out; have hnc11 := NB743_742.out; obtain ⟨hcz12_0, hcz12_1, hcz12_2, hcz12_3, hfz12_0, hfz12_1, hfz12_2, hfz12_3⟩ := cellsF4 BK742.out; obtain ⟨hcz13_0, hcz13_1, hfz13_0, hfz13_1⟩ := cellsF2 BK743.out; obtain ⟨Ao14, co14, eo14⟩ := Kd.S_slice HO741.out; subst eo14))
   (try simp only [Act.put, List.setIfInBounds_toArray, List.set_cons_zero, List.set_cons_succ])
   go_cut [30] (fun v30 wc => ∃ (kq : Nat) (x30_6 : Bool), v30 = .bool x30_6 ∧ Aside0 (F14.j1 kq l1 x30_6 t734 t735 t736 t737 t738 t739 = some r) ∧ Aside0 (kq ≤ kj2) ∧ Aside0 (Kd.S k102 102 wc w.heap.size (fun _ => True) (.slice Ao14 t739.length co14) t739) ∧ Aside0 (wc.heap[gb742]? = some (.cells #[.int .i64 t734, .int .i64 t735, .int .i64 t736, .int .i64 t737] 23 (0, 0))) ∧ Aside0 (wc.heap[gb743]? = some (.cells #[.string t738, (.slice Ao14 t739.length co14)] 59 (0, 0))) ∧ Aside0 (Below w.heap.size w wc))
   case first =>
    have H := HC7.out
    clear HC7
    replace H := bi_ H; rcases H with ⟨t744, A15, H⟩
    replace H := ib_ H; rcases H with ⟨rfl, H⟩ | ⟨rfl, H⟩
    rotate_left
    ·have H' := am_ H
     clear H
     have hnb23 := NB742_743.out
     have hnc23 := NB743_742.out
     obtain ⟨hcz24_0, hcz24_1, hcz24_2, hcz24_3, hfz24_0, hfz24_1, hfz24_2, hfz24_3⟩ := cellsF4 BK742.out
     go_wp2_with (first | (go_at_call 23; (with_reducible refine (F23.calls kj2 t734 t735 t736 t737 false _ A15.out).mono ?_); rintro e w25 ⟨rfl, hb⟩; (try clear A15); replace HO741 := am_ (Kd.S_below au6_10 hb); replace BK742 := am_ (blk_below (g := gb742) (o := .cells #[.int .i64 t734, .int .i64 t735, .int .i64 t736, .int .i64 t737] 23 (0, 0)) (bq_ BK742) hb); replace BK743 := am_ (blk_below (g := gb743) (o := .cells #[.string t738, .slice Ao14 t739.length co14] 59 (0, 0)) (bq_ BK743) hb); replace HB := hs_ w hb; (try clear hb); (try clear hb2); (try clear hk); (try clear hi)))
     go_meet
     case rel => exact ⟨_, (false), er_, H', ⟨by have := HJ2.out; first | omega | exact Nat.le_refl _⟩, ⟨au6_32⟩, ⟨bk_ BK742⟩, ⟨bk_ BK743⟩, ⟨bl_⟩⟩
    replace H := bi_ H; rcases H with ⟨t745, A17, H⟩
    have H' := am_ H
    clear H
    have hnb18 := NB742_743.out
    have hnc18 := NB743_742.out
    obtain ⟨hcz19_0, hcz19_1, hcz19_2, hcz19_3, hfz19_0, hfz19_1, hfz19_2, hfz19_3⟩ := cellsF4 BK742.out
    go_wp2_with (first | (go_at_call 23; (with_reducible refine (F23.calls kj2 t734 t735 t736 t737 true _ A15.out).mono ?_); rintro e w20 ⟨rfl, hb⟩; (try clear A15); replace HO741 := am_ (Kd.S_below au6_10 hb); replace BK742 := am_ (blk_below (g := gb742) (o := .cells #[.int .i64 t734, .int .i64 t735, .int .i64 t736, .int .i64 t737] 23 (0, 0)) (bq_ BK742) hb); replace BK743 := am_ (blk_below (g := gb743) (o := .cells #[.string t738, .slice Ao14 t739.length co14] 59 (0, 0)) (bq_ BK743) hb); replace HB := hs_ w hb; (try clear hb); (try clear hb2); (try clear hk); (try clear hi); obtain ⟨hcz21_0, hcz21_1, hfz21_0, hfz21_1⟩ := cellsF2 BK743.out) | (go_at_call 34; (with_reducible refine (F34.calls kj2 t738 _ _ t739 t745 _ ?s1 ?s2 A17.out).mono ?_); (case s1 => repeat (first | exact (Kd.S_reads' HO741.out).2.2 | (with_reducible refine Kd.C_alloc ?_ _) | (with_reducible refine Kd.C_drewN ?_ _) | (with_reducible refine Kd.C_drew ?_))); (case s2 => exact (Kd.S_reads' HO741.out).2.1); rintro e w22 ⟨rfl, hb⟩; (try clear A17); replace HO741 := am_ (Kd.S_below au6_28 hb); replace BK742 := bb_ BK742 hb; replace BK743 := bb_ BK743 hb; replace HB := hs_ w hb; (try clear hb); (try clear hb2); (try clear hk); (try clear hi)))
    go_meet
    case rel => exact ⟨_, (t745), er_, H', ⟨by have := HJ2.out; first | omega | exact Nat.le_refl _⟩, ⟨au6_32⟩, ⟨bk_ BK742⟩, ⟨bk_ BK743⟩, ⟨bl_⟩⟩
   case rest =>
    clear HC7
    try clear c1
    try clear c4b0
    try clear c4b1
    try clear hcz12_0 hcz12_1 hcz12_2 hcz12_3
    try clear hcz13_0 hcz13_1
    try clear hcz19_0 hcz19_1 hcz19_2 hcz19_3
    try clear hcz21_0 hcz21_1
    try clear hcz24_0 hcz24_1 hcz24_2 hcz24_3
    try clear hfz12_0 hfz12_1 hfz12_2 hfz12_3
    try clear hfz13_0 hfz13_1
    try clear hfz19_0 hfz19_1 hfz19_2 hfz19_3
    try clear hfz21_0 hfz21_1
    try clear hfz24_0 hfz24_1 hfz24_2 hfz24_3
    obtain ⟨kq, x30_6, rfl, HA, HJ6, HO_744001, BK742, BK743, HB⟩ := hcut
    cases kq with
    | zero => exact absurd HA.out (by simp [F14.j1])
    | succ kj6 =>
     have H := HA.out
     clear HA
     simp only [F14.j1] at H
     have HC26 := am_ H
     clear H
     go_upto_if 30 with (fail)
     go_cut [] (fun wc => ∃ (kq : Nat), Aside0 (F14.j2 kq l1 = some r) ∧ Aside0 (kq ≤ kj6) ∧ Aside0 (Kd.S k102 102 wc w.heap.size (fun _ => True) (.slice Ao14 t739.length co14) t739) ∧ Aside0 (wc.heap[gb742]? = some (.cells #[.int .i64 t734, .int .i64 t735, .int .i64 t736, .int .i64 t737] 23 (0, 0))) ∧ Aside0 (wc.heap[gb743]? = some (.cells #[.string t738, (.slice Ao14 t739.length co14)] 59 (0, 0))) ∧ Aside0 (Below w.heap.size w wc))
     case first =>
      have H := HC26.out
      clear HC26
      replace H := ib_ H; rcases H with ⟨rfl, H⟩ | ⟨rfl, H⟩
      rotate_left
      ·have H' := am_ H
       clear H
       go_wp2
       go_meet
       case rel => exact ⟨_, H', ⟨au6_33⟩, ⟨by (with_reducible repeat (first | apply Kd.S_alloc | apply Kd.S_drewN | apply Kd.S_drew)); exact HO_744001.out⟩, ⟨bk_ BK742⟩, ⟨bk_ BK743⟩, ⟨bl_⟩⟩
      replace H := bi_ H; rcases H with ⟨t746, A28, H⟩
      by_cases c29 : t746.size + 2 ≤ 9223372036854775807
      rotate_left
      ·rw [if_neg c29] at H
       exact absurd H (by simp)
      rw [if_pos c29] at H
      have c29b0 := eq_true c29
      have c29b1 : decide (t746.size + 2 ≤ 9223372036854775807) = true := decide_eq_true c29
      try have c29b2 : (9223372036854775807 < t746.size + 2) = False := eq_false (Nat.not_lt.2 c29)
      replace H := bi_ H; rcases H with ⟨⟨t747, t748, t751, t752, t753⟩, A30, H⟩
      by_cases c31 : t753 = 0
      rotate_left
      ·rw [if_neg c31] at H
       have c31b0 : (t753 == 0) = false := beq_eq_false_iff_ne.mpr c31
       have c31b1 : (t753 != 0) = true := bne_iff_ne.mpr c31
       (first | rw [c31b0] | (simp only [i64_w, i32_w]; rw [c31b0]) | skip)
       obtain rfl := Option.some.inj H
       have hnb72 := NB742_743.out
       have hnc72 := NB743_742.out
       obtain ⟨hcz73_0, hcz73_1, hcz73_2, hcz73_3, hfz73_0, hfz73_1, hfz73_2, hfz73_3⟩ := cellsF4 BK742.out
       obtain ⟨hcz74_0, hcz74_1, hfz74_0, hfz74_1⟩ := cellsF2 BK743.out
       go_wp2_with (first | (go_at_call 39; (with_reducible refine (F39.calls kj6 t734 t735 t736 t737 t738 _ _ t739 t746 _ ?s1 ?s2 A28.out).mono ?_); (case s1 => exact au6_19); (case s2 => exact au6_29); rintro e w75 ⟨rfl, hb⟩; (try clear A28); replace HO_744001 := am_ (Kd.S_below au6_0 hb); replace BK742 := bb_ BK742 hb; replace BK743 := bb_ BK743 hb; replace HB := hs_ w hb; (try clear hb); (try clear hb2); (try clear hk); (try clear hi); obtain ⟨hcz76_0, hcz76_1, hcz76_2, hcz76_3, hfz76_0, hfz76_1, hfz76_2, hfz76_3⟩ := cellsF4 BK742.out) | (go_at_call 41; (with_reducible refine (F41.calls kj6 t734 t735 t736 t737 (t746 ++ (⟨#[65, 66]⟩ : ByteArray)) t747 t748 t751 t752 t753 _ A30.out).mono ?_); rintro e w77 ⟨v749, rfl, ho0, hb⟩; (try clear A30); have HO750 := am_ (Kd.S_lower (Kd.S_new' ho0 (Kd.S_lt au6_0)) (below_size bl_)); replace HO_744001 := am_ (Kd.S_elder' au6_0 (Kd.S_base ho0) hb); replace BK742 := bb_ BK742 hb; replace BK743 := bb_ BK743 hb; replace HB := hs_ w hb; (try clear hb); (try clear hb2); (try clear hk); (try clear hi); (try clear ho0)) | ((with_reducible refine gate_dst (N := 8) rfl ?_); (try (refine gate_guard (by rfl) ?_; dsimp only)); refine be_ 8 #[.string (⟨#[]⟩ : ByteArray), .slice none 0 0, .int .i64 0, .int .i64 0, .int .i64 0] 66 ?_; intro gb754 hg w78 hbox hb; replace HO_744001 := am_ (Kd.S_below au6_0 hb); replace HO750 := am_ (Kd.S_below au6_23 hb); have BK754 := am_ (hbox); have GW754 := am_ (gw_ hg bl_); have GE754 := GW754; replace HB := hs_ w hb; have NB742_754 := am_ (gn_ hg (blkl_ BK742)); have NB754_742 := am_ (gm_ hg (blkl_ BK742)); replace BK742 := bb_ BK742 hb; have NB743_754 := am_ (gn_ hg (blkl_ BK743)); have NB754_743 := am_ (gm_ hg (blkl_ BK743)); replace BK743 := bb_ BK743 hb; clear hb hbox hg; have hnb79 := NB754_742.out; have hnc79 := NB742_754.out; have hnb80 := NB754_743.out; have hnc80 := NB743_754.out; obtain ⟨hcz81_0, hcz81_1, hcz81_2, hcz81_3, hcz81_4, hfz81_0, hfz81_1, hfz81_2, hfz81_3, hfz81_4⟩ := cellsF5 BK754.out; obtain ⟨Ao82, co82, eo82⟩ := Kd.S_slice HO750.out; subst eo82))
       go_ret
       exact ⟨au6_8, bl_⟩
      rw [if_pos c31] at H
      have c31b0 : (t753 == 0) = true := beq_iff_eq.mpr c31
      have c31b1 : (t753 != 0) = false := bne_eq_false_iff_eq.mpr c31
      clear c31
      (first | rw [c31b0] | (simp only [i64_w, i32_w]; rw [c31b0]) | skip)
      by_cases c32 : t751 = (t746.size : Int)
      rotate_left
      ·rw [if_neg c32] at H
       have c32b0 : (t751 == (t746.size : Int)) = false := beq_eq_false_iff_ne.mpr c32
       have c32b1 : (t751 != (t746.size : Int)) = true := bne_iff_ne.mpr c32
       obtain rfl := Option.some.inj H
       have hnb61 := NB742_743.out
       have hnc61 := NB743_742.out
       obtain ⟨hcz62_0, hcz62_1, hcz62_2, hcz62_3, hfz62_0, hfz62_1, hfz62_2, hfz62_3⟩ := cellsF4 BK742.out
       obtain ⟨hcz63_0, hcz63_1, hfz63_0, hfz63_1⟩ := cellsF2 BK743.out
       go_wp2_with (first | (go_at_call 39; (with_reducible refine (F39.calls kj6 t734 t735 t736 t737 t738 _ _ t739 t746 _ ?s1 ?s2 A28.out).mono ?_); (case s1 => exact au6_19); (case s2 => exact au6_29); rintro e w64 ⟨rfl, hb⟩; (try clear A28); replace HO_744001 := am_ (Kd.S_below au6_0 hb); replace BK742 := bb_ BK742 hb; replace BK743 := bb_ BK743 hb; replace HB := hs_ w hb; (try clear hb); (try clear hb2); (try clear hk); (try clear hi); obtain ⟨hcz65_0, hcz65_1, hcz65_2, hcz65_3, hfz65_0, hfz65_1, hfz65_2, hfz65_3⟩ := cellsF4 BK742.out) | (go_at_call 41; (with_reducible refine (F41.calls kj6 t734 t735 t736 t737 (t746 ++ (⟨#[65, 66]⟩ : ByteArray)) t747 t748 t751 t752 t753 _ A30.out).mono ?_); rintro e w66 ⟨v749, rfl, ho0, hb⟩; (try clear A30); have HO750 := am_ (Kd.S_lower (Kd.S_new' ho0 (Kd.S_lt au6_0)) (below_size bl_)); replace HO_744001 := am_ (Kd.S_elder' au6_0 (Kd.S_base ho0) hb); replace BK742 := bb_ BK742 hb; replace BK743 := bb_ BK743 hb; replace HB := hs_ w hb; (try clear hb); (try clear hb2); (try clear hk); (try clear hi); (try clear ho0)) | ((with_reducible refine gate_dst (N := 8) rfl ?_); (try (refine gate_guard (by rfl) ?_; dsimp only)); refine be_ 8 #[.string (⟨#[]⟩ : ByteArray), .slice none 0 0, .int .i64 0, .int .i64 0, .int .i64 0] 66 ?_; intro gb754 hg w67 hbox hb; replace HO_744001 := am_ (Kd.S_below au6_0 hb); replace HO750 := am_ (Kd.S_below au6_23 hb); have BK754 := am_ (hbox); have GW754 := am_ (gw_ hg bl_); have GE754 := GW754; replace HB := hs_ w hb; have NB742_754 := am_ (gn_ hg (blkl_ BK742)); have NB754_742 := am_ (gm_ hg (blkl_ BK742)); replace BK742 := bb_ BK742 hb; have NB743_754 := am_ (gn_ hg (blkl_ BK743)); have NB754_743 := am_ (gm_ hg (blkl_ BK743)); replace BK743 := bb_ BK743 hb; clear hb hbox hg; have hnb68 := NB754_742.out; have hnc68 := NB742_754.out; have hnb69 := NB754_743.out; have hnc69 := NB743_754.out; obtain ⟨hcz70_0, hcz70_1, hcz70_2, hcz70_3, hcz70_4, hfz70_0, hfz70_1, hfz70_2, hfz70_3, hfz70_4⟩ := cellsF5 BK754.out; obtain ⟨Ao71, co71, eo71⟩ := Kd.S_slice HO750.out; subst eo71))
       go_ret
       exact ⟨au6_8, bl_⟩
      rw [if_pos c32] at H
      have c32b0 : (t751 == (t746.size : Int)) = true := beq_iff_eq.mpr c32
      have c32b1 : (t751 != (t746.size : Int)) = false := bne_eq_false_iff_eq.mpr c32
      clear c32
      replace H := bi_ H; rcases H with ⟨t755, A33, H⟩
      replace H := ib_ H; rcases H with ⟨rfl, H⟩ | ⟨rfl, H⟩
      rotate_left
      ·obtain rfl := Option.some.inj H
       have hnb48 := NB742_743.out
       have hnc48 := NB743_742.out
       obtain ⟨hcz49_0, hcz49_1, hcz49_2, hcz49_3, hfz49_0, hfz49_1, hfz49_2, hfz49_3⟩ := cellsF4 BK742.out
       obtain ⟨hcz50_0, hcz50_1, hfz50_0, hfz50_1⟩ := cellsF2 BK743.out
       go_wp2_with (first | (go_at_call 39; (with_reducible refine (F39.calls kj6 t734 t735 t736 t737 t738 _ _ t739 t746 _ ?s1 ?s2 A28.out).mono ?_); (case s1 => exact au6_19); (case s2 => exact au6_29); rintro e w51 ⟨rfl, hb⟩; (try clear A28); replace HO_744001 := am_ (Kd.S_below au6_0 hb); replace BK742 := bb_ BK742 hb; replace BK743 := bb_ BK743 hb; replace HB := hs_ w hb; (try clear hb); (try clear hb2); (try clear hk); (try clear hi); obtain ⟨hcz52_0, hcz52_1, hcz52_2, hcz52_3, hfz52_0, hfz52_1, hfz52_2, hfz52_3⟩ := cellsF4 BK742.out) | (go_at_call 41; (with_reducible refine (F41.calls kj6 t734 t735 t736 t737 (t746 ++ (⟨#[65, 66]⟩ : ByteArray)) t747 t748 t751 t752 t753 _ A30.out).mono ?_); rintro e w53 ⟨v749, rfl, ho0, hb⟩; (try clear A30); have HO750 := am_ (Kd.S_lower (Kd.S_new' ho0 (Kd.S_lt au6_0)) (below_size bl_)); replace HO_744001 := am_ (Kd.S_elder' au6_0 (Kd.S_base ho0) hb); replace BK742 := bb_ BK742 hb; replace BK743 := bb_ BK743 hb; replace HB := hs_ w hb; (try clear hb); (try clear hb2); (try clear hk); (try clear hi); (try clear ho0)) | ((with_reducible refine gate_dst (N := 8) rfl ?_); (try (refine gate_guard (by rfl) ?_; dsimp only)); refine be_ 8 #[.string (⟨#[]⟩ : ByteArray), .slice none 0 0, .int .i64 0, .int .i64 0, .int .i64 0] 66 ?_; intro gb754 hg w54 hbox hb; replace HO_744001 := am_ (Kd.S_below au6_0 hb); replace HO750 := am_ (Kd.S_below au6_23 hb); have BK754 := am_ (hbox); have GW754 := am_ (gw_ hg bl_); have GE754 := GW754; replace HB := hs_ w hb; have NB742_754 := am_ (gn_ hg (blkl_ BK742)); have NB754_742 := am_ (gm_ hg (blkl_ BK742)); replace BK742 := bb_ BK742 hb; have NB743_754 := am_ (gn_ hg (blkl_ BK743)); have NB754_743 := am_ (gm_ hg (blkl_ BK743)); replace BK743 := bb_ BK743 hb; clear hb hbox hg; have hnb55 := NB754_742.out; have hnc55 := NB742_754.out; have hnb56 := NB754_743.out; have hnc56 := NB743_754.out; obtain ⟨hcz57_0, hcz57_1, hcz57_2, hcz57_3, hcz57_4, hfz57_0, hfz57_1, hfz57_2, hfz57_3, hfz57_4⟩ := cellsF5 BK754.out; obtain ⟨Ao58, co58, eo58⟩ := Kd.S_slice HO750.out; subst eo58; obtain ⟨hcz59_0, hcz59_1, hfz59_0, hfz59_1⟩ := cellsF2 BK743.out) | (go_at_call 56; (with_reducible refine (F56.calls kj6 t747 _ _ t748 t738 _ _ t739 false _ ?s1 ?s2 ?s3 ?s4 A33.out).mono ?_); (case s1 => refine (Kd.S_reads' (e := 102) (base := w.heap.size) (ok := fun k_ => (True ∧ some k_ ≠ (.slice Ao14 t739.length co14 : Value).ownBlock)) (n := t748.length) (c := co58) ?_).2.2; exact au6_18); (case s2 => exact (Kd.S_reads' HO750.out).2.1); (case s3 => refine (Kd.S_reads' (e := 102) (base := w.heap.size) (ok := fun k_ => (True ∧ some k_ ≠ (.slice Ao58 t748.length co58 : Value).ownBlock)) (n := t739.length) (c := co14) ?_).2.2; exact au6_16); (case s4 => exact au6_29); rintro e w60 ⟨rfl, hb⟩; (try clear A33); replace HO_744001 := am_ (Kd.S_below au6_16 hb); replace HO750 := am_ (Kd.S_below au6_18 hb); replace BK742 := am_ (blk_below (g := gb742) (o := .cells #[.int .i64 t734, .int .i64 t735, .int .i64 t736, .int .i64 t737] 23 (0, 0)) (bf_ BK742) hb); replace BK743 := am_ (blk_below (g := gb743) (o := .cells #[.string t738, .slice Ao14 t739.length co14] 59 (0, 0)) (bf_ BK743) hb); replace BK754 := am_ (blk_below (g := gb754) (o := .cells #[.string t747, .slice Ao58 t748.length co58, .int .i64 t751, .int .i64 t752, .int .i64 t753] 66 (0, 0)) (bq_ BK754) hb); replace HB := hs_ w hb; (try clear hb); (try clear hb2); (try clear hk); (try clear hi)))
       go_ret
       exact ⟨au6_8, bl_⟩
      have H' := am_ H
      clear H
      have hnb35 := NB742_743.out
      have hnc35 := NB743_742.out
      obtain ⟨hcz36_0, hcz36_1, hcz36_2, hcz36_3, hfz36_0, hfz36_1, hfz36_2, hfz36_3⟩ := cellsF4 BK742.out
      obtain ⟨hcz37_0, hcz37_1, hfz37_0, hfz37_1⟩ := cellsF2 BK743.out
      go_wp2_with (first | (go_at_call 39; (with_reducible refine (F39.calls kj6 t734 t735 t736 t737 t738 _ _ t739 t746 _ ?s1 ?s2 A28.out).mono ?_); (case s1 => exact au6_19); (case s2 => exact au6_29); rintro e w38 ⟨rfl, hb⟩; (try clear A28); replace HO_744001 := am_ (Kd.S_below au6_0 hb); replace BK742 := bb_ BK742 hb; replace BK743 := bb_ BK743 hb; replace HB := hs_ w hb; (try clear hb); (try clear hb2); (try clear hk); (try clear hi); obtain ⟨hcz39_0, hcz39_1, hcz39_2, hcz39_3, hfz39_0, hfz39_1, hfz39_2, hfz39_3⟩ := cellsF4 BK742.out) | (go_at_call 41; (with_reducible refine (F41.calls kj6 t734 t735 t736 t737 (t746 ++ (⟨#[65, 66]⟩ : ByteArray)) t747 t748 t751 t752 t753 _ A30.out).mono ?_); rintro e w40 ⟨v749, rfl, ho0, hb⟩; (try clear A30); have HO750 := am_ (Kd.S_lower (Kd.S_new' ho0 (Kd.S_lt au6_0)) (below_size bl_)); replace HO_744001 := am_ (Kd.S_elder' au6_0 (Kd.S_base ho0) hb); replace BK742 := bb_ BK742 hb; replace BK743 := bb_ BK743 hb; replace HB := hs_ w hb; (try clear hb); (try clear hb2); (try clear hk); (try clear hi); (try clear ho0)) | ((with_reducible refine gate_dst (N := 8) rfl ?_); (try (refine gate_guard (by rfl) ?_; dsimp only)); refine be_ 8 #[.string (⟨#[]⟩ : ByteArray), .slice none 0 0, .int .i64 0, .int .i64 0, .int .i64 0] 66 ?_; intro gb754 hg w41 hbox hb; replace HO_744001 := am_ (Kd.S_below au6_0 hb); replace HO750 := am_ (Kd.S_below au6_23 hb); have BK754 := am_ (hbox); have GW754 := am_ (gw_ hg bl_); have GE754 := GW754; replace HB := hs_ w hb; have NB742_754 := am_ (gn_ hg (blkl_ BK742)); have NB754_742 := am_ (gm_ hg (blkl_ BK742)); replace BK742 := bb_ BK742 hb; have NB743_754 := am_ (gn_ hg (blkl_ BK743)); have NB754_743 := am_ (gm_ hg (blkl_ BK743)); replace BK743 := bb_ BK743 hb; clear hb hbox hg; have hnb42 := NB754_742.out; have hnc42 := NB742_754.out; have hnb43 := NB754_743.out; have hnc43 := NB743_754.out; obtain ⟨hcz44_0, hcz44_1, hcz44_2, hcz44_3, hcz44_4, hfz44_0, hfz44_1, hfz44_2, hfz44_3, hfz44_4⟩ := cellsF5 BK754.out; obtain ⟨Ao45, co45, eo45⟩ := Kd.S_slice HO750.out; subst eo45; obtain ⟨hcz46_0, hcz46_1, hfz46_0, hfz46_1⟩ := cellsF2 BK743.out) | (go_at_call 56; (with_reducible refine (F56.calls kj6 t747 _ _ t748 t738 _ _ t739 true _ ?s1 ?s2 ?s3 ?s4 A33.out).mono ?_); (case s1 => refine (Kd.S_reads' (e := 102) (base := w.heap.size) (ok := fun k_ => (True ∧ some k_ ≠ (.slice Ao14 t739.length co14 : Value).ownBlock)) (n := t748.length) (c := co45) ?_).2.2; exact au6_17); (case s2 => exact (Kd.S_reads' HO750.out).2.1); (case s3 => refine (Kd.S_reads' (e := 102) (base := w.heap.size) (ok := fun k_ => (True ∧ some k_ ≠ (.slice Ao45 t748.length co45 : Value).ownBlock)) (n := t739.length) (c := co14) ?_).2.2; exact au6_15); (case s4 => exact au6_29); rintro e w47 ⟨rfl, hb⟩; (try clear A33); replace HO_744001 := am_ (Kd.S_below au6_15 hb); replace HO750 := am_ (Kd.S_below au6_17 hb); replace BK742 := am_ (blk_below (g := gb742) (o := .cells #[.int .i64 t734, .int .i64 t735, .int .i64 t736, .int .i64 t737] 23 (0, 0)) (bf_ BK742) hb); replace BK743 := am_ (blk_below (g := gb743) (o := .cells #[.string t738, .slice Ao14 t739.length co14] 59 (0, 0)) (bf_ BK743) hb); replace BK754 := am_ (blk_below (g := gb754) (o := .cells #[.string t747, .slice Ao45 t748.length co45, .int .i64 t751, .int .i64 t752, .int .i64 t753] 66 (0, 0)) (bq_ BK754) hb); replace HB := hs_ w hb; (try clear hb); (try clear hb2); (try clear hk); (try clear hi)))
      go_meet
      case rel => exact ⟨_, H', ⟨au6_33⟩, ⟨by (with_reducible repeat (first | apply Kd.S_alloc | apply Kd.S_drewN | apply Kd.S_drew)); exact Kd.S_mono HO_744001.out (fun _ hk => trivial)⟩, ⟨bk_ BK742⟩, ⟨bk_ BK743⟩, ⟨bl_⟩⟩
     case rest =>
      clear HC26
      try clear c1
      try clear c4b0
      try clear c4b1
      try clear c29
      try clear c29b0
      try clear c29b1
      try clear c29b2
      try clear c31
      try clear c31b0
      try clear c31b1
      try clear c32
      try clear c32b0
      try clear c32b1
      try clear hcz12_0 hcz12_1 hcz12_2 hcz12_3
      try clear hcz13_0 hcz13_1
      try clear hcz19_0 hcz19_1 hcz19_2 hcz19_3
      try clear hcz21_0 hcz21_1
      try clear hcz24_0 hcz24_1 hcz24_2 hcz24_3
      try clear hcz36_0 hcz36_1 hcz36_2 hcz36_3
      try clear hcz37_0 hcz37_1
      try clear hcz39_0 hcz39_1 hcz39_2 hcz39_3
      try clear hcz44_0 hcz44_1 hcz44_2 hcz44_3 hcz44_4
      try clear hcz46_0 hcz46_1
      try clear hcz49_0 hcz49_1 hcz49_2 hcz49_3
      try clear hcz50_0 hcz50_1
      try clear hcz52_0 hcz52_1 hcz52_2 hcz52_3
      try clear hcz57_0 hcz57_1 hcz57_2 hcz57_3 hcz57_4
      try clear hcz59_0 hcz59_1
      try clear hcz62_0 hcz62_1 hcz62_2 hcz62_3
      try clear hcz63_0 hcz63_1
      try clear hcz65_0 hcz65_1 hcz65_2 hcz65_3
      try clear hcz70_0 hcz70_1 hcz70_2 hcz70_3 hcz70_4
      try clear hcz73_0 hcz73_1 hcz73_2 hcz73_3
      try clear hcz74_0 hcz74_1
      try clear hcz76_0 hcz76_1 hcz76_2 hcz76_3
      try clear hcz81_0 hcz81_1 hcz81_2 hcz81_3 hcz81_4
      try clear hfz12_0 hfz12_1 hfz12_2 hfz12_3
      try clear hfz13_0 hfz13_1
      try clear hfz19_0 hfz19_1 hfz19_2 hfz19_3
      try clear hfz21_0 hfz21_1
      try clear hfz24_0 hfz24_1 hfz24_2 hfz24_3
      try clear hfz36_0 hfz36_1 hfz36_2 hfz36_3
      try clear hfz37_0 hfz37_1
      try clear hfz39_0 hfz39_1 hfz39_2 hfz39_3
      try clear hfz44_0 hfz44_1 hfz44_2 hfz44_3 hfz44_4
      try clear hfz46_0 hfz46_1
      try clear hfz49_0 hfz49_1 hfz49_2 hfz49_3
      try clear hfz50_0 hfz50_1
      try clear hfz52_0 hfz52_1 hfz52_2 hfz52_3
      try clear hfz57_0 hfz57_1 hfz57_2 hfz57_3 hfz57_4
      try clear hfz59_0 hfz59_1
      try clear hfz62_0 hfz62_1 hfz62_2 hfz62_3
      try clear hfz63_0 hfz63_1
      try clear hfz65_0 hfz65_1 hfz65_2 hfz65_3
      try clear hfz70_0 hfz70_1 hfz70_2 hfz70_3 hfz70_4
      try clear hfz73_0 hfz73_1 hfz73_2 hfz73_3
      try clear hfz74_0 hfz74_1
      try clear hfz76_0 hfz76_1 hfz76_2 hfz76_3
      try clear hfz81_0 hfz81_1 hfz81_2 hfz81_3 hfz81_4
      obtain ⟨kq, HA, HJ25, HO_744001, BK742, BK743, HB⟩ := hcut
      cases kq with
      | zero => exact absurd HA.out (by simp [F14.j2])
      | succ kj25 =>
       have H := HA.out
       clear HA
       simp only [F14.j2] at H
       replace H := bi_ H; rcases H with ⟨⟨t756, t757, t758, t759, t760⟩, A83, H⟩
       replace H := bi_ H; rcases H with ⟨⟨t762, t763, t766, t767, t768⟩, A84, H⟩
       replace H := bi_ H; rcases H with ⟨⟨t770, t771, t774, t775, t776⟩, A85, H⟩
       by_cases c86 : t768 = t776
       rotate_left
       ·rw [if_neg c86] at H
        have c86b0 : (t768 == t776) = false := beq_eq_false_iff_ne.mpr c86
        have c86b1 : (t768 != t776) = true := bne_iff_ne.mpr c86
        obtain rfl := Option.some.inj H
        try go_wp2_with (first | (go_at_call 57; (with_reducible refine (F57.calls kj25 _ _ l1 t756 t757 t758 t759 t760 _ ?s1 ?s2 A83.out).mono ?_); (case s1 => exact au6_12); (case s2 => exact HC1.out); rintro e w161 ⟨rfl, hb⟩; (try clear A83); replace HO_744001 := am_ (Kd.S_below au6_0 hb); replace BK742 := bb_ BK742 hb; replace BK743 := bb_ BK743 hb; replace HB := hs_ w hb; (try clear hb); (try clear hb2); (try clear hk); (try clear hi)) | ((with_reducible refine gate_dst (N := 9) rfl ?_); (try (refine gate_guard (by rfl) ?_; dsimp only)); refine be_ 9 #[.int .i64 0, .int .i64 0, .int .i64 0, .int .i64 0] 23 ?_; intro gb761 hg w162 hbox hb; replace HO_744001 := am_ (Kd.S_below au6_0 hb); have BK761 := am_ (hbox); have GW761 := am_ (gw_ hg bl_); have GE761 := GW761; replace HB := hs_ w hb; have NB742_761 := am_ (gn_ hg (blkl_ BK742)); have NB761_742 := am_ (gm_ hg (blkl_ BK742)); replace BK742 := bb_ BK742 hb; have NB743_761 := am_ (gn_ hg (blkl_ BK743)); have NB761_743 := am_ (gm_ hg (blkl_ BK743)); replace BK743 := bb_ BK743 hb; clear hb hbox hg; have hnb163 := NB761_742.out; have hnc163 := NB742_761.out; have hnb164 := NB761_743.out; have hnc164 := NB743_761.out; obtain ⟨hcz165_0, hcz165_1, hcz165_2, hcz165_3, hfz165_0, hfz165_1, hfz165_2, hfz165_3⟩ := cellsF4 BK761.out) | (go_at_call 41; (with_reducible refine (F41.calls kj25 t756 t757 t758 t759 t760 t762 t763 t766 t767 t768 _ A84.out).mono ?_); rintro e w166 ⟨v764, rfl, ho0, hb⟩; (try clear A84); have HO765 := am_ (Kd.S_lower (Kd.S_new' ho0 (Kd.S_lt au6_1)) (below_size bl_)); replace HO_744001 := am_ (Kd.S_elder' au6_1 (Kd.S_base ho0) hb); replace BK742 := am_ (blk_below (g := gb742) (o := .cells #[.int .i64 t734, .int .i64 t735, .int .i64 t736, .int .i64 t737] 23 (0, 0)) (bf_ BK742) hb); replace BK743 := am_ (blk_below (g := gb743) (o := .cells #[.string t738, .slice Ao14 t739.length co14] 59 (0, 0)) (bf_ BK743) hb); replace BK761 := am_ (blk_below (g := gb761) (o := .cells #[.int .i64 t756, .int .i64 t757, .int .i64 t758, .int .i64 t759] 23 (0, 0)) (bq_ BK761) hb); replace HB := hs_ w hb; (try clear hb); (try clear hb2); (try clear hk); (try clear hi); (try clear ho0)) | ((with_reducible refine gate_dst (N := 11) rfl ?_); (try (refine gate_guard (by rfl) ?_; dsimp only)); refine be_ 11 #[.string (⟨#[]⟩ : ByteArray), .slice none 0 0, .int .i64 0, .int .i64 0, .int .i64 0] 66 ?_; intro gb769 hg w167 hbox hb; replace HO_744001 := am_ (Kd.S_below au6_0 hb); replace HO765 := am_ (Kd.S_below au6_6 hb); have BK769 := am_ (hbox); have GW769 := am_ (gw_ hg bl_); have GE769 := GW769; replace HB := hs_ w hb; have NB742_769 := am_ (gn_ hg (blkl_ BK742)); have NB769_742 := am_ (gm_ hg (blkl_ BK742)); replace BK742 := bb_ BK742 hb; have NB743_769 := am_ (gn_ hg (blkl_ BK743)); have NB769_743 := am_ (gm_ hg (blkl_ BK743)); replace BK743 := bb_ BK743 hb; have NB761_769 := am_ (gn_ hg (blkl_ BK761)); have NB769_761 := am_ (gm_ hg (blkl_ BK761)); replace BK761 := bb_ BK761 hb; clear hb hbox hg; have hnb168 := NB769_742.out; have hnc168 := NB742_769.out; have hnb169 := NB769_743.out; have hnc169 := NB743_769.out; have hnb170 := NB769_761.out; have hnc170 := NB761_769.out; obtain ⟨hcz171_0, hcz171_1, hcz171_2, hcz171_3, hcz171_4, hfz171_0, hfz171_1, hfz171_2, hfz171_3, hfz171_4⟩ := cellsF5 BK769.out; obtain ⟨Ao172, co172, eo172⟩ := Kd.S_slice HO765.out; subst eo172))
        have n0_ : Aside0 (Kd.S k102 102 (((((w167.setCell ⟨gb769, 0, none⟩ (.string t762)).setCell ⟨gb769, 1, none⟩ (.slice Ao172 t763.length co172)).setCell ⟨gb769, 2, none⟩ (.int .i64 t766)).setCell ⟨gb769, 3, none⟩ (.int .i64 t767)).setCell ⟨gb769, 4, none⟩ (.int .i64 t768)) w.heap.size (fun k_ => some k_ ≠ (.slice Ao172 t763.length co172 : Value).ownBlock) (.slice Ao14 t739.length co14) t739) := ⟨by (with_reducible repeat (first | apply Kd.S_alloc | apply Kd.S_drewN | apply Kd.S_drew)); exact Kd.S_mono (Kd.S_far (p := ⟨gb769, 4, none⟩) (Kd.S_far (p := ⟨gb769, 3, none⟩) (Kd.S_far (p := ⟨gb769, 2, none⟩) (Kd.S_far (p := ⟨gb769, 1, none⟩) (Kd.S_far (p := ⟨gb769, 0, none⟩) (Kd.S_types HO_744001.out BK769.out (by decide)) (fun _ hk => hk.2) (.string t762)) (fun _ hk => hk.2) (.slice Ao172 t763.length co172)) (fun _ hk => hk.2) (.int .i64 t766)) (fun _ hk => hk.2) (.int .i64 t767)) (fun _ hk => hk.2) (.int .i64 t768)) (fun _ hk => hk.1.2)⟩
        have n1_ : Aside0 (Kd.S k102 102 (((((w167.setCell ⟨gb769, 0, none⟩ (.string t762)).setCell ⟨gb769, 1, none⟩ (.slice Ao172 t763.length co172)).setCell ⟨gb769, 2, none⟩ (.int .i64 t766)).setCell ⟨gb769, 3, none⟩ (.int .i64 t767)).setCell ⟨gb769, 4, none⟩ (.int .i64 t768)) w.heap.size (fun k_ => some k_ ≠ (.slice Ao14 t739.length co14 : Value).ownBlock) (.slice Ao172 t763.length co172) t763) := ⟨by (with_reducible repeat (first | apply Kd.S_alloc | apply Kd.S_drewN | apply Kd.S_drew)); exact Kd.S_mono (Kd.S_far (p := ⟨gb769, 4, none⟩) (Kd.S_far (p := ⟨gb769, 3, none⟩) (Kd.S_far (p := ⟨gb769, 2, none⟩) (Kd.S_far (p := ⟨gb769, 1, none⟩) (Kd.S_far (p := ⟨gb769, 0, none⟩) (Kd.S_types HO765.out BK769.out (by decide)) (fun _ hk => hk.2) (.string t762)) (fun _ hk => hk.2) (.slice Ao172 t763.length co172)) (fun _ hk => hk.2) (.int .i64 t766)) (fun _ hk => hk.2) (.int .i64 t767)) (fun _ hk => hk.2) (.int .i64 t768)) (fun _ hk => hk.1.2)⟩
        have n2_ : Aside0 ((((((w167.setCell ⟨gb769, 0, none⟩ (.string t762)).setCell ⟨gb769, 1, none⟩ (.slice Ao172 t763.length co172)).setCell ⟨gb769, 2, none⟩ (.int .i64 t766)).setCell ⟨gb769, 3, none⟩ (.int .i64 t767)).setCell ⟨gb769, 4, none⟩ (.int .i64 t768)).heap[gb742]? = some (.cells #[.int .i64 t734, .int .i64 t735, .int .i64 t736, .int .i64 t737] 23 (0, 0))) := ⟨bf_ BK742⟩
        have n3_ : Aside0 ((((((w167.setCell ⟨gb769, 0, none⟩ (.string t762)).setCell ⟨gb769, 1, none⟩ (.slice Ao172 t763.length co172)).setCell ⟨gb769, 2, none⟩ (.int .i64 t766)).setCell ⟨gb769, 3, none⟩ (.int .i64 t767)).setCell ⟨gb769, 4, none⟩ (.int .i64 t768)).heap[gb743]? = some (.cells #[.string t738, .slice Ao14 t739.length co14] 59 (0, 0))) := ⟨bf_ BK743⟩
        have n4_ : Aside0 ((((((w167.setCell ⟨gb769, 0, none⟩ (.string t762)).setCell ⟨gb769, 1, none⟩ (.slice Ao172 t763.length co172)).setCell ⟨gb769, 2, none⟩ (.int .i64 t766)).setCell ⟨gb769, 3, none⟩ (.int .i64 t767)).setCell ⟨gb769, 4, none⟩ (.int .i64 t768)).heap[gb761]? = some (.cells #[.int .i64 t756, .int .i64 t757, .int .i64 t758, .int .i64 t759] 23 (0, 0))) := ⟨bf_ BK761⟩
        have n5_ : Aside0 ((((((w167.setCell ⟨gb769, 0, none⟩ (.string t762)).setCell ⟨gb769, 1, none⟩ (.slice Ao172 t763.length co172)).setCell ⟨gb769, 2, none⟩ (.int .i64 t766)).setCell ⟨gb769, 3, none⟩ (.int .i64 t767)).setCell ⟨gb769, 4, none⟩ (.int .i64 t768)).heap[gb769]? = some (.cells #[.string t762, .slice Ao172 t763.length co172, .int .i64 t766, .int .i64 t767, .int .i64 t768] 66 (0, 0))) := ⟨bq_ BK769⟩
        have n6_ : Aside0 (Below w.heap.size w (((((w167.setCell ⟨gb769, 0, none⟩ (.string t762)).setCell ⟨gb769, 1, none⟩ (.slice Ao172 t763.length co172)).setCell ⟨gb769, 2, none⟩ (.int .i64 t766)).setCell ⟨gb769, 3, none⟩ (.int .i64 t767)).setCell ⟨gb769, 4, none⟩ (.int .i64 t768))) := ⟨bl_⟩
        (try clear HO_744001)
        (try clear HO765)
        (try clear BK742)
        (try clear BK743)
        (try clear BK761)
        (try clear BK769)
        (try clear HB)
        generalize (((((w167.setCell ⟨gb769, 0, none⟩ (.string t762)).setCell ⟨gb769, 1, none⟩ (.slice Ao172 t763.length co172)).setCell ⟨gb769, 2, none⟩ (.int .i64 t766)).setCell ⟨gb769, 3, none⟩ (.int .i64 t767)).setCell ⟨gb769, 4, none⟩ (.int .i64 t768)) = w173 at n0_ n1_ n2_ n3_ n4_ n5_ n6_ ⊢
        have HO_744001 := n0_
        have HO765 := n1_
        have BK742 := n2_
        have BK743 := n3_
        have BK761 := n4_
        have BK769 := n5_
        have HB := n6_
        clear n0_ n1_ n2_ n3_ n4_ n5_ n6_
        replace HO_744001 := am_ (Kd.S_drew HO_744001.out)
        replace HO765 := am_ (Kd.S_drew HO765.out)
        replace BK742 := bd_ BK742
        replace BK743 := bd_ BK743
        replace BK761 := bd_ BK761
        replace BK769 := bd_ BK769
        replace HB := am_ (below_drew1 HB.out)
        refine start_ (n := 7) (S := fun w' => w'.cell? ⟨gb769, 0, none⟩ = some (.string t762) ∧ w'.cell? ⟨gb769, 1, none⟩ = some (.slice Ao172 t763.length co172) ∧ w'.cell? ⟨gb769, 2, none⟩ = some (.int .i64 t766) ∧ w'.cell? ⟨gb769, 3, none⟩ = some (.int .i64 t767) ∧ w'.cell? ⟨gb769, 4, none⟩ = some (.int .i64 t768) ∧ w'.cell? ⟨gb761, 0, none⟩ = some (.int .i64 t756) ∧ w'.cell? ⟨gb761, 1, none⟩ = some (.int .i64 t757) ∧ w'.cell? ⟨gb761, 2, none⟩ = some (.int .i64 t758) ∧ w'.cell? ⟨gb761, 3, none⟩ = some (.int .i64 t759)) (ds := []) (bs 7 0) (by kernel_rfl) rfl rfl ⟨(blk_cell BK769.out 0).trans rfl, (blk_cell BK769.out 1).trans rfl, (blk_cell BK769.out 2).trans rfl, (blk_cell BK769.out 3).trans rfl, (blk_cell BK769.out 4).trans rfl, (blk_cell BK761.out 0).trans rfl, (blk_cell BK761.out 1).trans rfl, (blk_cell BK761.out 2).trans rfl, (blk_cell BK761.out 3).trans rfl⟩ (fun hHeld => ?_)
        generalize w173.drew = w174 at HO_744001 HO765 BK742 BK743 BK761 BK769 HB hHeld ⊢
        refine pk_ 0 63 (bs 7 1) ?_ rfl rfl
        refine pk_ 3 66 (bs 7 9) ?_ rfl rfl
        refine take_ (i := 1) (N := some 64) (v := ?_) (a' := ?_) (bs 7 11) rfl rfl (by kernel_rfl) (fun _ _ _ h => h) (Or.inl ⟨by rfl, ?_⟩) hHeld ?_ ?_
        rotate_left
        ·rintro w' ⟨s0, s1, s2, s3, s4, s5, s6, s7, s8⟩
         go_simp
         with_reducible rfl
        rotate_left
        ·simp only [Act.put, List.setIfInBounds_toArray, List.set_cons_zero, List.set_cons_succ, i64_w, i32_w]
         rfl
        refine take_ (i := 2) (N := some 65) (v := ?_) (a' := ?_) (bs 7 15) rfl rfl (by kernel_rfl) (fun _ _ _ h => h) (Or.inl ⟨by rfl, ?_⟩) hHeld ?_ ?_
        rotate_left
        ·rintro w' ⟨s0, s1, s2, s3, s4, s5, s6, s7, s8⟩
         go_simp
         with_reducible rfl
        rotate_left
        ·simp only [Act.put, List.setIfInBounds_toArray, List.set_cons_zero, List.set_cons_succ, i64_w, i32_w]
         rfl
        refine one_ (i := 4) (N := some 67) (bs 7 31) rfl rfl (by kernel_rfl) (by decide) (fun K hK => ?_)
        refine gr_ Try.func40 #[.agg #[.int .i64 t756, .int .i64 t757, .int .i64 t758, .int .i64 t759], .string t760] (by rfl) ?_ rfl rfl rfl
        with_reducible refine (F40.calls kj25 t756 t757 t758 t759 t760 t770 t771 t774 t775 t776 _ A85.out).mono ?_
        rintro e w175 ⟨v772, rfl, ho0, hb⟩
        refine ⟨_, rfl, ?_⟩
        have HO773 := am_ (Kd.S_lower (Kd.S_new' (Kd.S_new' ho0 (Kd.S_lt au6_0)) (Kd.S_lt au6_6)) (below_size bl_))
        replace HO_744001 := am_ (Kd.S_elder' au6_0 (Kd.S_base ho0) hb)
        replace HO765 := am_ (Kd.S_elder' au6_6 (Kd.S_base ho0) hb)
        replace BK742 := bb_ BK742 hb
        replace BK743 := bb_ BK743 hb
        replace BK761 := bb_ BK761 hb
        replace BK769 := bb_ BK769 hb
        replace HB := hs_ w hb
        (try clear hb)
        (try clear hb2)
        (try clear hk)
        (try clear hi)
        (try clear ho0)
        obtain ⟨Aq_, cq_, eq_⟩ := Kd.S_slice HO773.out
        try subst eq_
        have hfd_ : ∀ w : World, (Instr.field 66 (.agg #[.string t770, .slice Aq_ t771.length cq_, .int .i64 t774, .int .i64 t775, .int .i64 t776]) 3).run Try.prog w = .ok (.int .i64 t776) w := fun _ => by kernel_rfl
        refine hK.out _ _ ⟨(blk_cell BK769.out 0).trans rfl, (blk_cell BK769.out 1).trans rfl, (blk_cell BK769.out 2).trans rfl, (blk_cell BK769.out 3).trans rfl, (blk_cell BK769.out 4).trans rfl, (blk_cell BK761.out 0).trans rfl, (blk_cell BK761.out 1).trans rfl, (blk_cell BK761.out 2).trans rfl, (blk_cell BK761.out 3).trans rfl⟩ (fun hHeld => ?_)
        clear hK K
        refine no_ 67 ?_
        refine pk_ 5 68 (bs 7 63) ?_ rfl rfl
        refine pk_ 6 69 (bs 7 127) ?_ rfl rfl
        refine done_ (by kernel_rfl) ?_
        try go_wp2
        go_ret
        exact ⟨au6_8, bl_⟩

       rw [if_pos c86] at H
       have c86b0 : (t768 == t776) = true := beq_iff_eq.mpr c86
       have c86b1 : (t768 != t776) = false := bne_eq_false_iff_eq.mpr c86
       clear c86
       by_cases c87 : t768 = 0
       rotate_left
       ·rw [if_neg c87] at H
        have c87b0 : (t768 == 0) = false := beq_eq_false_iff_ne.mpr c87
        have c87b1 : (t768 != 0) = true := bne_iff_ne.mpr c87
        obtain rfl := Option.some.inj H
        try go_wp2_with (first | (go_at_call 57; (with_reducible refine (F57.calls kj25 _ _ l1 t756 t757 t758 t759 t760 _ ?s1 ?s2 A83.out).mono ?_); (case s1 => exact au6_12); (case s2 => exact HC1.out); rintro e w145 ⟨rfl, hb⟩; (try clear A83); replace HO_744001 := am_ (Kd.S_below au6_0 hb); replace BK742 := bb_ BK742 hb; replace BK743 := bb_ BK743 hb; replace HB := hs_ w hb; (try clear hb); (try clear hb2); (try clear hk); (try clear hi)) | ((with_reducible refine gate_dst (N := 9) rfl ?_); (try (refine gate_guard (by rfl) ?_; dsimp only)); refine be_ 9 #[.int .i64 0, .int .i64 0, .int .i64 0, .int .i64 0] 23 ?_; intro gb761 hg w146 hbox hb; replace HO_744001 := am_ (Kd.S_below au6_0 hb); have BK761 := am_ (hbox); have GW761 := am_ (gw_ hg bl_); have GE761 := GW761; replace HB := hs_ w hb; have NB742_761 := am_ (gn_ hg (blkl_ BK742)); have NB761_742 := am_ (gm_ hg (blkl_ BK742)); replace BK742 := bb_ BK742 hb; have NB743_761 := am_ (gn_ hg (blkl_ BK743)); have NB761_743 := am_ (gm_ hg (blkl_ BK743)); replace BK743 := bb_ BK743 hb; clear hb hbox hg; have hnb147 := NB761_742.out; have hnc147 := NB742_761.out; have hnb148 := NB761_743.out; have hnc148 := NB743_761.out; obtain ⟨hcz149_0, hcz149_1, hcz149_2, hcz149_3, hfz149_0, hfz149_1, hfz149_2, hfz149_3⟩ := cellsF4 BK761.out) | (go_at_call 41; (with_reducible refine (F41.calls kj25 t756 t757 t758 t759 t760 t762 t763 t766 t767 t768 _ A84.out).mono ?_); rintro e w150 ⟨v764, rfl, ho0, hb⟩; (try clear A84); have HO765 := am_ (Kd.S_lower (Kd.S_new' ho0 (Kd.S_lt au6_1)) (below_size bl_)); replace HO_744001 := am_ (Kd.S_elder' au6_1 (Kd.S_base ho0) hb); replace BK742 := am_ (blk_below (g := gb742) (o := .cells #[.int .i64 t734, .int .i64 t735, .int .i64 t736, .int .i64 t737] 23 (0, 0)) (bf_ BK742) hb); replace BK743 := am_ (blk_below (g := gb743) (o := .cells #[.string t738, .slice Ao14 t739.length co14] 59 (0, 0)) (bf_ BK743) hb); replace BK761 := am_ (blk_below (g := gb761) (o := .cells #[.int .i64 t756, .int .i64 t757, .int .i64 t758, .int .i64 t759] 23 (0, 0)) (bq_ BK761) hb); replace HB := hs_ w hb; (try clear hb); (try clear hb2); (try clear hk); (try clear hi); (try clear ho0)) | ((with_reducible refine gate_dst (N := 11) rfl ?_); (try (refine gate_guard (by rfl) ?_; dsimp only)); refine be_ 11 #[.string (⟨#[]⟩ : ByteArray), .slice none 0 0, .int .i64 0, .int .i64 0, .int .i64 0] 66 ?_; intro gb769 hg w151 hbox hb; replace HO_744001 := am_ (Kd.S_below au6_0 hb); replace HO765 := am_ (Kd.S_below au6_6 hb); have BK769 := am_ (hbox); have GW769 := am_ (gw_ hg bl_); have GE769 := GW769; replace HB := hs_ w hb; have NB742_769 := am_ (gn_ hg (blkl_ BK742)); have NB769_742 := am_ (gm_ hg (blkl_ BK742)); replace BK742 := bb_ BK742 hb; have NB743_769 := am_ (gn_ hg (blkl_ BK743)); have NB769_743 := am_ (gm_ hg (blkl_ BK743)); replace BK743 := bb_ BK743 hb; have NB761_769 := am_ (gn_ hg (blkl_ BK761)); have NB769_761 := am_ (gm_ hg (blkl_ BK761)); replace BK761 := bb_ BK761 hb; clear hb hbox hg; have hnb152 := NB769_742.out; have hnc152 := NB742_769.out; have hnb153 := NB769_743.out; have hnc153 := NB743_769.out; have hnb154 := NB769_761.out; have hnc154 := NB761_769.out; obtain ⟨hcz155_0, hcz155_1, hcz155_2, hcz155_3, hcz155_4, hfz155_0, hfz155_1, hfz155_2, hfz155_3, hfz155_4⟩ := cellsF5 BK769.out; obtain ⟨Ao156, co156, eo156⟩ := Kd.S_slice HO765.out; subst eo156))
        have n0_ : Aside0 (Kd.S k102 102 (((((w151.setCell ⟨gb769, 0, none⟩ (.string t762)).setCell ⟨gb769, 1, none⟩ (.slice Ao156 t763.length co156)).setCell ⟨gb769, 2, none⟩ (.int .i64 t766)).setCell ⟨gb769, 3, none⟩ (.int .i64 t767)).setCell ⟨gb769, 4, none⟩ (.int .i64 t768)) w.heap.size (fun k_ => some k_ ≠ (.slice Ao156 t763.length co156 : Value).ownBlock) (.slice Ao14 t739.length co14) t739) := ⟨by (with_reducible repeat (first | apply Kd.S_alloc | apply Kd.S_drewN | apply Kd.S_drew)); exact Kd.S_mono (Kd.S_far (p := ⟨gb769, 4, none⟩) (Kd.S_far (p := ⟨gb769, 3, none⟩) (Kd.S_far (p := ⟨gb769, 2, none⟩) (Kd.S_far (p := ⟨gb769, 1, none⟩) (Kd.S_far (p := ⟨gb769, 0, none⟩) (Kd.S_types HO_744001.out BK769.out (by decide)) (fun _ hk => hk.2) (.string t762)) (fun _ hk => hk.2) (.slice Ao156 t763.length co156)) (fun _ hk => hk.2) (.int .i64 t766)) (fun _ hk => hk.2) (.int .i64 t767)) (fun _ hk => hk.2) (.int .i64 t768)) (fun _ hk => hk.1.2)⟩
        have n1_ : Aside0 (Kd.S k102 102 (((((w151.setCell ⟨gb769, 0, none⟩ (.string t762)).setCell ⟨gb769, 1, none⟩ (.slice Ao156 t763.length co156)).setCell ⟨gb769, 2, none⟩ (.int .i64 t766)).setCell ⟨gb769, 3, none⟩ (.int .i64 t767)).setCell ⟨gb769, 4, none⟩ (.int .i64 t768)) w.heap.size (fun k_ => some k_ ≠ (.slice Ao14 t739.length co14 : Value).ownBlock) (.slice Ao156 t763.length co156) t763) := ⟨by (with_reducible repeat (first | apply Kd.S_alloc | apply Kd.S_drewN | apply Kd.S_drew)); exact Kd.S_mono (Kd.S_far (p := ⟨gb769, 4, none⟩) (Kd.S_far (p := ⟨gb769, 3, none⟩) (Kd.S_far (p := ⟨gb769, 2, none⟩) (Kd.S_far (p := ⟨gb769, 1, none⟩) (Kd.S_far (p := ⟨gb769, 0, none⟩) (Kd.S_types HO765.out BK769.out (by decide)) (fun _ hk => hk.2) (.string t762)) (fun _ hk => hk.2) (.slice Ao156 t763.length co156)) (fun _ hk => hk.2) (.int .i64 t766)) (fun _ hk => hk.2) (.int .i64 t767)) (fun _ hk => hk.2) (.int .i64 t768)) (fun _ hk => hk.1.2)⟩
        have n2_ : Aside0 ((((((w151.setCell ⟨gb769, 0, none⟩ (.string t762)).setCell ⟨gb769, 1, none⟩ (.slice Ao156 t763.length co156)).setCell ⟨gb769, 2, none⟩ (.int .i64 t766)).setCell ⟨gb769, 3, none⟩ (.int .i64 t767)).setCell ⟨gb769, 4, none⟩ (.int .i64 t768)).heap[gb742]? = some (.cells #[.int .i64 t734, .int .i64 t735, .int .i64 t736, .int .i64 t737] 23 (0, 0))) := ⟨bf_ BK742⟩
        have n3_ : Aside0 ((((((w151.setCell ⟨gb769, 0, none⟩ (.string t762)).setCell ⟨gb769, 1, none⟩ (.slice Ao156 t763.length co156)).setCell ⟨gb769, 2, none⟩ (.int .i64 t766)).setCell ⟨gb769, 3, none⟩ (.int .i64 t767)).setCell ⟨gb769, 4, none⟩ (.int .i64 t768)).heap[gb743]? = some (.cells #[.string t738, .slice Ao14 t739.length co14] 59 (0, 0))) := ⟨bf_ BK743⟩
        have n4_ : Aside0 ((((((w151.setCell ⟨gb769, 0, none⟩ (.string t762)).setCell ⟨gb769, 1, none⟩ (.slice Ao156 t763.length co156)).setCell ⟨gb769, 2, none⟩ (.int .i64 t766)).setCell ⟨gb769, 3, none⟩ (.int .i64 t767)).setCell ⟨gb769, 4, none⟩ (.int .i64 t768)).heap[gb761]? = some (.cells #[.int .i64 t756, .int .i64 t757, .int .i64 t758, .int .i64 t759] 23 (0, 0))) := ⟨bf_ BK761⟩
        have n5_ : Aside0 ((((((w151.setCell ⟨gb769, 0, none⟩ (.string t762)).setCell ⟨gb769, 1, none⟩ (.slice Ao156 t763.length co156)).setCell ⟨gb769, 2, none⟩ (.int .i64 t766)).setCell ⟨gb769, 3, none⟩ (.int .i64 t767)).setCell ⟨gb769, 4, none⟩ (.int .i64 t768)).heap[gb769]? = some (.cells #[.string t762, .slice Ao156 t763.length co156, .int .i64 t766, .int .i64 t767, .int .i64 t768] 66 (0, 0))) := ⟨bq_ BK769⟩
        have n6_ : Aside0 (Below w.heap.size w (((((w151.setCell ⟨gb769, 0, none⟩ (.string t762)).setCell ⟨gb769, 1, none⟩ (.slice Ao156 t763.length co156)).setCell ⟨gb769, 2, none⟩ (.int .i64 t766)).setCell ⟨gb769, 3, none⟩ (.int .i64 t767)).setCell ⟨gb769, 4, none⟩ (.int .i64 t768))) := ⟨bl_⟩
        (try clear HO_744001)
        (try clear HO765)
        (try clear BK742)
        (try clear BK743)
        (try clear BK761)
        (try clear BK769)
        (try clear HB)
        generalize (((((w151.setCell ⟨gb769, 0, none⟩ (.string t762)).setCell ⟨gb769, 1, none⟩ (.slice Ao156 t763.length co156)).setCell ⟨gb769, 2, none⟩ (.int .i64 t766)).setCell ⟨gb769, 3, none⟩ (.int .i64 t767)).setCell ⟨gb769, 4, none⟩ (.int .i64 t768)) = w157 at n0_ n1_ n2_ n3_ n4_ n5_ n6_ ⊢
        have HO_744001 := n0_
        have HO765 := n1_
        have BK742 := n2_
        have BK743 := n3_
        have BK761 := n4_
        have BK769 := n5_
        have HB := n6_
        clear n0_ n1_ n2_ n3_ n4_ n5_ n6_
        replace HO_744001 := am_ (Kd.S_drew HO_744001.out)
        replace HO765 := am_ (Kd.S_drew HO765.out)
        replace BK742 := bd_ BK742
        replace BK743 := bd_ BK743
        replace BK761 := bd_ BK761
        replace BK769 := bd_ BK769
        replace HB := am_ (below_drew1 HB.out)
        refine start_ (n := 7) (S := fun w' => w'.cell? ⟨gb769, 0, none⟩ = some (.string t762) ∧ w'.cell? ⟨gb769, 1, none⟩ = some (.slice Ao156 t763.length co156) ∧ w'.cell? ⟨gb769, 2, none⟩ = some (.int .i64 t766) ∧ w'.cell? ⟨gb769, 3, none⟩ = some (.int .i64 t767) ∧ w'.cell? ⟨gb769, 4, none⟩ = some (.int .i64 t768) ∧ w'.cell? ⟨gb761, 0, none⟩ = some (.int .i64 t756) ∧ w'.cell? ⟨gb761, 1, none⟩ = some (.int .i64 t757) ∧ w'.cell? ⟨gb761, 2, none⟩ = some (.int .i64 t758) ∧ w'.cell? ⟨gb761, 3, none⟩ = some (.int .i64 t759)) (ds := []) (bs 7 0) (by kernel_rfl) rfl rfl ⟨(blk_cell BK769.out 0).trans rfl, (blk_cell BK769.out 1).trans rfl, (blk_cell BK769.out 2).trans rfl, (blk_cell BK769.out 3).trans rfl, (blk_cell BK769.out 4).trans rfl, (blk_cell BK761.out 0).trans rfl, (blk_cell BK761.out 1).trans rfl, (blk_cell BK761.out 2).trans rfl, (blk_cell BK761.out 3).trans rfl⟩ (fun hHeld => ?_)
        generalize w157.drew = w158 at HO_744001 HO765 BK742 BK743 BK761 BK769 HB hHeld ⊢
        refine pk_ 0 63 (bs 7 1) ?_ rfl rfl
        refine pk_ 3 66 (bs 7 9) ?_ rfl rfl
        refine take_ (i := 1) (N := some 64) (v := ?_) (a' := ?_) (bs 7 11) rfl rfl (by kernel_rfl) (fun _ _ _ h => h) (Or.inl ⟨by rfl, ?_⟩) hHeld ?_ ?_
        rotate_left
        ·rintro w' ⟨s0, s1, s2, s3, s4, s5, s6, s7, s8⟩
         go_simp
         with_reducible rfl
        rotate_left
        ·simp only [Act.put, List.setIfInBounds_toArray, List.set_cons_zero, List.set_cons_succ, i64_w, i32_w]
         rfl
        refine take_ (i := 2) (N := some 65) (v := ?_) (a' := ?_) (bs 7 15) rfl rfl (by kernel_rfl) (fun _ _ _ h => h) (Or.inl ⟨by rfl, ?_⟩) hHeld ?_ ?_
        rotate_left
        ·rintro w' ⟨s0, s1, s2, s3, s4, s5, s6, s7, s8⟩
         go_simp
         with_reducible rfl
        rotate_left
        ·simp only [Act.put, List.setIfInBounds_toArray, List.set_cons_zero, List.set_cons_succ, i64_w, i32_w]
         rfl
        refine one_ (i := 4) (N := some 67) (bs 7 31) rfl rfl (by kernel_rfl) (by decide) (fun K hK => ?_)
        refine gr_ Try.func40 #[.agg #[.int .i64 t756, .int .i64 t757, .int .i64 t758, .int .i64 t759], .string t760] (by rfl) ?_ rfl rfl rfl
        with_reducible refine (F40.calls kj25 t756 t757 t758 t759 t760 t770 t771 t774 t775 t776 _ A85.out).mono ?_
        rintro e w159 ⟨v772, rfl, ho0, hb⟩
        refine ⟨_, rfl, ?_⟩
        have HO773 := am_ (Kd.S_lower (Kd.S_new' (Kd.S_new' ho0 (Kd.S_lt au6_0)) (Kd.S_lt au6_6)) (below_size bl_))
        replace HO_744001 := am_ (Kd.S_elder' au6_0 (Kd.S_base ho0) hb)
        replace HO765 := am_ (Kd.S_elder' au6_6 (Kd.S_base ho0) hb)
        replace BK742 := bb_ BK742 hb
        replace BK743 := bb_ BK743 hb
        replace BK761 := bb_ BK761 hb
        replace BK769 := bb_ BK769 hb
        replace HB := hs_ w hb
        (try clear hb)
        (try clear hb2)
        (try clear hk)
        (try clear hi)
        (try clear ho0)
        obtain ⟨Aq_, cq_, eq_⟩ := Kd.S_slice HO773.out
        try subst eq_
        have hfd_ : ∀ w : World, (Instr.field 66 (.agg #[.string t770, .slice Aq_ t771.length cq_, .int .i64 t774, .int .i64 t775, .int .i64 t776]) 3).run Try.prog w = .ok (.int .i64 t776) w := fun _ => by kernel_rfl
        refine hK.out _ _ ⟨(blk_cell BK769.out 0).trans rfl, (blk_cell BK769.out 1).trans rfl, (blk_cell BK769.out 2).trans rfl, (blk_cell BK769.out 3).trans rfl, (blk_cell BK769.out 4).trans rfl, (blk_cell BK761.out 0).trans rfl, (blk_cell BK761.out 1).trans rfl, (blk_cell BK761.out 2).trans rfl, (blk_cell BK761.out 3).trans rfl⟩ (fun hHeld => ?_)
        clear hK K
        refine no_ 67 ?_
        refine pk_ 5 68 (bs 7 63) ?_ rfl rfl
        refine pk_ 6 69 (bs 7 127) ?_ rfl rfl
        refine done_ (by kernel_rfl) ?_
        obtain ⟨hcz160_0, hcz160_1, hcz160_2, hcz160_3, hcz160_4, hfz160_0, hfz160_1, hfz160_2, hfz160_3, hfz160_4⟩ := cellsF5 BK769.out
        try go_wp2
        go_ret
        exact ⟨au6_8, bl_⟩
       rw [if_pos c87] at H
       have c87b0 : (t768 == 0) = true := beq_iff_eq.mpr c87
       have c87b1 : (t768 != 0) = false := bne_eq_false_iff_eq.mpr c87
       clear c87
       replace H := it_ H; rcases H with ⟨(c88b0 : decide (0 < t766) = true), H⟩ | ⟨(c88b0 : decide (0 < t766) = false), H⟩
       rotate_left
       ·obtain rfl := Option.some.inj H
        try go_wp2_with (first | (go_at_call 57; (with_reducible refine (F57.calls kj25 _ _ l1 t756 t757 t758 t759 t760 _ ?s1 ?s2 A83.out).mono ?_); (case s1 => exact au6_12); (case s2 => exact HC1.out); rintro e w128 ⟨rfl, hb⟩; (try clear A83); replace HO_744001 := am_ (Kd.S_below au6_0 hb); replace BK742 := bb_ BK742 hb; replace BK743 := bb_ BK743 hb; replace HB := hs_ w hb; (try clear hb); (try clear hb2); (try clear hk); (try clear hi)) | ((with_reducible refine gate_dst (N := 9) rfl ?_); (try (refine gate_guard (by rfl) ?_; dsimp only)); refine be_ 9 #[.int .i64 0, .int .i64 0, .int .i64 0, .int .i64 0] 23 ?_; intro gb761 hg w129 hbox hb; replace HO_744001 := am_ (Kd.S_below au6_0 hb); have BK761 := am_ (hbox); have GW761 := am_ (gw_ hg bl_); have GE761 := GW761; replace HB := hs_ w hb; have NB742_761 := am_ (gn_ hg (blkl_ BK742)); have NB761_742 := am_ (gm_ hg (blkl_ BK742)); replace BK742 := bb_ BK742 hb; have NB743_761 := am_ (gn_ hg (blkl_ BK743)); have NB761_743 := am_ (gm_ hg (blkl_ BK743)); replace BK743 := bb_ BK743 hb; clear hb hbox hg; have hnb130 := NB761_742.out; have hnc130 := NB742_761.out; have hnb131 := NB761_743.out; have hnc131 := NB743_761.out; obtain ⟨hcz132_0, hcz132_1, hcz132_2, hcz132_3, hfz132_0, hfz132_1, hfz132_2, hfz132_3⟩ := cellsF4 BK761.out) | (go_at_call 41; (with_reducible refine (F41.calls kj25 t756 t757 t758 t759 t760 t762 t763 t766 t767 t768 _ A84.out).mono ?_); rintro e w133 ⟨v764, rfl, ho0, hb⟩; (try clear A84); have HO765 := am_ (Kd.S_lower (Kd.S_new' ho0 (Kd.S_lt au6_1)) (below_size bl_)); replace HO_744001 := am_ (Kd.S_elder' au6_1 (Kd.S_base ho0) hb); replace BK742 := am_ (blk_below (g := gb742) (o := .cells #[.int .i64 t734, .int .i64 t735, .int .i64 t736, .int .i64 t737] 23 (0, 0)) (bf_ BK742) hb); replace BK743 := am_ (blk_below (g := gb743) (o := .cells #[.string t738, .slice Ao14 t739.length co14] 59 (0, 0)) (bf_ BK743) hb); replace BK761 := am_ (blk_below (g := gb761) (o := .cells #[.int .i64 t756, .int .i64 t757, .int .i64 t758, .int .i64 t759] 23 (0, 0)) (bq_ BK761) hb); replace HB := hs_ w hb; (try clear hb); (try clear hb2); (try clear hk); (try clear hi); (try clear ho0)) | ((with_reducible refine gate_dst (N := 11) rfl ?_); (try (refine gate_guard (by rfl) ?_; dsimp only)); refine be_ 11 #[.string (⟨#[]⟩ : ByteArray), .slice none 0 0, .int .i64 0, .int .i64 0, .int .i64 0] 66 ?_; intro gb769 hg w134 hbox hb; replace HO_744001 := am_ (Kd.S_below au6_0 hb); replace HO765 := am_ (Kd.S_below au6_6 hb); have BK769 := am_ (hbox); have GW769 := am_ (gw_ hg bl_); have GE769 := GW769; replace HB := hs_ w hb; have NB742_769 := am_ (gn_ hg (blkl_ BK742)); have NB769_742 := am_ (gm_ hg (blkl_ BK742)); replace BK742 := bb_ BK742 hb; have NB743_769 := am_ (gn_ hg (blkl_ BK743)); have NB769_743 := am_ (gm_ hg (blkl_ BK743)); replace BK743 := bb_ BK743 hb; have NB761_769 := am_ (gn_ hg (blkl_ BK761)); have NB769_761 := am_ (gm_ hg (blkl_ BK761)); replace BK761 := bb_ BK761 hb; clear hb hbox hg; have hnb135 := NB769_742.out; have hnc135 := NB742_769.out; have hnb136 := NB769_743.out; have hnc136 := NB743_769.out; have hnb137 := NB769_761.out; have hnc137 := NB761_769.out; obtain ⟨hcz138_0, hcz138_1, hcz138_2, hcz138_3, hcz138_4, hfz138_0, hfz138_1, hfz138_2, hfz138_3, hfz138_4⟩ := cellsF5 BK769.out; obtain ⟨Ao139, co139, eo139⟩ := Kd.S_slice HO765.out; subst eo139))
        have n0_ : Aside0 (Kd.S k102 102 (((((w134.setCell ⟨gb769, 0, none⟩ (.string t762)).setCell ⟨gb769, 1, none⟩ (.slice Ao139 t763.length co139)).setCell ⟨gb769, 2, none⟩ (.int .i64 t766)).setCell ⟨gb769, 3, none⟩ (.int .i64 t767)).setCell ⟨gb769, 4, none⟩ (.int .i64 t768)) w.heap.size (fun k_ => some k_ ≠ (.slice Ao139 t763.length co139 : Value).ownBlock) (.slice Ao14 t739.length co14) t739) := ⟨by (with_reducible repeat (first | apply Kd.S_alloc | apply Kd.S_drewN | apply Kd.S_drew)); exact Kd.S_mono (Kd.S_far (p := ⟨gb769, 4, none⟩) (Kd.S_far (p := ⟨gb769, 3, none⟩) (Kd.S_far (p := ⟨gb769, 2, none⟩) (Kd.S_far (p := ⟨gb769, 1, none⟩) (Kd.S_far (p := ⟨gb769, 0, none⟩) (Kd.S_types HO_744001.out BK769.out (by decide)) (fun _ hk => hk.2) (.string t762)) (fun _ hk => hk.2) (.slice Ao139 t763.length co139)) (fun _ hk => hk.2) (.int .i64 t766)) (fun _ hk => hk.2) (.int .i64 t767)) (fun _ hk => hk.2) (.int .i64 t768)) (fun _ hk => hk.1.2)⟩
        have n1_ : Aside0 (Kd.S k102 102 (((((w134.setCell ⟨gb769, 0, none⟩ (.string t762)).setCell ⟨gb769, 1, none⟩ (.slice Ao139 t763.length co139)).setCell ⟨gb769, 2, none⟩ (.int .i64 t766)).setCell ⟨gb769, 3, none⟩ (.int .i64 t767)).setCell ⟨gb769, 4, none⟩ (.int .i64 t768)) w.heap.size (fun k_ => some k_ ≠ (.slice Ao14 t739.length co14 : Value).ownBlock) (.slice Ao139 t763.length co139) t763) := ⟨by (with_reducible repeat (first | apply Kd.S_alloc | apply Kd.S_drewN | apply Kd.S_drew)); exact Kd.S_mono (Kd.S_far (p := ⟨gb769, 4, none⟩) (Kd.S_far (p := ⟨gb769, 3, none⟩) (Kd.S_far (p := ⟨gb769, 2, none⟩) (Kd.S_far (p := ⟨gb769, 1, none⟩) (Kd.S_far (p := ⟨gb769, 0, none⟩) (Kd.S_types HO765.out BK769.out (by decide)) (fun _ hk => hk.2) (.string t762)) (fun _ hk => hk.2) (.slice Ao139 t763.length co139)) (fun _ hk => hk.2) (.int .i64 t766)) (fun _ hk => hk.2) (.int .i64 t767)) (fun _ hk => hk.2) (.int .i64 t768)) (fun _ hk => hk.1.2)⟩
        have n2_ : Aside0 ((((((w134.setCell ⟨gb769, 0, none⟩ (.string t762)).setCell ⟨gb769, 1, none⟩ (.slice Ao139 t763.length co139)).setCell ⟨gb769, 2, none⟩ (.int .i64 t766)).setCell ⟨gb769, 3, none⟩ (.int .i64 t767)).setCell ⟨gb769, 4, none⟩ (.int .i64 t768)).heap[gb742]? = some (.cells #[.int .i64 t734, .int .i64 t735, .int .i64 t736, .int .i64 t737] 23 (0, 0))) := ⟨bf_ BK742⟩
        have n3_ : Aside0 ((((((w134.setCell ⟨gb769, 0, none⟩ (.string t762)).setCell ⟨gb769, 1, none⟩ (.slice Ao139 t763.length co139)).setCell ⟨gb769, 2, none⟩ (.int .i64 t766)).setCell ⟨gb769, 3, none⟩ (.int .i64 t767)).setCell ⟨gb769, 4, none⟩ (.int .i64 t768)).heap[gb743]? = some (.cells #[.string t738, .slice Ao14 t739.length co14] 59 (0, 0))) := ⟨bf_ BK743⟩
        have n4_ : Aside0 ((((((w134.setCell ⟨gb769, 0, none⟩ (.string t762)).setCell ⟨gb769, 1, none⟩ (.slice Ao139 t763.length co139)).setCell ⟨gb769, 2, none⟩ (.int .i64 t766)).setCell ⟨gb769, 3, none⟩ (.int .i64 t767)).setCell ⟨gb769, 4, none⟩ (.int .i64 t768)).heap[gb761]? = some (.cells #[.int .i64 t756, .int .i64 t757, .int .i64 t758, .int .i64 t759] 23 (0, 0))) := ⟨bf_ BK761⟩
        have n5_ : Aside0 ((((((w134.setCell ⟨gb769, 0, none⟩ (.string t762)).setCell ⟨gb769, 1, none⟩ (.slice Ao139 t763.length co139)).setCell ⟨gb769, 2, none⟩ (.int .i64 t766)).setCell ⟨gb769, 3, none⟩ (.int .i64 t767)).setCell ⟨gb769, 4, none⟩ (.int .i64 t768)).heap[gb769]? = some (.cells #[.string t762, .slice Ao139 t763.length co139, .int .i64 t766, .int .i64 t767, .int .i64 t768] 66 (0, 0))) := ⟨bq_ BK769⟩
        have n6_ : Aside0 (Below w.heap.size w (((((w134.setCell ⟨gb769, 0, none⟩ (.string t762)).setCell ⟨gb769, 1, none⟩ (.slice Ao139 t763.length co139)).setCell ⟨gb769, 2, none⟩ (.int .i64 t766)).setCell ⟨gb769, 3, none⟩ (.int .i64 t767)).setCell ⟨gb769, 4, none⟩ (.int .i64 t768))) := ⟨bl_⟩
        (try clear HO_744001)
        (try clear HO765)
        (try clear BK742)
        (try clear BK743)
        (try clear BK761)
        (try clear BK769)
        (try clear HB)
        generalize (((((w134.setCell ⟨gb769, 0, none⟩ (.string t762)).setCell ⟨gb769, 1, none⟩ (.slice Ao139 t763.length co139)).setCell ⟨gb769, 2, none⟩ (.int .i64 t766)).setCell ⟨gb769, 3, none⟩ (.int .i64 t767)).setCell ⟨gb769, 4, none⟩ (.int .i64 t768)) = w140 at n0_ n1_ n2_ n3_ n4_ n5_ n6_ ⊢
        have HO_744001 := n0_
        have HO765 := n1_
        have BK742 := n2_
        have BK743 := n3_
        have BK761 := n4_
        have BK769 := n5_
        have HB := n6_
        clear n0_ n1_ n2_ n3_ n4_ n5_ n6_
        replace HO_744001 := am_ (Kd.S_drew HO_744001.out)
        replace HO765 := am_ (Kd.S_drew HO765.out)
        replace BK742 := bd_ BK742
        replace BK743 := bd_ BK743
        replace BK761 := bd_ BK761
        replace BK769 := bd_ BK769
        replace HB := am_ (below_drew1 HB.out)
        refine start_ (n := 7) (S := fun w' => w'.cell? ⟨gb769, 0, none⟩ = some (.string t762) ∧ w'.cell? ⟨gb769, 1, none⟩ = some (.slice Ao139 t763.length co139) ∧ w'.cell? ⟨gb769, 2, none⟩ = some (.int .i64 t766) ∧ w'.cell? ⟨gb769, 3, none⟩ = some (.int .i64 t767) ∧ w'.cell? ⟨gb769, 4, none⟩ = some (.int .i64 t768) ∧ w'.cell? ⟨gb761, 0, none⟩ = some (.int .i64 t756) ∧ w'.cell? ⟨gb761, 1, none⟩ = some (.int .i64 t757) ∧ w'.cell? ⟨gb761, 2, none⟩ = some (.int .i64 t758) ∧ w'.cell? ⟨gb761, 3, none⟩ = some (.int .i64 t759)) (ds := []) (bs 7 0) (by kernel_rfl) rfl rfl ⟨(blk_cell BK769.out 0).trans rfl, (blk_cell BK769.out 1).trans rfl, (blk_cell BK769.out 2).trans rfl, (blk_cell BK769.out 3).trans rfl, (blk_cell BK769.out 4).trans rfl, (blk_cell BK761.out 0).trans rfl, (blk_cell BK761.out 1).trans rfl, (blk_cell BK761.out 2).trans rfl, (blk_cell BK761.out 3).trans rfl⟩ (fun hHeld => ?_)
        generalize w140.drew = w141 at HO_744001 HO765 BK742 BK743 BK761 BK769 HB hHeld ⊢
        refine pk_ 0 63 (bs 7 1) ?_ rfl rfl
        refine pk_ 3 66 (bs 7 9) ?_ rfl rfl
        refine take_ (i := 1) (N := some 64) (v := ?_) (a' := ?_) (bs 7 11) rfl rfl (by kernel_rfl) (fun _ _ _ h => h) (Or.inl ⟨by rfl, ?_⟩) hHeld ?_ ?_
        rotate_left
        ·rintro w' ⟨s0, s1, s2, s3, s4, s5, s6, s7, s8⟩
         go_simp
         with_reducible rfl
        rotate_left
        ·simp only [Act.put, List.setIfInBounds_toArray, List.set_cons_zero, List.set_cons_succ, i64_w, i32_w]
         rfl
        refine take_ (i := 2) (N := some 65) (v := ?_) (a' := ?_) (bs 7 15) rfl rfl (by kernel_rfl) (fun _ _ _ h => h) (Or.inl ⟨by rfl, ?_⟩) hHeld ?_ ?_
        rotate_left
        ·rintro w' ⟨s0, s1, s2, s3, s4, s5, s6, s7, s8⟩
         go_simp
         with_reducible rfl
        rotate_left
        ·simp only [Act.put, List.setIfInBounds_toArray, List.set_cons_zero, List.set_cons_succ, i64_w, i32_w]
         rfl
        refine one_ (i := 4) (N := some 67) (bs 7 31) rfl rfl (by kernel_rfl) (by decide) (fun K hK => ?_)
        refine gr_ Try.func40 #[.agg #[.int .i64 t756, .int .i64 t757, .int .i64 t758, .int .i64 t759], .string t760] (by rfl) ?_ rfl rfl rfl
        with_reducible refine (F40.calls kj25 t756 t757 t758 t759 t760 t770 t771 t774 t775 t776 _ A85.out).mono ?_
        rintro e w142 ⟨v772, rfl, ho0, hb⟩
        refine ⟨_, rfl, ?_⟩
        have HO773 := am_ (Kd.S_lower (Kd.S_new' (Kd.S_new' ho0 (Kd.S_lt au6_0)) (Kd.S_lt au6_6)) (below_size bl_))
        replace HO_744001 := am_ (Kd.S_elder' au6_0 (Kd.S_base ho0) hb)
        replace HO765 := am_ (Kd.S_elder' au6_6 (Kd.S_base ho0) hb)
        replace BK742 := bb_ BK742 hb
        replace BK743 := bb_ BK743 hb
        replace BK761 := bb_ BK761 hb
        replace BK769 := bb_ BK769 hb
        replace HB := hs_ w hb
        (try clear hb)
        (try clear hb2)
        (try clear hk)
        (try clear hi)
        (try clear ho0)
        obtain ⟨Aq_, cq_, eq_⟩ := Kd.S_slice HO773.out
        try subst eq_
        have hfd_ : ∀ w : World, (Instr.field 66 (.agg #[.string t770, .slice Aq_ t771.length cq_, .int .i64 t774, .int .i64 t775, .int .i64 t776]) 3).run Try.prog w = .ok (.int .i64 t776) w := fun _ => by kernel_rfl
        refine hK.out _ _ ⟨(blk_cell BK769.out 0).trans rfl, (blk_cell BK769.out 1).trans rfl, (blk_cell BK769.out 2).trans rfl, (blk_cell BK769.out 3).trans rfl, (blk_cell BK769.out 4).trans rfl, (blk_cell BK761.out 0).trans rfl, (blk_cell BK761.out 1).trans rfl, (blk_cell BK761.out 2).trans rfl, (blk_cell BK761.out 3).trans rfl⟩ (fun hHeld => ?_)
        clear hK K
        refine no_ 67 ?_
        refine pk_ 5 68 (bs 7 63) ?_ rfl rfl
        refine pk_ 6 69 (bs 7 127) ?_ rfl rfl
        refine done_ (by kernel_rfl) ?_
        obtain ⟨hcz143_0, hcz143_1, hcz143_2, hcz143_3, hcz143_4, hfz143_0, hfz143_1, hfz143_2, hfz143_3, hfz143_4⟩ := cellsF5 BK769.out
        try go_wp2
        replace HO_744001 := am_ (Kd.S_drew HO_744001.out)
        replace HO765 := am_ (Kd.S_drew HO765.out)
        replace HO773 := am_ (Kd.S_drew HO773.out)
        replace BK742 := bd_ BK742
        replace BK743 := bd_ BK743
        replace BK761 := bd_ BK761
        replace BK769 := bd_ BK769
        replace HB := am_ (below_drew1 HB.out)
        refine start_ (n := 22) (S := fun w' => w'.cell? ⟨gb769, 0, none⟩ = some (.string t762) ∧ w'.cell? ⟨gb769, 1, none⟩ = some (.slice Ao139 t763.length co139) ∧ w'.cell? ⟨gb769, 2, none⟩ = some (.int .i64 t766) ∧ w'.cell? ⟨gb769, 3, none⟩ = some (.int .i64 t767) ∧ w'.cell? ⟨gb769, 4, none⟩ = some (.int .i64 t768)) (ds := []) (bs 22 0) (by kernel_rfl) rfl rfl ⟨(blk_cell BK769.out 0).trans rfl, (blk_cell BK769.out 1).trans rfl, (blk_cell BK769.out 2).trans rfl, (blk_cell BK769.out 3).trans rfl, (blk_cell BK769.out 4).trans rfl⟩ (fun hHeld => ?_); refine with_tabW F14.tab15 F14.bits15 (fun HT_ HW_ => ?_)
        generalize w142.drew = w144 at HO_744001 HO765 HO773 BK742 BK743 BK761 BK769 HB hHeld ⊢
        refine pu_ 0 73 (bs 22 1) HT_ ?_ rfl rfl
        refine tk_ 1 74 (bs 22 3) HT_ HW_ hHeld au6_30 ?_ rfl rfl
        refine pu_ 2 75 (bs 22 7) HT_ ?_ rfl rfl
        refine pu_ 3 76 (bs 22 15) HT_ ?_ rfl rfl
        refine pv_ 4 77 (bs 22 31) HT_ ?_ rfl rfl
        refine pv_ 5 78 (bs 22 63) HT_ ?_ rfl rfl
        refine pv_ 6 79 (bs 22 127) HT_ ?_ rfl rfl
        refine pv_ 7 80 (bs 22 255) HT_ ?_ rfl rfl
        refine pv_ 8 81 (bs 22 511) HT_ ?_ rfl rfl
        refine pu_ 9 82 (bs 22 1023) HT_ ?_ rfl rfl
        refine pu_ 10 83 (bs 22 2047) HT_ ?_ rfl rfl
        refine pv_ 11 84 (bs 22 4095) HT_ ?_ rfl rfl
        refine pv_ 12 85 (bs 22 8191) HT_ ?_ rfl rfl
        refine pv_ 13 86 (bs 22 16383) HT_ ?_ rfl rfl
        refine pv_ 14 87 (bs 22 32767) HT_ ?_ rfl rfl
        refine pv_ 15 88 (bs 22 65535) HT_ ?_ rfl rfl
        refine pv_ 16 89 (bs 22 131071) HT_ ?_ rfl rfl
        refine pv_ 17 90 (bs 22 262143) HT_ ?_ rfl rfl
        refine pv_ 18 91 (bs 22 524287) HT_ ?_ rfl rfl
        refine pv_ 19 92 (bs 22 1048575) HT_ ?_ rfl rfl
        refine pu_ 20 93 (bs 22 2097151) HT_ ?_ rfl rfl
        refine pu_ 21 4 (bs 22 4194303) HT_ ?_ rfl rfl
        refine done_ (done_of HT_.out (by kernel_rfl)) ?_
        try go_wp2
        go_ret
        exact ⟨au6_8, bl_⟩
       replace H := it_ H; rcases H with ⟨c89b0, H⟩ | ⟨c89b0, H⟩
       rotate_left
       ·obtain rfl := Option.some.inj H
        try go_wp2_with (first | (go_at_call 57; (with_reducible refine (F57.calls kj25 _ _ l1 t756 t757 t758 t759 t760 _ ?s1 ?s2 A83.out).mono ?_); (case s1 => exact au6_12); (case s2 => exact HC1.out); rintro e w111 ⟨rfl, hb⟩; (try clear A83); replace HO_744001 := am_ (Kd.S_below au6_0 hb); replace BK742 := bb_ BK742 hb; replace BK743 := bb_ BK743 hb; replace HB := hs_ w hb; (try clear hb); (try clear hb2); (try clear hk); (try clear hi)) | ((with_reducible refine gate_dst (N := 9) rfl ?_); (try (refine gate_guard (by rfl) ?_; dsimp only)); refine be_ 9 #[.int .i64 0, .int .i64 0, .int .i64 0, .int .i64 0] 23 ?_; intro gb761 hg w112 hbox hb; replace HO_744001 := am_ (Kd.S_below au6_0 hb); have BK761 := am_ (hbox); have GW761 := am_ (gw_ hg bl_); have GE761 := GW761; replace HB := hs_ w hb; have NB742_761 := am_ (gn_ hg (blkl_ BK742)); have NB761_742 := am_ (gm_ hg (blkl_ BK742)); replace BK742 := bb_ BK742 hb; have NB743_761 := am_ (gn_ hg (blkl_ BK743)); have NB761_743 := am_ (gm_ hg (blkl_ BK743)); replace BK743 := bb_ BK743 hb; clear hb hbox hg; have hnb113 := NB761_742.out; have hnc113 := NB742_761.out; have hnb114 := NB761_743.out; have hnc114 := NB743_761.out; obtain ⟨hcz115_0, hcz115_1, hcz115_2, hcz115_3, hfz115_0, hfz115_1, hfz115_2, hfz115_3⟩ := cellsF4 BK761.out) | (go_at_call 41; (with_reducible refine (F41.calls kj25 t756 t757 t758 t759 t760 t762 t763 t766 t767 t768 _ A84.out).mono ?_); rintro e w116 ⟨v764, rfl, ho0, hb⟩; (try clear A84); have HO765 := am_ (Kd.S_lower (Kd.S_new' ho0 (Kd.S_lt au6_1)) (below_size bl_)); replace HO_744001 := am_ (Kd.S_elder' au6_1 (Kd.S_base ho0) hb); replace BK742 := am_ (blk_below (g := gb742) (o := .cells #[.int .i64 t734, .int .i64 t735, .int .i64 t736, .int .i64 t737] 23 (0, 0)) (bf_ BK742) hb); replace BK743 := am_ (blk_below (g := gb743) (o := .cells #[.string t738, .slice Ao14 t739.length co14] 59 (0, 0)) (bf_ BK743) hb); replace BK761 := am_ (blk_below (g := gb761) (o := .cells #[.int .i64 t756, .int .i64 t757, .int .i64 t758, .int .i64 t759] 23 (0, 0)) (bq_ BK761) hb); replace HB := hs_ w hb; (try clear hb); (try clear hb2); (try clear hk); (try clear hi); (try clear ho0)) | ((with_reducible refine gate_dst (N := 11) rfl ?_); (try (refine gate_guard (by rfl) ?_; dsimp only)); refine be_ 11 #[.string (⟨#[]⟩ : ByteArray), .slice none 0 0, .int .i64 0, .int .i64 0, .int .i64 0] 66 ?_; intro gb769 hg w117 hbox hb; replace HO_744001 := am_ (Kd.S_below au6_0 hb); replace HO765 := am_ (Kd.S_below au6_6 hb); have BK769 := am_ (hbox); have GW769 := am_ (gw_ hg bl_); have GE769 := GW769; replace HB := hs_ w hb; have NB742_769 := am_ (gn_ hg (blkl_ BK742)); have NB769_742 := am_ (gm_ hg (blkl_ BK742)); replace BK742 := bb_ BK742 hb; have NB743_769 := am_ (gn_ hg (blkl_ BK743)); have NB769_743 := am_ (gm_ hg (blkl_ BK743)); replace BK743 := bb_ BK743 hb; have NB761_769 := am_ (gn_ hg (blkl_ BK761)); have NB769_761 := am_ (gm_ hg (blkl_ BK761)); replace BK761 := bb_ BK761 hb; clear hb hbox hg; have hnb118 := NB769_742.out; have hnc118 := NB742_769.out; have hnb119 := NB769_743.out; have hnc119 := NB743_769.out; have hnb120 := NB769_761.out; have hnc120 := NB761_769.out; obtain ⟨hcz121_0, hcz121_1, hcz121_2, hcz121_3, hcz121_4, hfz121_0, hfz121_1, hfz121_2, hfz121_3, hfz121_4⟩ := cellsF5 BK769.out; obtain ⟨Ao122, co122, eo122⟩ := Kd.S_slice HO765.out; subst eo122))
        have n0_ : Aside0 (Kd.S k102 102 (((((w117.setCell ⟨gb769, 0, none⟩ (.string t762)).setCell ⟨gb769, 1, none⟩ (.slice Ao122 t763.length co122)).setCell ⟨gb769, 2, none⟩ (.int .i64 t766)).setCell ⟨gb769, 3, none⟩ (.int .i64 t767)).setCell ⟨gb769, 4, none⟩ (.int .i64 t768)) w.heap.size (fun k_ => some k_ ≠ (.slice Ao122 t763.length co122 : Value).ownBlock) (.slice Ao14 t739.length co14) t739) := ⟨by (with_reducible repeat (first | apply Kd.S_alloc | apply Kd.S_drewN | apply Kd.S_drew)); exact Kd.S_mono (Kd.S_far (p := ⟨gb769, 4, none⟩) (Kd.S_far (p := ⟨gb769, 3, none⟩) (Kd.S_far (p := ⟨gb769, 2, none⟩) (Kd.S_far (p := ⟨gb769, 1, none⟩) (Kd.S_far (p := ⟨gb769, 0, none⟩) (Kd.S_types HO_744001.out BK769.out (by decide)) (fun _ hk => hk.2) (.string t762)) (fun _ hk => hk.2) (.slice Ao122 t763.length co122)) (fun _ hk => hk.2) (.int .i64 t766)) (fun _ hk => hk.2) (.int .i64 t767)) (fun _ hk => hk.2) (.int .i64 t768)) (fun _ hk => hk.1.2)⟩
        have n1_ : Aside0 (Kd.S k102 102 (((((w117.setCell ⟨gb769, 0, none⟩ (.string t762)).setCell ⟨gb769, 1, none⟩ (.slice Ao122 t763.length co122)).setCell ⟨gb769, 2, none⟩ (.int .i64 t766)).setCell ⟨gb769, 3, none⟩ (.int .i64 t767)).setCell ⟨gb769, 4, none⟩ (.int .i64 t768)) w.heap.size (fun k_ => some k_ ≠ (.slice Ao14 t739.length co14 : Value).ownBlock) (.slice Ao122 t763.length co122) t763) := ⟨by (with_reducible repeat (first | apply Kd.S_alloc | apply Kd.S_drewN | apply Kd.S_drew)); exact Kd.S_mono (Kd.S_far (p := ⟨gb769, 4, none⟩) (Kd.S_far (p := ⟨gb769, 3, none⟩) (Kd.S_far (p := ⟨gb769, 2, none⟩) (Kd.S_far (p := ⟨gb769, 1, none⟩) (Kd.S_far (p := ⟨gb769, 0, none⟩) (Kd.S_types HO765.out BK769.out (by decide)) (fun _ hk => hk.2) (.string t762)) (fun _ hk => hk.2) (.slice Ao122 t763.length co122)) (fun _ hk => hk.2) (.int .i64 t766)) (fun _ hk => hk.2) (.int .i64 t767)) (fun _ hk => hk.2) (.int .i64 t768)) (fun _ hk => hk.1.2)⟩
        have n2_ : Aside0 ((((((w117.setCell ⟨gb769, 0, none⟩ (.string t762)).setCell ⟨gb769, 1, none⟩ (.slice Ao122 t763.length co122)).setCell ⟨gb769, 2, none⟩ (.int .i64 t766)).setCell ⟨gb769, 3, none⟩ (.int .i64 t767)).setCell ⟨gb769, 4, none⟩ (.int .i64 t768)).heap[gb742]? = some (.cells #[.int .i64 t734, .int .i64 t735, .int .i64 t736, .int .i64 t737] 23 (0, 0))) := ⟨bf_ BK742⟩
        have n3_ : Aside0 ((((((w117.setCell ⟨gb769, 0, none⟩ (.string t762)).setCell ⟨gb769, 1, none⟩ (.slice Ao122 t763.length co122)).setCell ⟨gb769, 2, none⟩ (.int .i64 t766)).setCell ⟨gb769, 3, none⟩ (.int .i64 t767)).setCell ⟨gb769, 4, none⟩ (.int .i64 t768)).heap[gb743]? = some (.cells #[.string t738, .slice Ao14 t739.length co14] 59 (0, 0))) := ⟨bf_ BK743⟩
        have n4_ : Aside0 ((((((w117.setCell ⟨gb769, 0, none⟩ (.string t762)).setCell ⟨gb769, 1, none⟩ (.slice Ao122 t763.length co122)).setCell ⟨gb769, 2, none⟩ (.int .i64 t766)).setCell ⟨gb769, 3, none⟩ (.int .i64 t767)).setCell ⟨gb769, 4, none⟩ (.int .i64 t768)).heap[gb761]? = some (.cells #[.int .i64 t756, .int .i64 t757, .int .i64 t758, .int .i64 t759] 23 (0, 0))) := ⟨bf_ BK761⟩
        have n5_ : Aside0 ((((((w117.setCell ⟨gb769, 0, none⟩ (.string t762)).setCell ⟨gb769, 1, none⟩ (.slice Ao122 t763.length co122)).setCell ⟨gb769, 2, none⟩ (.int .i64 t766)).setCell ⟨gb769, 3, none⟩ (.int .i64 t767)).setCell ⟨gb769, 4, none⟩ (.int .i64 t768)).heap[gb769]? = some (.cells #[.string t762, .slice Ao122 t763.length co122, .int .i64 t766, .int .i64 t767, .int .i64 t768] 66 (0, 0))) := ⟨bq_ BK769⟩
        have n6_ : Aside0 (Below w.heap.size w (((((w117.setCell ⟨gb769, 0, none⟩ (.string t762)).setCell ⟨gb769, 1, none⟩ (.slice Ao122 t763.length co122)).setCell ⟨gb769, 2, none⟩ (.int .i64 t766)).setCell ⟨gb769, 3, none⟩ (.int .i64 t767)).setCell ⟨gb769, 4, none⟩ (.int .i64 t768))) := ⟨bl_⟩
        (try clear HO_744001)
        (try clear HO765)
        (try clear BK742)
        (try clear BK743)
        (try clear BK761)
        (try clear BK769)
        (try clear HB)
        generalize (((((w117.setCell ⟨gb769, 0, none⟩ (.string t762)).setCell ⟨gb769, 1, none⟩ (.slice Ao122 t763.length co122)).setCell ⟨gb769, 2, none⟩ (.int .i64 t766)).setCell ⟨gb769, 3, none⟩ (.int .i64 t767)).setCell ⟨gb769, 4, none⟩ (.int .i64 t768)) = w123 at n0_ n1_ n2_ n3_ n4_ n5_ n6_ ⊢
        have HO_744001 := n0_
        have HO765 := n1_
        have BK742 := n2_
        have BK743 := n3_
        have BK761 := n4_
        have BK769 := n5_
        have HB := n6_
        clear n0_ n1_ n2_ n3_ n4_ n5_ n6_
        replace HO_744001 := am_ (Kd.S_drew HO_744001.out)
        replace HO765 := am_ (Kd.S_drew HO765.out)
        replace BK742 := bd_ BK742
        replace BK743 := bd_ BK743
        replace BK761 := bd_ BK761
        replace BK769 := bd_ BK769
        replace HB := am_ (below_drew1 HB.out)
        refine start_ (n := 7) (S := fun w' => w'.cell? ⟨gb769, 0, none⟩ = some (.string t762) ∧ w'.cell? ⟨gb769, 1, none⟩ = some (.slice Ao122 t763.length co122) ∧ w'.cell? ⟨gb769, 2, none⟩ = some (.int .i64 t766) ∧ w'.cell? ⟨gb769, 3, none⟩ = some (.int .i64 t767) ∧ w'.cell? ⟨gb769, 4, none⟩ = some (.int .i64 t768) ∧ w'.cell? ⟨gb761, 0, none⟩ = some (.int .i64 t756) ∧ w'.cell? ⟨gb761, 1, none⟩ = some (.int .i64 t757) ∧ w'.cell? ⟨gb761, 2, none⟩ = some (.int .i64 t758) ∧ w'.cell? ⟨gb761, 3, none⟩ = some (.int .i64 t759)) (ds := []) (bs 7 0) (by kernel_rfl) rfl rfl ⟨(blk_cell BK769.out 0).trans rfl, (blk_cell BK769.out 1).trans rfl, (blk_cell BK769.out 2).trans rfl, (blk_cell BK769.out 3).trans rfl, (blk_cell BK769.out 4).trans rfl, (blk_cell BK761.out 0).trans rfl, (blk_cell BK761.out 1).trans rfl, (blk_cell BK761.out 2).trans rfl, (blk_cell BK761.out 3).trans rfl⟩ (fun hHeld => ?_)
        generalize w123.drew = w124 at HO_744001 HO765 BK742 BK743 BK761 BK769 HB hHeld ⊢
        refine pk_ 0 63 (bs 7 1) ?_ rfl rfl
        refine pk_ 3 66 (bs 7 9) ?_ rfl rfl
        refine take_ (i := 1) (N := some 64) (v := ?_) (a' := ?_) (bs 7 11) rfl rfl (by kernel_rfl) (fun _ _ _ h => h) (Or.inl ⟨by rfl, ?_⟩) hHeld ?_ ?_
        rotate_left
        ·rintro w' ⟨s0, s1, s2, s3, s4, s5, s6, s7, s8⟩
         go_simp
         with_reducible rfl
        rotate_left
        ·simp only [Act.put, List.setIfInBounds_toArray, List.set_cons_zero, List.set_cons_succ, i64_w, i32_w]
         rfl
        refine take_ (i := 2) (N := some 65) (v := ?_) (a' := ?_) (bs 7 15) rfl rfl (by kernel_rfl) (fun _ _ _ h => h) (Or.inl ⟨by rfl, ?_⟩) hHeld ?_ ?_
        rotate_left
        ·rintro w' ⟨s0, s1, s2, s3, s4, s5, s6, s7, s8⟩
         go_simp
         with_reducible rfl
        rotate_left
        ·simp only [Act.put, List.setIfInBounds_toArray, List.set_cons_zero, List.set_cons_succ, i64_w, i32_w]
         rfl
        refine one_ (i := 4) (N := some 67) (bs 7 31) rfl rfl (by kernel_rfl) (by decide) (fun K hK => ?_)
        refine gr_ Try.func40 #[.agg #[.int .i64 t756, .int .i64 t757, .int .i64 t758, .int .i64 t759], .string t760] (by rfl) ?_ rfl rfl rfl
        with_reducible refine (F40.calls kj25 t756 t757 t758 t759 t760 t770 t771 t774 t775 t776 _ A85.out).mono ?_
        rintro e w125 ⟨v772, rfl, ho0, hb⟩
        refine ⟨_, rfl, ?_⟩
        have HO773 := am_ (Kd.S_lower (Kd.S_new' (Kd.S_new' ho0 (Kd.S_lt au6_0)) (Kd.S_lt au6_6)) (below_size bl_))
        replace HO_744001 := am_ (Kd.S_elder' au6_0 (Kd.S_base ho0) hb)
        replace HO765 := am_ (Kd.S_elder' au6_6 (Kd.S_base ho0) hb)
        replace BK742 := bb_ BK742 hb
        replace BK743 := bb_ BK743 hb
        replace BK761 := bb_ BK761 hb
        replace BK769 := bb_ BK769 hb
        replace HB := hs_ w hb
        (try clear hb)
        (try clear hb2)
        (try clear hk)
        (try clear hi)
        (try clear ho0)
        obtain ⟨Aq_, cq_, eq_⟩ := Kd.S_slice HO773.out
        try subst eq_
        have hfd_ : ∀ w : World, (Instr.field 66 (.agg #[.string t770, .slice Aq_ t771.length cq_, .int .i64 t774, .int .i64 t775, .int .i64 t776]) 3).run Try.prog w = .ok (.int .i64 t776) w := fun _ => by kernel_rfl
        refine hK.out _ _ ⟨(blk_cell BK769.out 0).trans rfl, (blk_cell BK769.out 1).trans rfl, (blk_cell BK769.out 2).trans rfl, (blk_cell BK769.out 3).trans rfl, (blk_cell BK769.out 4).trans rfl, (blk_cell BK761.out 0).trans rfl, (blk_cell BK761.out 1).trans rfl, (blk_cell BK761.out 2).trans rfl, (blk_cell BK761.out 3).trans rfl⟩ (fun hHeld => ?_)
        clear hK K
        refine no_ 67 ?_
        refine pk_ 5 68 (bs 7 63) ?_ rfl rfl
        refine pk_ 6 69 (bs 7 127) ?_ rfl rfl
        refine done_ (by kernel_rfl) ?_
        obtain ⟨hcz126_0, hcz126_1, hcz126_2, hcz126_3, hcz126_4, hfz126_0, hfz126_1, hfz126_2, hfz126_3, hfz126_4⟩ := cellsF5 BK769.out
        try go_wp2
        replace HO_744001 := am_ (Kd.S_drew HO_744001.out)
        replace HO765 := am_ (Kd.S_drew HO765.out)
        replace HO773 := am_ (Kd.S_drew HO773.out)
        replace BK742 := bd_ BK742
        replace BK743 := bd_ BK743
        replace BK761 := bd_ BK761
        replace BK769 := bd_ BK769
        replace HB := am_ (below_drew1 HB.out)
        refine start_ (n := 22) (S := fun w' => w'.cell? ⟨gb769, 0, none⟩ = some (.string t762) ∧ w'.cell? ⟨gb769, 1, none⟩ = some (.slice Ao122 t763.length co122) ∧ w'.cell? ⟨gb769, 2, none⟩ = some (.int .i64 t766) ∧ w'.cell? ⟨gb769, 3, none⟩ = some (.int .i64 t767) ∧ w'.cell? ⟨gb769, 4, none⟩ = some (.int .i64 t768)) (ds := []) (bs 22 0) (by kernel_rfl) rfl rfl ⟨(blk_cell BK769.out 0).trans rfl, (blk_cell BK769.out 1).trans rfl, (blk_cell BK769.out 2).trans rfl, (blk_cell BK769.out 3).trans rfl, (blk_cell BK769.out 4).trans rfl⟩ (fun hHeld => ?_); refine with_tabW F14.tab15 F14.bits15 (fun HT_ HW_ => ?_)
        generalize w125.drew = w127 at HO_744001 HO765 HO773 BK742 BK743 BK761 BK769 HB hHeld ⊢
        refine pu_ 0 73 (bs 22 1) HT_ ?_ rfl rfl
        refine tk_ 1 74 (bs 22 3) HT_ HW_ hHeld au6_30 ?_ rfl rfl
        refine pu_ 2 75 (bs 22 7) HT_ ?_ rfl rfl
        refine pu_ 3 76 (bs 22 15) HT_ ?_ rfl rfl
        refine pu_ 4 77 (bs 22 31) HT_ ?_ rfl rfl
        refine pu_ 6 79 (bs 22 95) HT_ ?_ rfl rfl
        refine pu_ 7 80 (bs 22 223) HT_ ?_ rfl rfl
        refine tk_ 5 78 (bs 22 255) HT_ HW_ hHeld au6_30 ?_ rfl rfl
        refine pu_ 8 81 (bs 22 511) HT_ ?_ rfl rfl
        refine pu_ 9 82 (bs 22 1023) HT_ ?_ rfl rfl
        refine pu_ 10 83 (bs 22 2047) HT_ ?_ rfl rfl
        refine pv_ 11 84 (bs 22 4095) HT_ ?_ rfl rfl
        refine pv_ 12 85 (bs 22 8191) HT_ ?_ rfl rfl
        refine pv_ 13 86 (bs 22 16383) HT_ ?_ rfl rfl
        refine pv_ 14 87 (bs 22 32767) HT_ ?_ rfl rfl
        refine pv_ 15 88 (bs 22 65535) HT_ ?_ rfl rfl
        refine pv_ 16 89 (bs 22 131071) HT_ ?_ rfl rfl
        refine pv_ 17 90 (bs 22 262143) HT_ ?_ rfl rfl
        refine pv_ 18 91 (bs 22 524287) HT_ ?_ rfl rfl
        refine pv_ 19 92 (bs 22 1048575) HT_ ?_ rfl rfl
        refine pu_ 20 93 (bs 22 2097151) HT_ ?_ rfl rfl
        refine pu_ 21 4 (bs 22 4194303) HT_ ?_ rfl rfl
        refine done_ (done_of HT_.out (by kernel_rfl)) ?_
        try go_wp2
        go_ret
        exact ⟨au6_8, bl_⟩
       replace H := bi_ H; rcases H with ⟨t777, A90, H⟩
       by_cases c91 : 0 ≤ t766
       rotate_left
       ·rw [if_neg c91] at H
        exact absurd H (by simp)
       rw [if_pos c91] at H
       have c91b0 := eq_true c91
       have c91b1 : decide (0 ≤ t766) = true := decide_eq_true c91
       clear c91
       have c92b0 := eq_true (of_decide_eq_true as_ : t766 ≤ (t760.size : Int))
       obtain rfl := Option.some.inj H
       try go_wp2_with (first | (go_at_call 57; (with_reducible refine (F57.calls kj25 _ _ l1 t756 t757 t758 t759 t760 _ ?s1 ?s2 A83.out).mono ?_); (case s1 => exact au6_12); (case s2 => exact HC1.out); rintro e w93 ⟨rfl, hb⟩; (try clear A83); replace HO_744001 := am_ (Kd.S_below au6_0 hb); replace BK742 := bb_ BK742 hb; replace BK743 := bb_ BK743 hb; replace HB := hs_ w hb; (try clear hb); (try clear hb2); (try clear hk); (try clear hi)) | ((with_reducible refine gate_dst (N := 9) rfl ?_); (try (refine gate_guard (by rfl) ?_; dsimp only)); refine be_ 9 #[.int .i64 0, .int .i64 0, .int .i64 0, .int .i64 0] 23 ?_; intro gb761 hg w94 hbox hb; replace HO_744001 := am_ (Kd.S_below au6_0 hb); have BK761 := am_ (hbox); have GW761 := am_ (gw_ hg bl_); have GE761 := GW761; replace HB := hs_ w hb; have NB742_761 := am_ (gn_ hg (blkl_ BK742)); have NB761_742 := am_ (gm_ hg (blkl_ BK742)); replace BK742 := bb_ BK742 hb; have NB743_761 := am_ (gn_ hg (blkl_ BK743)); have NB761_743 := am_ (gm_ hg (blkl_ BK743)); replace BK743 := bb_ BK743 hb; clear hb hbox hg; have hnb95 := NB761_742.out; have hnc95 := NB742_761.out; have hnb96 := NB761_743.out; have hnc96 := NB743_761.out; obtain ⟨hcz97_0, hcz97_1, hcz97_2, hcz97_3, hfz97_0, hfz97_1, hfz97_2, hfz97_3⟩ := cellsF4 BK761.out) | (go_at_call 41; (with_reducible refine (F41.calls kj25 t756 t757 t758 t759 t760 t762 t763 t766 t767 t768 _ A84.out).mono ?_); rintro e w98 ⟨v764, rfl, ho0, hb⟩; (try clear A84); have HO765 := am_ (Kd.S_lower (Kd.S_new' ho0 (Kd.S_lt au6_1)) (below_size bl_)); replace HO_744001 := am_ (Kd.S_elder' au6_1 (Kd.S_base ho0) hb); replace BK742 := am_ (blk_below (g := gb742) (o := .cells #[.int .i64 t734, .int .i64 t735, .int .i64 t736, .int .i64 t737] 23 (0, 0)) (bf_ BK742) hb); replace BK743 := am_ (blk_below (g := gb743) (o := .cells #[.string t738, .slice Ao14 t739.length co14] 59 (0, 0)) (bf_ BK743) hb); replace BK761 := am_ (blk_below (g := gb761) (o := .cells #[.int .i64 t756, .int .i64 t757, .int .i64 t758, .int .i64 t759] 23 (0, 0)) (bq_ BK761) hb); replace HB := hs_ w hb; (try clear hb); (try clear hb2); (try clear hk); (try clear hi); (try clear ho0)) | ((with_reducible refine gate_dst (N := 11) rfl ?_); (try (refine gate_guard (by rfl) ?_; dsimp only)); refine be_ 11 #[.string (⟨#[]⟩ : ByteArray), .slice none 0 0, .int .i64 0, .int .i64 0, .int .i64 0] 66 ?_; intro gb769 hg w99 hbox hb; replace HO_744001 := am_ (Kd.S_below au6_0 hb); replace HO765 := am_ (Kd.S_below au6_6 hb); have BK769 := am_ (hbox); have GW769 := am_ (gw_ hg bl_); have GE769 := GW769; replace HB := hs_ w hb; have NB742_769 := am_ (gn_ hg (blkl_ BK742)); have NB769_742 := am_ (gm_ hg (blkl_ BK742)); replace BK742 := bb_ BK742 hb; have NB743_769 := am_ (gn_ hg (blkl_ BK743)); have NB769_743 := am_ (gm_ hg (blkl_ BK743)); replace BK743 := bb_ BK743 hb; have NB761_769 := am_ (gn_ hg (blkl_ BK761)); have NB769_761 := am_ (gm_ hg (blkl_ BK761)); replace BK761 := bb_ BK761 hb; clear hb hbox hg; have hnb100 := NB769_742.out; have hnc100 := NB742_769.out; have hnb101 := NB769_743.out; have hnc101 := NB743_769.out; have hnb102 := NB769_761.out; have hnc102 := NB761_769.out; obtain ⟨hcz103_0, hcz103_1, hcz103_2, hcz103_3, hcz103_4, hfz103_0, hfz103_1, hfz103_2, hfz103_3, hfz103_4⟩ := cellsF5 BK769.out; obtain ⟨Ao104, co104, eo104⟩ := Kd.S_slice HO765.out; subst eo104))
       have n0_ : Aside0 (Kd.S k102 102 (((((w99.setCell ⟨gb769, 0, none⟩ (.string t762)).setCell ⟨gb769, 1, none⟩ (.slice Ao104 t763.length co104)).setCell ⟨gb769, 2, none⟩ (.int .i64 t766)).setCell ⟨gb769, 3, none⟩ (.int .i64 t767)).setCell ⟨gb769, 4, none⟩ (.int .i64 t768)) w.heap.size (fun k_ => some k_ ≠ (.slice Ao104 t763.length co104 : Value).ownBlock) (.slice Ao14 t739.length co14) t739) := ⟨by (with_reducible repeat (first | apply Kd.S_alloc | apply Kd.S_drewN | apply Kd.S_drew)); exact Kd.S_mono (Kd.S_far (p := ⟨gb769, 4, none⟩) (Kd.S_far (p := ⟨gb769, 3, none⟩) (Kd.S_far (p := ⟨gb769, 2, none⟩) (Kd.S_far (p := ⟨gb769, 1, none⟩) (Kd.S_far (p := ⟨gb769, 0, none⟩) (Kd.S_types HO_744001.out BK769.out (by decide)) (fun _ hk => hk.2) (.string t762)) (fun _ hk => hk.2) (.slice Ao104 t763.length co104)) (fun _ hk => hk.2) (.int .i64 t766)) (fun _ hk => hk.2) (.int .i64 t767)) (fun _ hk => hk.2) (.int .i64 t768)) (fun _ hk => hk.1.2)⟩
       have n1_ : Aside0 (Kd.S k102 102 (((((w99.setCell ⟨gb769, 0, none⟩ (.string t762)).setCell ⟨gb769, 1, none⟩ (.slice Ao104 t763.length co104)).setCell ⟨gb769, 2, none⟩ (.int .i64 t766)).setCell ⟨gb769, 3, none⟩ (.int .i64 t767)).setCell ⟨gb769, 4, none⟩ (.int .i64 t768)) w.heap.size (fun k_ => some k_ ≠ (.slice Ao14 t739.length co14 : Value).ownBlock) (.slice Ao104 t763.length co104) t763) := ⟨by (with_reducible repeat (first | apply Kd.S_alloc | apply Kd.S_drewN | apply Kd.S_drew)); exact Kd.S_mono (Kd.S_far (p := ⟨gb769, 4, none⟩) (Kd.S_far (p := ⟨gb769, 3, none⟩) (Kd.S_far (p := ⟨gb769, 2, none⟩) (Kd.S_far (p := ⟨gb769, 1, none⟩) (Kd.S_far (p := ⟨gb769, 0, none⟩) (Kd.S_types HO765.out BK769.out (by decide)) (fun _ hk => hk.2) (.string t762)) (fun _ hk => hk.2) (.slice Ao104 t763.length co104)) (fun _ hk => hk.2) (.int .i64 t766)) (fun _ hk => hk.2) (.int .i64 t767)) (fun _ hk => hk.2) (.int .i64 t768)) (fun _ hk => hk.1.2)⟩
       have n2_ : Aside0 ((((((w99.setCell ⟨gb769, 0, none⟩ (.string t762)).setCell ⟨gb769, 1, none⟩ (.slice Ao104 t763.length co104)).setCell ⟨gb769, 2, none⟩ (.int .i64 t766)).setCell ⟨gb769, 3, none⟩ (.int .i64 t767)).setCell ⟨gb769, 4, none⟩ (.int .i64 t768)).heap[gb742]? = some (.cells #[.int .i64 t734, .int .i64 t735, .int .i64 t736, .int .i64 t737] 23 (0, 0))) := ⟨bf_ BK742⟩
       have n3_ : Aside0 ((((((w99.setCell ⟨gb769, 0, none⟩ (.string t762)).setCell ⟨gb769, 1, none⟩ (.slice Ao104 t763.length co104)).setCell ⟨gb769, 2, none⟩ (.int .i64 t766)).setCell ⟨gb769, 3, none⟩ (.int .i64 t767)).setCell ⟨gb769, 4, none⟩ (.int .i64 t768)).heap[gb743]? = some (.cells #[.string t738, .slice Ao14 t739.length co14] 59 (0, 0))) := ⟨bf_ BK743⟩
       have n4_ : Aside0 ((((((w99.setCell ⟨gb769, 0, none⟩ (.string t762)).setCell ⟨gb769, 1, none⟩ (.slice Ao104 t763.length co104)).setCell ⟨gb769, 2, none⟩ (.int .i64 t766)).setCell ⟨gb769, 3, none⟩ (.int .i64 t767)).setCell ⟨gb769, 4, none⟩ (.int .i64 t768)).heap[gb761]? = some (.cells #[.int .i64 t756, .int .i64 t757, .int .i64 t758, .int .i64 t759] 23 (0, 0))) := ⟨bf_ BK761⟩
       have n5_ : Aside0 ((((((w99.setCell ⟨gb769, 0, none⟩ (.string t762)).setCell ⟨gb769, 1, none⟩ (.slice Ao104 t763.length co104)).setCell ⟨gb769, 2, none⟩ (.int .i64 t766)).setCell ⟨gb769, 3, none⟩ (.int .i64 t767)).setCell ⟨gb769, 4, none⟩ (.int .i64 t768)).heap[gb769]? = some (.cells #[.string t762, .slice Ao104 t763.length co104, .int .i64 t766, .int .i64 t767, .int .i64 t768] 66 (0, 0))) := ⟨bq_ BK769⟩
       have n6_ : Aside0 (Below w.heap.size w (((((w99.setCell ⟨gb769, 0, none⟩ (.string t762)).setCell ⟨gb769, 1, none⟩ (.slice Ao104 t763.length co104)).setCell ⟨gb769, 2, none⟩ (.int .i64 t766)).setCell ⟨gb769, 3, none⟩ (.int .i64 t767)).setCell ⟨gb769, 4, none⟩ (.int .i64 t768))) := ⟨bl_⟩
       (try clear HO_744001)
       (try clear HO765)
       (try clear BK742)
       (try clear BK743)
       (try clear BK761)
       (try clear BK769)
       (try clear HB)
       generalize (((((w99.setCell ⟨gb769, 0, none⟩ (.string t762)).setCell ⟨gb769, 1, none⟩ (.slice Ao104 t763.length co104)).setCell ⟨gb769, 2, none⟩ (.int .i64 t766)).setCell ⟨gb769, 3, none⟩ (.int .i64 t767)).setCell ⟨gb769, 4, none⟩ (.int .i64 t768)) = w105 at n0_ n1_ n2_ n3_ n4_ n5_ n6_ ⊢
       have HO_744001 := n0_
       have HO765 := n1_
       have BK742 := n2_
       have BK743 := n3_
       have BK761 := n4_
       have BK769 := n5_
       have HB := n6_
       clear n0_ n1_ n2_ n3_ n4_ n5_ n6_
       replace HO_744001 := am_ (Kd.S_drew HO_744001.out)
       replace HO765 := am_ (Kd.S_drew HO765.out)
       replace BK742 := bd_ BK742
       replace BK743 := bd_ BK743
       replace BK761 := bd_ BK761
       replace BK769 := bd_ BK769
       replace HB := am_ (below_drew1 HB.out)
       refine start_ (n := 7) (S := fun w' => w'.cell? ⟨gb769, 0, none⟩ = some (.string t762) ∧ w'.cell? ⟨gb769, 1, none⟩ = some (.slice Ao104 t763.length co104) ∧ w'.cell? ⟨gb769, 2, none⟩ = some (.int .i64 t766) ∧ w'.cell? ⟨gb769, 3, none⟩ = some (.int .i64 t767) ∧ w'.cell? ⟨gb769, 4, none⟩ = some (.int .i64 t768) ∧ w'.cell? ⟨gb761, 0, none⟩ = some (.int .i64 t756) ∧ w'.cell? ⟨gb761, 1, none⟩ = some (.int .i64 t757) ∧ w'.cell? ⟨gb761, 2, none⟩ = some (.int .i64 t758) ∧ w'.cell? ⟨gb761, 3, none⟩ = some (.int .i64 t759)) (ds := []) (bs 7 0) (by kernel_rfl) rfl rfl ⟨(blk_cell BK769.out 0).trans rfl, (blk_cell BK769.out 1).trans rfl, (blk_cell BK769.out 2).trans rfl, (blk_cell BK769.out 3).trans rfl, (blk_cell BK769.out 4).trans rfl, (blk_cell BK761.out 0).trans rfl, (blk_cell BK761.out 1).trans rfl, (blk_cell BK761.out 2).trans rfl, (blk_cell BK761.out 3).trans rfl⟩ (fun hHeld => ?_)
       generalize w105.drew = w106 at HO_744001 HO765 BK742 BK743 BK761 BK769 HB hHeld ⊢
       refine pk_ 0 63 (bs 7 1) ?_ rfl rfl
       refine pk_ 3 66 (bs 7 9) ?_ rfl rfl
       refine take_ (i := 1) (N := some 64) (v := ?_) (a' := ?_) (bs 7 11) rfl rfl (by kernel_rfl) (fun _ _ _ h => h) (Or.inl ⟨by rfl, ?_⟩) hHeld ?_ ?_
       rotate_left
       ·rintro w' ⟨s0, s1, s2, s3, s4, s5, s6, s7, s8⟩
        go_simp
        with_reducible rfl
       rotate_left
       ·simp only [Act.put, List.setIfInBounds_toArray, List.set_cons_zero, List.set_cons_succ, i64_w, i32_w]
        rfl
       refine take_ (i := 2) (N := some 65) (v := ?_) (a' := ?_) (bs 7 15) rfl rfl (by kernel_rfl) (fun _ _ _ h => h) (Or.inl ⟨by rfl, ?_⟩) hHeld ?_ ?_
       rotate_left
       ·rintro w' ⟨s0, s1, s2, s3, s4, s5, s6, s7, s8⟩
        go_simp
        with_reducible rfl
       rotate_left
       ·simp only [Act.put, List.setIfInBounds_toArray, List.set_cons_zero, List.set_cons_succ, i64_w, i32_w]
        rfl
       refine one_ (i := 4) (N := some 67) (bs 7 31) rfl rfl (by kernel_rfl) (by decide) (fun K hK => ?_)
       refine gr_ Try.func40 #[.agg #[.int .i64 t756, .int .i64 t757, .int .i64 t758, .int .i64 t759], .string t760] (by rfl) ?_ rfl rfl rfl
       with_reducible refine (F40.calls kj25 t756 t757 t758 t759 t760 t770 t771 t774 t775 t776 _ A85.out).mono ?_
       rintro e w107 ⟨v772, rfl, ho0, hb⟩
       refine ⟨_, rfl, ?_⟩
       have HO773 := am_ (Kd.S_lower (Kd.S_new' (Kd.S_new' ho0 (Kd.S_lt au6_0)) (Kd.S_lt au6_6)) (below_size bl_))
       replace HO_744001 := am_ (Kd.S_elder' au6_0 (Kd.S_base ho0) hb)
       replace HO765 := am_ (Kd.S_elder' au6_6 (Kd.S_base ho0) hb)
       replace BK742 := bb_ BK742 hb
       replace BK743 := bb_ BK743 hb
       replace BK761 := bb_ BK761 hb
       replace BK769 := bb_ BK769 hb
       replace HB := hs_ w hb
       (try clear hb)
       (try clear hb2)
       (try clear hk)
       (try clear hi)
       (try clear ho0)
       obtain ⟨Aq_, cq_, eq_⟩ := Kd.S_slice HO773.out
       try subst eq_
       have hfd_ : ∀ w : World, (Instr.field 66 (.agg #[.string t770, .slice Aq_ t771.length cq_, .int .i64 t774, .int .i64 t775, .int .i64 t776]) 3).run Try.prog w = .ok (.int .i64 t776) w := fun _ => by kernel_rfl
       refine hK.out _ _ ⟨(blk_cell BK769.out 0).trans rfl, (blk_cell BK769.out 1).trans rfl, (blk_cell BK769.out 2).trans rfl, (blk_cell BK769.out 3).trans rfl, (blk_cell BK769.out 4).trans rfl, (blk_cell BK761.out 0).trans rfl, (blk_cell BK761.out 1).trans rfl, (blk_cell BK761.out 2).trans rfl, (blk_cell BK761.out 3).trans rfl⟩ (fun hHeld => ?_)
       clear hK K
       refine no_ 67 ?_
       refine pk_ 5 68 (bs 7 63) ?_ rfl rfl
       refine pk_ 6 69 (bs 7 127) ?_ rfl rfl
       refine done_ (by kernel_rfl) ?_
       obtain ⟨hcz108_0, hcz108_1, hcz108_2, hcz108_3, hcz108_4, hfz108_0, hfz108_1, hfz108_2, hfz108_3, hfz108_4⟩ := cellsF5 BK769.out
       try go_wp2
       replace HO_744001 := am_ (Kd.S_drew HO_744001.out)
       replace HO765 := am_ (Kd.S_drew HO765.out)
       replace HO773 := am_ (Kd.S_drew HO773.out)
       replace BK742 := bd_ BK742
       replace BK743 := bd_ BK743
       replace BK761 := bd_ BK761
       replace BK769 := bd_ BK769
       replace HB := am_ (below_drew1 HB.out)
       refine start_ (n := 22) (S := fun w' => w'.cell? ⟨gb769, 0, none⟩ = some (.string t762) ∧ w'.cell? ⟨gb769, 1, none⟩ = some (.slice Ao104 t763.length co104) ∧ w'.cell? ⟨gb769, 2, none⟩ = some (.int .i64 t766) ∧ w'.cell? ⟨gb769, 3, none⟩ = some (.int .i64 t767) ∧ w'.cell? ⟨gb769, 4, none⟩ = some (.int .i64 t768) ∧ w'.cell? ⟨gb761, 0, none⟩ = some (.int .i64 t756) ∧ w'.cell? ⟨gb761, 1, none⟩ = some (.int .i64 t757) ∧ w'.cell? ⟨gb761, 2, none⟩ = some (.int .i64 t758) ∧ w'.cell? ⟨gb761, 3, none⟩ = some (.int .i64 t759)) (ds := []) (bs 22 0) (by kernel_rfl) rfl rfl ⟨(blk_cell BK769.out 0).trans rfl, (blk_cell BK769.out 1).trans rfl, (blk_cell BK769.out 2).trans rfl, (blk_cell BK769.out 3).trans rfl, (blk_cell BK769.out 4).trans rfl, (blk_cell BK761.out 0).trans rfl, (blk_cell BK761.out 1).trans rfl, (blk_cell BK761.out 2).trans rfl, (blk_cell BK761.out 3).trans rfl⟩ (fun hHeld => ?_); refine with_tabW F14.tab15 F14.bits15 (fun HT_ HW_ => ?_)
       generalize w107.drew = w109 at HO_744001 HO765 HO773 BK742 BK743 BK761 BK769 HB hHeld ⊢
       refine pu_ 0 73 (bs 22 1) HT_ ?_ rfl rfl
       refine tk_ 1 74 (bs 22 3) HT_ HW_ hHeld au6_24 ?_ rfl rfl
       refine pu_ 2 75 (bs 22 7) HT_ ?_ rfl rfl
       refine pu_ 3 76 (bs 22 15) HT_ ?_ rfl rfl
       refine pu_ 4 77 (bs 22 31) HT_ ?_ rfl rfl
       refine pu_ 6 79 (bs 22 95) HT_ ?_ rfl rfl
       refine pu_ 7 80 (bs 22 223) HT_ ?_ rfl rfl
       refine tk_ 5 78 (bs 22 255) HT_ HW_ hHeld au6_24 ?_ rfl rfl
       refine pu_ 8 81 (bs 22 511) HT_ ?_ rfl rfl
       refine pu_ 9 82 (bs 22 1023) HT_ ?_ rfl rfl
       refine pu_ 10 83 (bs 22 2047) HT_ ?_ rfl rfl
       refine pu_ 12 85 (bs 22 6143) HT_ ?_ rfl rfl
       refine pu_ 15 88 (bs 22 38911) HT_ ?_ rfl rfl
       refine pu_ 16 89 (bs 22 104447) HT_ ?_ rfl rfl
       refine tk_ 11 84 (bs 22 106495) HT_ HW_ hHeld au6_24 ?_ rfl rfl
       refine tk_ 13 86 (bs 22 114687) HT_ HW_ hHeld au6_24 ?_ rfl rfl
       refine tk_ 17 90 (bs 22 245759) HT_ HW_ hHeld au6_24 ?_ rfl rfl
       refine pu_ 18 91 (bs 22 507903) HT_ ?_ rfl rfl
       refine one_ (i := 14) (N := some 87) (bs 22 524287) rfl rfl (one_of HT_.out (by kernel_rfl)) (by decide) (fun K hK => ?_)
       refine gr_ Try.func39 #[.agg #[.int .i64 t756, .int .i64 t757, .int .i64 t758, .int .i64 t759], .agg #[.string t762, .slice Ao104 t763.length co104]] (by rfl) ?_ rfl rfl rfl
       with_reducible refine (F39.calls kj25 t756 t757 t758 t759 t762 _ _ t763 t777 _ ?s1 ?s2 A90.out).mono ?_
       (case s1 => repeat (first | exact (Kd.S_reads' HO765.out).2.2 | (with_reducible refine Kd.C_alloc ?_ _) | (with_reducible refine Kd.C_drewN ?_ _) | (with_reducible refine Kd.C_drew ?_)))
       (case s2 => exact (Kd.S_reads' HO765.out).2.1)
       rintro e w110 ⟨rfl, hb⟩
       refine ⟨_, rfl, ?_⟩
       replace HO_744001 := am_ (Kd.S_below au6_0 hb)
       replace HO765 := am_ (Kd.S_below au6_6 hb)
       replace HO773 := am_ (Kd.S_below (by (with_reducible repeat (first | apply Kd.S_alloc | apply Kd.S_drewN | apply Kd.S_drew)); exact HO773.out) hb)
       replace BK742 := bb_ BK742 hb
       replace BK743 := bb_ BK743 hb
       replace BK761 := bb_ BK761 hb
       replace BK769 := bb_ BK769 hb
       replace HB := hs_ w hb
       (try clear hb)
       (try clear hb2)
       (try clear hk)
       (try clear hi)
       refine hK.out _ _ ⟨(blk_cell BK769.out 0).trans rfl, (blk_cell BK769.out 1).trans rfl, (blk_cell BK769.out 2).trans rfl, (blk_cell BK769.out 3).trans rfl, (blk_cell BK769.out 4).trans rfl, (blk_cell BK761.out 0).trans rfl, (blk_cell BK761.out 1).trans rfl, (blk_cell BK761.out 2).trans rfl, (blk_cell BK761.out 3).trans rfl⟩ (fun hHeld => ?_)
       clear hK K
       refine no_ 87 ?_
       refine pu_ 19 92 (bs 22 1048575) HT_ ?_ rfl rfl
       refine pu_ 20 93 (bs 22 2097151) HT_ ?_ rfl rfl
       refine pu_ 21 4 (bs 22 4194303) HT_ ?_ rfl rfl
       refine done_ (done_of HT_.out (by kernel_rfl)) ?_
       try go_wp2
       go_ret
       exact ⟨au6_8, bl_⟩
/-- THE ONE PURE STATEMENT of F14: yours. -/
def F14.Pure : Prop := ∀ (l0 : List Int) (l1 : List Int), l0.length ≤ maxLen → l0.length * 1 ≤ 140737488351232 → (∀ x ∈ l0, (Lit.int .u8 x).wf = true) → l1.length ≤ maxLen → l1.length * 1 ≤ 140737488351232 → (∀ x ∈ l1, (Lit.int .u8 x).wf = true) → ∃ k, F14.f k l0 l1 = some true
theorem F14.walk (P : F14.Pure) (a0 : Option Addr) (len0 cap0 : Nat) (z0 : List Int) (a1 : Option Addr) (len1 cap1 : Nat) (z1 : List Int) (w : World) (w0 : (a0 = none ∧ len0 = 0 ∧ cap0 = 0 ∧ z0 = []) ∨ ∃ x, a0 = some x ∧ len0 ≤ cap0 ∧ cap0 ≤ maxLen ∧ z0.length = cap0 ∧ (∀ i, i < z0.length → w.cell? (x.add i) = some (.int .u8 (z0.getD i 0))) ∧ ∀ n ∈ z0, (Lit.int .u8 n).wf = true) (y0 : len0 * 1 ≤ 140737488351232) (w1 : (a1 = none ∧ len1 = 0 ∧ cap1 = 0 ∧ z1 = []) ∨ ∃ x, a1 = some x ∧ len1 ≤ cap1 ∧ cap1 ≤ maxLen ∧ z1.length = cap1 ∧ (∀ i, i < z1.length → w.cell? (x.add i) = some (.int .u8 (z1.getD i 0))) ∧ ∀ n ∈ z1, (Lit.int .u8 n).wf = true) (y1 : len1 * 1 ≤ 140737488351232) :
  Calls Try.prog 14 #[.slice a0 len0 cap0, .slice a1 len1 cap1] w fun e w' => e = .returned (.bool true) ∧ Below w.heap.size w w' := by
 obtain ⟨l0, rfl, hr0, hm0, hw0, hc0⟩ := ReadsInt.ofRowC w0
 obtain ⟨l1, rfl, hr1, hm1, hw1, hc1⟩ := ReadsInt.ofRowC w1
 obtain ⟨k, h⟩ := P l0 l1 hm0 y0 hw0 hm1 y1 hw1
 refine (F14.calls k _ _ l0 _ _ l1 true w (Kd.C_of_reads (d := (0 : Int)) (h1 := fun _ => rfl) hr0) hc0 (Kd.C_of_reads (d := (0 : Int)) (h1 := fun _ => rfl) hr1) hc1 h).mono ?_
 rintro e w' ⟨rfl, hd⟩
 exact ⟨rfl, hd⟩
end Go.Proofs.Ytchoalagkcdbhaa.PFnSegmentBack
