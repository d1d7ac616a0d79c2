-- printed by a program of this session (wip/xp/xprint.py) out of the translation; Lean checks it
import Derived.Test.YtchoalagkcdbhaaPFnExactSegmentsReadx0
import Derived.Test.YtchoalagkcdbhaaPFnExactSegmentsReadx1
namespace Go.Proofs.Ytchoalagkcdbhaa.PFnExactSegmentsRead
open Go.RowKit Go.Proofs.YtchoalagkcdbhaaW.PrintWords Go.Proofs.YtchoalagkcdbhaaW.PrintLast Go.Proofs.YtchoalagkcdbhaaW.PrintMore
attribute [local go_sem] max2_int min2_int max_two min_two max_three min_three max_four min_four   -- for this text's walks alone
set_option linter.unusedVariables false
set_option linter.unusedSimpArgs false
set_option maxHeartbeats 8000000
set_option maxRecDepth 100000

theorem au2_0 {p : Prop} (h : p := by (with_reducible repeat (first | apply Kd.S_alloc | apply Kd.S_drewN | apply Kd.S_drew)); exact HO_156001.out) : p := h
theorem au2_1 {p : Prop} (h : p := by first | exact Kd.own_blk (Kd.R_ne HO_11.out BK173.out (by decide)) | (rw [add_block]; exact Kd.own_blk (Kd.R_ne HO_11.out BK173.out (by decide))) | (show (Addr.add _ _).block ≠ _; rw [add_block]; exact Kd.own_blk (Kd.R_ne HO_11.out BK173.out (by decide))) | (dsimp only; exact Kd.own_blk (Kd.R_ne HO_11.out BK173.out (by decide)))) : p := h
theorem au2_2 {p : Prop} (h : p := by (with_reducible repeat (first | apply Kd.R_alloc | apply Kd.R_drewN | apply Kd.R_drew)); exact (Kd.R_mono (Kd.R_far (p := ⟨gb173, 2, none⟩) (Kd.R_far (p := ⟨gb173, 1, none⟩) (Kd.R_far (p := ⟨gb173, 0, none⟩) (Kd.R_types HO_11.out BK173.out (by decide)) (fun _ hk => hk.2) (.string t170)) (fun _ hk => hk.2) (.int .i64 t171)) (fun _ hk => hk.2) (.int .i64 t172)) (fun _ h_ => h_.1))) : p := h
theorem au2_3 {p : Prop} (h : p := by (with_reducible repeat (first | apply Kd.R_alloc | apply Kd.R_drewN | apply Kd.R_drew)); exact (Kd.R_mono (Kd.R_far (p := ⟨gb173, 2, none⟩) (Kd.R_far (p := ⟨gb173, 1, none⟩) (Kd.R_far (p := ⟨gb173, 0, none⟩) (Kd.R_types HO_7.out BK173.out (by decide)) (fun _ hk => hk.2) (.string t170)) (fun _ hk => hk.2) (.int .i64 t171)) (fun _ hk => hk.2) (.int .i64 t172)) (fun _ h_ => h_.1))) : p := h
theorem au2_4 {p : Prop} (h : p := by (with_reducible repeat (first | apply Kd.S_alloc | apply Kd.S_drewN | apply Kd.S_drew)); exact (Kd.S_mono (Kd.S_far (p := ⟨gb173, 2, none⟩) (Kd.S_far (p := ⟨gb173, 1, none⟩) (Kd.S_far (p := ⟨gb173, 0, none⟩) (Kd.S_types HO_156001.out BK173.out (by decide)) (fun _ hk => hk.2) (.string t170)) (fun _ hk => hk.2) (.int .i64 t171)) (fun _ hk => hk.2) (.int .i64 t172)) (fun _ h_ => h_.1))) : p := h
theorem au2_5 {p : Prop} (h : p := by (with_reducible repeat (first | apply Kd.R_alloc | apply Kd.R_drewN | apply Kd.R_drew)); exact (Kd.R_mono (Kd.R_far (p := ⟨gb173, 2, none⟩) (Kd.R_far (p := ⟨gb173, 1, none⟩) (Kd.R_far (p := ⟨gb173, 0, none⟩) (Kd.R_types HO_169000.out BK173.out (by decide)) (fun _ hk => hk.2) (.string t170)) (fun _ hk => hk.2) (.int .i64 t171)) (fun _ hk => hk.2) (.int .i64 t172)) (fun _ h_ => h_.1))) : p := h
theorem au2_6 {p : Prop} (h : p := by (with_reducible repeat (first | apply Kd.S_alloc | apply Kd.S_drewN | apply Kd.S_drew)); exact Kd.S_mono HO_156001.out (fun _ hk => ⟨hk.2.1, ⟨hk.2.2.1, ⟨hk.1, hk.2.2.2⟩⟩⟩)) : p := h
theorem au2_7 {p : Prop} (h : p := by (with_reducible repeat (first | apply Kd.R_alloc | apply Kd.R_drewN | apply Kd.R_drew)); exact Kd.R_mono HO_169000.out (fun _ hk => ⟨hk.2, hk.1⟩)) : p := h
theorem au2_8 {p : Prop} (h : p := by (with_reducible repeat (first | apply Kd.R_alloc | apply Kd.R_drewN | apply Kd.R_drew)); exact Kd.R_mono HO_11.out (fun _ hk => ⟨hk.2, hk.1⟩)) : p := h
theorem au2_9 {p : Prop} (h : p := by first | rfl | (simp [errW_none, errW_some] <;> rfl) | (simp [*, errW_none, errW_some] <;> rfl)) : p := h
theorem au2_10 {p : Prop} (h : p := by exact (by (with_reducible repeat (first | apply Kd.S_alloc | apply Kd.S_drewN | apply Kd.S_drew)); exact Kd.S_mono HO_156001.out (fun k_ hk => ⟨⟨hk.1, ⟨hk.2.1, hk.2.2.2⟩⟩, fun e_ => hk.2.2.1 e_⟩))) : p := h
theorem au2_11 {p : Prop} (h : p := by repeat (first | exact (Kd.R_reads' HO_169000.out).2.2 | (with_reducible refine Kd.C_alloc ?_ _) | (with_reducible refine Kd.C_drewN ?_ _) | (with_reducible refine Kd.C_drew ?_))) : p := h
theorem au2_12 {p : Prop} (h : p := by simp only [putAll, Act.put, List.setIfInBounds_toArray, List.set_cons_zero, List.set_cons_succ]) : p := h
theorem au2_13 {p : Prop} (h : p := by rintro w' ⟨s0, s1, s2, s3, s4⟩; go_simp; with_reducible rfl) : p := h
theorem au2_14 {p : Prop} (h : p := by have := HK1.out; have := HJ9.out; have := HK3.out; have := HJ42.out; have := HK5.out; omega) : p := h
theorem au2_15 {p : Prop} (h : p := by first | exact Kd.S_nil _ _ _ _ _ | exact Kd.N_nil _ _ _ _ _ | exact Kd.V_nil _ _ _ _ _ | exact Kd.Q_nil _ _ _ _ _ | exact Kd.R_nil _ _ _ _ _) : p := h
theorem au2_16 {p : Prop} (h : p := by first | rfl | (simp [errW_none, errW_some] <;> rfl) | (simp only [← hji128]; first | rfl | (simp [errW_none, errW_some] <;> rfl)) | (simp [*, errW_none, errW_some] <;> rfl)) : p := h
theorem au2_17 {p : Prop} (h : p := by rintro w' ⟨s0, s1, s2, s3⟩; go_simp; with_reducible rfl) : p := h
theorem au2_18 {p : Prop} (h : p := by (with_reducible repeat (first | apply Kd.R_alloc | apply Kd.R_drewN | apply Kd.R_drew)); exact Kd.R_mono HO160.out (fun _ hk => hk.2)) : p := h
theorem au2_19 {p : Prop} (h : p := by (with_reducible repeat (first | apply Kd.R_alloc | apply Kd.R_drewN | apply Kd.R_drew)); exact Kd.R_mono HO_7.out (fun _ hk => hk.2)) : p := h
theorem au2_20 {p : Prop} (h : p := by (with_reducible repeat (first | apply Kd.S_alloc | apply Kd.S_drewN | apply Kd.S_drew)); exact HO_156001.out) : p := h
theorem au2_21 {p : Prop} (h : p := by exact (Kd.R_reads' HO_169000.out).2.1) : p := h
theorem au2_22 {p : Prop} (h : p := by have := HK1.out; have := HJ9.out; have := HK3.out; first | omega | exact Nat.le_refl _) : p := h
theorem au2_23 {p : Prop} (h : p := by have := HK1.out; have := HJ9.out; omega) : p := h

/-! ### F87: function 87 -/
mutual
def F87.l0 : Nat → ByteArray → Int → Int → Int → Int → Int → Int → Option (ByteArray × (List (S102)) × Int × Int × Int)
  | 0, _, _, _, _, _, _, _ => none
  | k + 1, x1, x5, x6, x141000, x141001, x141002, x141003 => if x6 < (x1.size : Int) then (F87.j1 k x1 x5 x6 (decide (x5 < 0)) x141000 x141001 x141002 x141003) else (F87.j1 k x1 x5 x6 false x141000 x141001 x141002 x141003)
def F87.j1 : Nat → ByteArray → Int → Int → Bool → Int → Int → Int → Int → Option (ByteArray × (List (S102)) × Int × Int × Int)
  | 0, _, _, _, _, _, _, _, _ => none
  | k + 1, x1, x5, x6, x26, x141000, x141001, x141002, x141003 => if x26 = true then (if 0 ≤ x6 then (if x6 < (x1.size : Int) then (if (wrap64 (bt x1 x6)) = x141003 then (F87.l0 k x1 x5 (wrap64 ((wrap64 (x6 + 1)) + 1)) x141000 x141001 x141002 x141003) else (if (wrap64 (bt x1 x6)) = x141000 then (F87.l0 k x1 x6 (wrap64 (x6 + 1)) x141000 x141001 x141002 x141003) else (F87.l0 k x1 x5 (wrap64 (x6 + 1)) x141000 x141001 x141002 x141003))) else (none)) else (none)) else (if x5 < 0 then (some ((⟨#[]⟩ : ByteArray), ([] : List (S102)), 0, 0, 4)) else (if 0 ≤ x5 then (if x5 ≤ (x1.size : Int) then ((F68.f k x141000 x141001 x141002 x141003 (x1.extract 0 (x5 : Int).toNat) x141001).bind fun t142 => (if 0 < (t142.length : Int) then ((F75.f k (rdOf ByteArray.empty t142 0)).bind fun t146 => (if t146 = true then (F87.l1 k x5 t142 (wrap64 (((rdOf ByteArray.empty t142 0).size : Int) + 1)) 1 x141000 x141001 x141002 x141003 (rdOf ByteArray.empty t142 0) ([] : List (S102))) else ((F114.f 0).bind fun bt147 => (some (bt147.1, bt147.2.1, bt147.2.2.1, bt147.2.2.2.1, bt147.2.2.2.2))))) else (none))) else (none)) else (none)))
def F87.l1 : Nat → Int → List ByteArray → Int → Int → Int → Int → Int → Int → ByteArray → List (S102) → Option (ByteArray × (List (S102)) × Int × Int × Int)
  | 0, _, _, _, _, _, _, _, _, _, _ => none
  | k + 1, x5, x7, x9, x10, x141000, x141001, x141002, x141003, x156000, x156001 => if x10 < (x7.length : Int) then (if 0 ≤ x10 then ((F68.f k x141000 x141001 x141002 x141003 (rdOf ByteArray.empty x7 x10) x141002).bind fun t158 => (if x10 > 10 then (F87.j3 k x5 x7 x9 x10 t158 true x141000 x141001 x141002 x141003 x156000 x156001) else (F87.j3 k x5 x7 x9 x10 t158 (decide ((t158.length : Int) > 4)) x141000 x141001 x141002 x141003 x156000 x156001))) else (none)) else (some (x156000, x156001, wrap64 (x5 + 1), 0, 0))
def F87.j3 : Nat → Int → List ByteArray → Int → Int → List ByteArray → Bool → Int → Int → Int → Int → ByteArray → List (S102) → Option (ByteArray × (List (S102)) × Int × Int × Int)
  | 0, _, _, _, _, _, _, _, _, _, _, _, _ => none
  | k + 1, x5, x7, x9, x10, x11, x91, x141000, x141001, x141002, x141003, x156000, x156001 => if x91 = true then ((F114.f x9).bind fun bt161 => (some (bt161.1, bt161.2.1, bt161.2.2.1, bt161.2.2.2.1, bt161.2.2.2.2))) else (F87.l2 k x5 x7 x9 x10 x11 x9 0 x141000 x141001 x141002 x141003 x156000 x156001 ([] : List ByteArray))
def F87.l2 : Nat → Int → List ByteArray → Int → Int → List ByteArray → Int → Int → Int → Int → Int → Int → ByteArray → List (S102) → List ByteArray → Option (ByteArray × (List (S102)) × Int × Int × Int)
  | 0, _, _, _, _, _, _, _, _, _, _, _, _, _, _ => none
  | k + 1, x5, x7, x9, x10, x11, x13, x14, x141000, x141001, x141002, x141003, x156000, x156001, x169000 => if x14 < (x11.length : Int) then (if 0 ≤ x14 then ((F18.f k x141000 x141001 x141002 x141003 (rdOf ByteArray.empty x11 x14)).bind fun bt170 => (if bt170.2.2 = 0 then ((F76.f k bt170.1).bind fun t181 => (if t181 = true then (if x169000.length < 8796093022208 then (F87.l2 k x5 x7 x9 x10 x11 (wrap64 ((wrap64 (x13 + ((rdOf ByteArray.empty x11 x14).size : Int))) + 1)) (wrap64 (x14 + 1)) x141000 x141001 x141002 x141003 x156000 x156001 (x169000 ++ [bt170.1])) else (none)) else ((F114.f x13).bind fun bt186 => (some (bt186.1, bt186.2.1, bt186.2.2.1, bt186.2.2.2.1, bt186.2.2.2.2))))) else ((F114.f (wrap64 (x13 + bt170.2.1))).bind fun bt174 => (some (bt174.1, bt174.2.1, bt174.2.2.1, bt174.2.2.2.1, bt174.2.2.2.2))))) else (none)) else (if (x11.length : Int) > 1 then (if 0 ≤ (wrap64 ((x11.length : Int) - 1)) then (if (wrap64 ((x11.length : Int) - 1)) < (x11.length : Int) then (if (rdOf ByteArray.empty x11 (wrap64 ((x11.length : Int) - 1))).toList = ([] : List UInt8) then ((F114.f x9).bind fun bt194 => (some (bt194.1, bt194.2.1, bt194.2.2.1, bt194.2.2.2.1, bt194.2.2.2.2))) else (if x10 = (wrap64 ((x7.length : Int) - 1)) then ((F77.f x169000).bind fun t201 => (if t201 = true then ((F114.f x9).bind fun bt202 => (some (bt202.1, bt202.2.1, bt202.2.2.1, bt202.2.2.2.1, bt202.2.2.2.2))) else (if x156001.length < 5864062014805 then (if 0 ≤ x10 then (if x10 < (x7.length : Int) then (F87.l1 k x5 x7 (wrap64 ((wrap64 (x9 + ((rdOf ByteArray.empty x7 x10).size : Int))) + 1)) (wrap64 (x10 + 1)) x141000 x141001 x141002 x141003 x156000 (x156001 ++ [(⟨x169000⟩ : S102)])) else (none)) else (none)) else (none)))) else (if x156001.length < 5864062014805 then (if 0 ≤ x10 then (if x10 < (x7.length : Int) then (F87.l1 k x5 x7 (wrap64 ((wrap64 (x9 + ((rdOf ByteArray.empty x7 x10).size : Int))) + 1)) (wrap64 (x10 + 1)) x141000 x141001 x141002 x141003 x156000 (x156001 ++ [(⟨x169000⟩ : S102)])) else (none)) else (none)) else (none)))) else (none)) else (none)) else (if x10 = (wrap64 ((x7.length : Int) - 1)) then ((F77.f x169000).bind fun t217 => (if t217 = true then ((F114.f x9).bind fun bt218 => (some (bt218.1, bt218.2.1, bt218.2.2.1, bt218.2.2.2.1, bt218.2.2.2.2))) else (if x156001.length < 5864062014805 then (if 0 ≤ x10 then (if x10 < (x7.length : Int) then (F87.l1 k x5 x7 (wrap64 ((wrap64 (x9 + ((rdOf ByteArray.empty x7 x10).size : Int))) + 1)) (wrap64 (x10 + 1)) x141000 x141001 x141002 x141003 x156000 (x156001 ++ [(⟨x169000⟩ : S102)])) else (none)) else (none)) else (none)))) else (if x156001.length < 5864062014805 then (if 0 ≤ x10 then (if x10 < (x7.length : Int) then (F87.l1 k x5 x7 (wrap64 ((wrap64 (x9 + ((rdOf ByteArray.empty x7 x10).size : Int))) + 1)) (wrap64 (x10 + 1)) x141000 x141001 x141002 x141003 x156000 (x156001 ++ [(⟨x169000⟩ : S102)])) else (none)) else (none)) else (none))))
end
def F87.f (k : Nat) (a0_0 : Int) (a0_1 : Int) (a0_2 : Int) (a0_3 : Int) (a1 : ByteArray) : Option (ByteArray × (List (S102)) × Int × Int × Int) := if a1.toList = ([] : List UInt8) then (some ((⟨#[]⟩ : ByteArray), ([] : List (S102)), 0, 0, 6)) else (F87.l0 k a1 (-1) 0 a0_0 a0_1 a0_2 a0_3)
theorem F87.mono_l : ∀ k, (∀ y0 y1 y2 y3 y4 y5 y6, LeO (F87.l0 k y0 y1 y2 y3 y4 y5 y6) (F87.l0 (k + 1) y0 y1 y2 y3 y4 y5 y6)) ∧ (∀ y0 y1 y2 y3 y4 y5 y6 y7, LeO (F87.j1 k y0 y1 y2 y3 y4 y5 y6 y7) (F87.j1 (k + 1) y0 y1 y2 y3 y4 y5 y6 y7)) ∧ (∀ y0 y1 y2 y3 y4 y5 y6 y7 y8 y9, LeO (F87.l1 k y0 y1 y2 y3 y4 y5 y6 y7 y8 y9) (F87.l1 (k + 1) y0 y1 y2 y3 y4 y5 y6 y7 y8 y9)) ∧ (∀ y0 y1 y2 y3 y4 y5 y6 y7 y8 y9 y10 y11, LeO (F87.j3 k y0 y1 y2 y3 y4 y5 y6 y7 y8 y9 y10 y11) (F87.j3 (k + 1) y0 y1 y2 y3 y4 y5 y6 y7 y8 y9 y10 y11)) ∧ (∀ y0 y1 y2 y3 y4 y5 y6 y7 y8 y9 y10 y11 y12 y13, LeO (F87.l2 k y0 y1 y2 y3 y4 y5 y6 y7 y8 y9 y10 y11 y12 y13) (F87.l2 (k + 1) y0 y1 y2 y3 y4 y5 y6 y7 y8 y9 y10 y11 y12 y13))
 | 0 => ⟨fun _ _ _ _ _ _ _ r h => by simp [F87.l0] at h, fun _ _ _ _ _ _ _ _ r h => by simp [F87.j1] at h, fun _ _ _ _ _ _ _ _ _ _ r h => by simp [F87.l1] at h, fun _ _ _ _ _ _ _ _ _ _ _ _ r h => by simp [F87.j3] at h, fun _ _ _ _ _ _ _ _ _ _ _ _ _ _ r h => by simp [F87.l2] at h⟩
 | k + 1 => by
  obtain ⟨ih0, ih1, ih2, ih3, ih4⟩ := F87.mono_l k
  refine ⟨?_, ?_, ?_, ?_, ?_⟩
  rotate_left
  ·intro y0 y1 y2 y3 y4 y5 y6 y7
   unfold F87.j1
   repeat' with_reducible first | exact ih0 _ _ _ _ _ _ _ | exact ih1 _ _ _ _ _ _ _ _ | exact ih2 _ _ _ _ _ _ _ _ _ _ | exact ih3 _ _ _ _ _ _ _ _ _ _ _ _ | exact ih4 _ _ _ _ _ _ _ _ _ _ _ _ _ _ | exact F18.mono _ _ _ _ _ _ | exact F68.mono _ _ _ _ _ _ _ | exact F76.mono _ _ | exact F75.mono _ _ | exact LeO.refl _ | exact LeO.none _ | refine LeO.ite ?_ ?_ | refine LeO.bind ?_ (fun _ => ?_)
  ·intro y0 y1 y2 y3 y4 y5 y6 y7 y8 y9
   unfold F87.l1
   repeat' with_reducible first | exact ih0 _ _ _ _ _ _ _ | exact ih1 _ _ _ _ _ _ _ _ | exact ih2 _ _ _ _ _ _ _ _ _ _ | exact ih3 _ _ _ _ _ _ _ _ _ _ _ _ | exact ih4 _ _ _ _ _ _ _ _ _ _ _ _ _ _ | exact F18.mono _ _ _ _ _ _ | exact F68.mono _ _ _ _ _ _ _ | exact F76.mono _ _ | exact F75.mono _ _ | exact LeO.refl _ | exact LeO.none _ | refine LeO.ite ?_ ?_ | refine LeO.bind ?_ (fun _ => ?_)
  ·intro y0 y1 y2 y3 y4 y5 y6 y7 y8 y9 y10 y11
   unfold F87.j3
   repeat' with_reducible first | exact ih0 _ _ _ _ _ _ _ | exact ih1 _ _ _ _ _ _ _ _ | exact ih2 _ _ _ _ _ _ _ _ _ _ | exact ih3 _ _ _ _ _ _ _ _ _ _ _ _ | exact ih4 _ _ _ _ _ _ _ _ _ _ _ _ _ _ | exact F18.mono _ _ _ _ _ _ | exact F68.mono _ _ _ _ _ _ _ | exact F76.mono _ _ | exact F75.mono _ _ | exact LeO.refl _ | exact LeO.none _ | refine LeO.ite ?_ ?_ | refine LeO.bind ?_ (fun _ => ?_)
  ·intro y0 y1 y2 y3 y4 y5 y6 y7 y8 y9 y10 y11 y12 y13
   unfold F87.l2
   repeat' with_reducible first | exact ih0 _ _ _ _ _ _ _ | exact ih1 _ _ _ _ _ _ _ _ | exact ih2 _ _ _ _ _ _ _ _ _ _ | exact ih3 _ _ _ _ _ _ _ _ _ _ _ _ | exact ih4 _ _ _ _ _ _ _ _ _ _ _ _ _ _ | exact F18.mono _ _ _ _ _ _ | exact F68.mono _ _ _ _ _ _ _ | exact F76.mono _ _ | exact F75.mono _ _ | exact LeO.refl _ | exact LeO.none _ | refine LeO.ite ?_ ?_ | refine LeO.bind ?_ (fun _ => ?_)
  intro y0 y1 y2 y3 y4 y5 y6
  unfold F87.l0
  repeat' with_reducible first | exact ih0 _ _ _ _ _ _ _ | exact ih1 _ _ _ _ _ _ _ _ | exact ih2 _ _ _ _ _ _ _ _ _ _ | exact ih3 _ _ _ _ _ _ _ _ _ _ _ _ | exact ih4 _ _ _ _ _ _ _ _ _ _ _ _ _ _ | exact F18.mono _ _ _ _ _ _ | exact F68.mono _ _ _ _ _ _ _ | exact F76.mono _ _ | exact F75.mono _ _ | exact LeO.refl _ | exact LeO.none _ | refine LeO.ite ?_ ?_ | refine LeO.bind ?_ (fun _ => ?_)
theorem F87.mono : ∀ a0 a1 a2 a3 a4 k, LeO (F87.f k a0 a1 a2 a3 a4) (F87.f (k + 1) a0 a1 a2 a3 a4) := by
 intro a0 a1 a2 a3 a4 k
 obtain ⟨ih0, ih1, ih2, ih3, ih4⟩ := F87.mono_l k
 unfold F87.f
 repeat' with_reducible first | exact ih0 _ _ _ _ _ _ _ | exact ih1 _ _ _ _ _ _ _ _ | exact ih2 _ _ _ _ _ _ _ _ _ _ | exact ih3 _ _ _ _ _ _ _ _ _ _ _ _ | exact ih4 _ _ _ _ _ _ _ _ _ _ _ _ _ _ | exact F18.mono _ _ _ _ _ _ | exact F68.mono _ _ _ _ _ _ _ | exact F76.mono _ _ | exact F75.mono _ _ | exact LeO.refl _ | exact LeO.none _ | refine LeO.ite ?_ ?_ | refine LeO.bind ?_ (fun _ => ?_)
def F87.T13 : Bool × List (List Nat × List Nat) := (true, [([], []), ([], []), ([], []), ([1, 2], [1, 2]), ([], []), ([4], [4]), ([0, 3, 5], [0, 3, 5]), ([6, 6, 0, 1, 2, 3, 4, 5, 6], [6])])
def F87.B13 : List Nat := [0, 0, 0, 6, 0, 16, 63, 127]
theorem F87.tab13 : rtab .any (opsOf Try.f87 13) = F87.T13 := by kernel_rfl
theorem F87.bits13 : waitsOk F87.T13.2 F87.B13 = true := by kernel_rfl
def F87.T21 : Bool × List (List Nat × List Nat) := (true, [([], []), ([], []), ([], []), ([1, 2], [1, 2]), ([3], [3]), ([], []), ([5], [5]), ([0, 4, 6], [0, 4, 6]), ([7, 7, 0, 1, 2, 3, 4, 5, 6, 7], [7])])
def F87.B21 : List Nat := [0, 0, 0, 6, 14, 0, 32, 127, 255]
theorem F87.tab21 : rtab .any (opsOf Try.f87 21) = F87.T21 := by kernel_rfl
theorem F87.bits21 : waitsOk F87.T21.2 F87.B21 = true := by kernel_rfl
def F87.T29 : Bool × List (List Nat × List Nat) := (true, [([], []), ([], []), ([], []), ([1, 2], [1, 2]), ([3], [3]), ([0, 4], [0, 4]), ([], []), ([6, 5, 5, 0, 1, 2, 3, 4, 5, 6], [5, 6])])
def F87.B29 : List Nat := [0, 0, 0, 6, 14, 31, 0, 127]
theorem F87.tab29 : rtab .any (opsOf Try.f87 29) = F87.T29 := by kernel_rfl
theorem F87.bits29 : waitsOk F87.T29.2 F87.B29 = true := by kernel_rfl
theorem F87.calls (k : Nat) (a0_0 : Int) (a0_1 : Int) (a0_2 : Int) (a0_3 : Int) (a1 : ByteArray) (r1 : ByteArray) (r2 : List (S102)) (r3 : Int) (r4 : Int) (r5 : Int) (w : World) (h : F87.f k a0_0 a0_1 a0_2 a0_3 a1 = some (r1, r2, r3, r4, r5)) :
  Calls Try.prog 87 #[.agg #[.int .i64 a0_0, .int .i64 a0_1, .int .i64 a0_2, .int .i64 a0_3], .string a1] w fun e w' => ∃ v1_ : Value, e = .returned (.agg #[.string r1, v1_, .int .i64 r3, .int .i64 r4, .int .i64 r5]) ∧ Kd.S k102 102 w' w.heap.size (fun _ => True) v1_ r2 ∧ Below w.heap.size w w' := by
 have hu23 := Try.underlying23
 have hu66 := Try.underlying66
 have hu59 := Try.underlying59
 have hu102 := Try.underlying102
 have hu31 := Try.underlying31
 have HB := am_ (Below.refl w.heap.size w)
 have H : (if a1.toList = ([] : List UInt8) then (some ((⟨#[]⟩ : ByteArray), ([] : List (S102)), 0, 0, 6)) else (F87.l0 k a1 (-1) 0 a0_0 a0_1 a0_2 a0_3)) = some (r1, r2, r3, r4, r5) := h
 clear h
 by_cases c3 : a1.toList = ([] : List UInt8)
 ·rw [if_pos c3] at H
  have c3b0 : (a1.toList == ([] : List UInt8)) = true := beq_iff_eq.mpr c3
  have c3b1 : (a1.toList != ([] : List UInt8)) = false := bne_eq_false_iff_eq.mpr c3
  clear c3
  simp only [Option.some.injEq, Prod.mk.injEq] at H
  obtain ⟨rfl, rfl, rfl, rfl, rfl⟩ := H
  go_enter Try.func87, Try.ntmps87
  go_wp2_with (first | ((with_reducible refine gate_dst (N := 2) rfl ?_); (try (refine gate_guard (by rfl) ?_; dsimp only)); refine be_ 2 #[.int .i64 a0_0, .int .i64 a0_1, .int .i64 a0_2, .int .i64 a0_3] 23 ?_; intro gb140 hg w4 hbox hb; have BK140 := am_ (hbox); have GW140 := am_ (gw_ hg bl_); have GE140 := GW140; replace HB := hs_ w hb; clear hb hbox hg) | ((with_reducible refine gate_dst (N := 4) rfl ?_); (try (refine gate_guard (by rfl) ?_; dsimp only)); refine be_ 4 #[.string (⟨#[]⟩ : ByteArray), .slice none 0 0, .int .i64 0, .int .i64 0, .int .i64 0] 66 ?_; intro gb141 hg w5 hbox hb; have BK141 := am_ (hbox); have GW141 := am_ (gw_ hg bl_); have GE141 := GW141; replace HB := hs_ w hb; have NB140_141 := am_ (gn_ hg (blkl_ BK140)); have NB141_140 := am_ (gm_ hg (blkl_ BK140)); replace BK140 := bb_ BK140 hb; clear hb hbox hg; have hnb6 := NB141_140.out; have hnc6 := NB140_141.out; obtain ⟨hcz7_0, hcz7_1, hcz7_2, hcz7_3, hcz7_4, hfz7_0, hfz7_1, hfz7_2, hfz7_3, hfz7_4⟩ := cellsF5 BK141.out))
  refine bodyPost_ret (results_cell_row rfl _ _ gb141 66 #[.string (⟨#[]⟩ : ByteArray), .slice none 0 0, .int .i64 0, .int .i64 0, .int .i64 6] (0, 0) _ rfl (bq_ BK141) Try.underlying66 rfl (by kernel_rfl)) rfl ?_
  exact ⟨_, au2_9, au2_15, bl_⟩
 rw [if_neg c3] at H
 have c3b0 : (a1.toList == ([] : List UInt8)) = false := beq_eq_false_iff_ne.mpr c3
 have c3b1 : (a1.toList != ([] : List UInt8)) = true := bne_iff_ne.mpr c3
 have H' := am_ H
 clear H
 go_enter Try.func87, Try.ntmps87
 go_wp2_with (first | ((with_reducible refine gate_dst (N := 2) rfl ?_); (try (refine gate_guard (by rfl) ?_; dsimp only)); refine be_ 2 #[.int .i64 a0_0, .int .i64 a0_1, .int .i64 a0_2, .int .i64 a0_3] 23 ?_; intro gb140 hg w8 hbox hb; have BK140 := am_ (hbox); have GW140 := am_ (gw_ hg bl_); have GE140 := GW140; replace HB := hs_ w hb; clear hb hbox hg) | ((with_reducible refine gate_dst (N := 4) rfl ?_); (try (refine gate_guard (by rfl) ?_; dsimp only)); refine be_ 4 #[.string (⟨#[]⟩ : ByteArray), .slice none 0 0, .int .i64 0, .int .i64 0, .int .i64 0] 66 ?_; intro gb141 hg w9 hbox hb; have BK141 := am_ (hbox); have GW141 := am_ (gw_ hg bl_); have GE141 := GW141; replace HB := hs_ w hb; have NB140_141 := am_ (gn_ hg (blkl_ BK140)); have NB141_140 := am_ (gm_ hg (blkl_ BK140)); replace BK140 := bb_ BK140 hb; clear hb hbox hg))
 go_loopg [5, 6] k (fun kq v5 v6 w' => ∃ (x5_1 : Int) (x6_1 : Int), v5 = .int .i64 x5_1 ∧ v6 = .int .i64 x6_1 ∧ Aside0 (F87.l0 kq a1 x5_1 x6_1 a0_0 a0_1 a0_2 a0_3 = some (r1, r2, r3, r4, r5)) ∧ Aside0 (kq ≤ k) ∧ Aside0 (w'.heap[gb140]? = some (.cells #[.int .i64 a0_0, .int .i64 a0_1, .int .i64 a0_2, .int .i64 a0_3] 23 (0, 0))) ∧ Aside0 (w'.heap[gb141]? = some (.cells #[.string (⟨#[]⟩ : ByteArray), (.slice none 0 0), .int .i64 0, .int .i64 0, .int .i64 0] 66 (0, 0))) ∧ Aside0 (Below w.heap.size w w'))
 case atStart => exact ⟨((-1)), (0), er_, er_, H', ⟨Nat.le_refl _⟩, ⟨bk_ BK140⟩, ⟨bk_ BK141⟩, ⟨bl_⟩⟩
 case round =>
  clear H'
  try clear c3
  try clear c3b0
  try clear c3b1
  try clear hcz7_0 hcz7_1 hcz7_2 hcz7_3 hcz7_4
  try clear hfz7_0 hfz7_1 hfz7_2 hfz7_3 hfz7_4
  obtain ⟨x5_1, x6_1, rfl, rfl, HA, HK1, BK140, BK141, HB⟩ := hrel
  cases gk with
  | zero => exact absurd HA.out (by simp [F87.l0])
  | succ k1 =>
   have H := HA.out
   clear HA
   simp only [F87.l0] at H
   have HC10 := am_ H
   clear H
   go_upto_region 5 with (fail)
   go_cut [26] (fun v26 wc => ∃ (kq : Nat) (x26_9 : Bool), v26 = .bool x26_9 ∧ Aside0 (F87.j1 kq a1 x5_1 x6_1 x26_9 a0_0 a0_1 a0_2 a0_3 = some (r1, r2, r3, r4, r5)) ∧ Aside0 (kq ≤ k1) ∧ Aside0 (wc.heap[gb140]? = some (.cells #[.int .i64 a0_0, .int .i64 a0_1, .int .i64 a0_2, .int .i64 a0_3] 23 (0, 0))) ∧ Aside0 (wc.heap[gb141]? = some (.cells #[.string (⟨#[]⟩ : ByteArray), (.slice none 0 0), .int .i64 0, .int .i64 0, .int .i64 0] 66 (0, 0))) ∧ Aside0 (Below w.heap.size w wc))
   case first =>
    have H := HC10.out
    clear HC10
    replace H := it_ H; rcases H with ⟨c11b0, H⟩ | ⟨c11b0, H⟩
    rotate_left
    ·(first | rw [c11b0] | (simp only [i64_w, i32_w]; rw [c11b0]) | skip)
     have H' := am_ H
     clear H
     go_wp2
     go_meet
     case rel => exact ⟨_, (false), er_, H', ⟨by have := HK1.out; first | omega | exact Nat.le_refl _⟩, ⟨bk_ BK140⟩, ⟨bk_ BK141⟩, ⟨bl_⟩⟩
    (first | rw [c11b0] | (simp only [i64_w, i32_w]; rw [c11b0]) | skip)
    have H' := am_ H
    clear H
    go_wp2
    go_meet
    case rel => exact ⟨_, (decide (x5_1 < 0)), er_, H', ⟨by have := HK1.out; first | omega | exact Nat.le_refl _⟩, ⟨bk_ BK140⟩, ⟨bk_ BK141⟩, ⟨bl_⟩⟩
   case rest =>
    clear HC10
    try clear c3
    try clear c3b0
    try clear c3b1
    try clear c11b0
    try clear hcz7_0 hcz7_1 hcz7_2 hcz7_3 hcz7_4
    try clear hfz7_0 hfz7_1 hfz7_2 hfz7_3 hfz7_4
    obtain ⟨kq, x26_9, rfl, HA, HJ9, BK140, BK141, HB⟩ := hcut
    cases kq with
    | zero => exact absurd HA.out (by simp [F87.j1])
    | succ kj9 =>
     have H := HA.out
     clear HA
     simp only [F87.j1] at H
     replace H := ib_ H; rcases H with ⟨rfl, H⟩ | ⟨rfl, H⟩
     ·replace H := itn_ H; rcases H with ⟨c13b0, H⟩
      replace H := itn_ H; rcases H with ⟨c14b0, H⟩
      by_cases c16 : (wrap64 (bt a1 x6_1)) = a0_3
      ·rw [if_pos c16] at H
       have c16b0 : ((wrap64 (bt a1 x6_1)) == a0_3) = true := beq_iff_eq.mpr c16
       have c16b1 : ((wrap64 (bt a1 x6_1)) != a0_3) = false := bne_eq_false_iff_eq.mpr c16
       clear c16
       have H' := am_ H
       clear H
       try go_wp2
       replace BK140 := bd_ BK140
       replace BK141 := bd_ BK141
       replace HB := am_ (below_drew1 HB.out)
       have p15 : 0 ≤ (x6_1 : Int) := od_
       have q15 : x6_1 < (a1.size : Int) := od_
       have hx15 := bt_at a1 x6_1
       replace p15 := eq_true p15
       replace q15 := eq_true q15
       refine start_ (n := 7) (S := fun w' => w'.cell? ⟨gb140, 0, none⟩ = some (.int .i64 a0_0) ∧ w'.cell? ⟨gb140, 1, none⟩ = some (.int .i64 a0_1) ∧ w'.cell? ⟨gb140, 2, none⟩ = some (.int .i64 a0_2) ∧ w'.cell? ⟨gb140, 3, none⟩ = some (.int .i64 a0_3)) (ds := []) (bs 7 0) (by kernel_rfl) rfl rfl ⟨(blk_cell BK140.out 0).trans rfl, (blk_cell BK140.out 1).trans rfl, (blk_cell BK140.out 2).trans rfl, (blk_cell BK140.out 3).trans rfl⟩ (fun hHeld => ?_)
       generalize wc.drew = w17 at BK140 BK141 HB hHeld ⊢
       refine pk_ 0 29 (bs 7 1) ?_ rfl rfl
       refine pk_ 1 30 (bs 7 3) ?_ rfl rfl
       refine pk_ 4 33 (bs 7 19) ?_ rfl rfl
       refine take_ (i := 2) (N := some 31) (v := ?_) (a' := ?_) (bs 7 23) rfl rfl (by kernel_rfl) (fun _ _ _ h => h) (Or.inl ⟨by rfl, ?_⟩) hHeld ?_ ?_
       rotate_left
       ·rintro w' ⟨s0, s1, s2, s3⟩
        go_simp
        with_reducible rfl
       rotate_left
       ·simp only [Act.put, List.setIfInBounds_toArray, List.set_cons_zero, List.set_cons_succ, i64_w, i32_w]
        rfl
       refine pk_ 3 32 (bs 7 31) ?_ rfl rfl
       refine take_ (i := 5) (N := some 34) (v := ?_) (a' := ?_) (bs 7 63) rfl rfl (by kernel_rfl) (fun _ _ _ h => h) (Or.inl ⟨by rfl, ?_⟩) hHeld ?_ ?_
       rotate_left
       ·rintro w' ⟨s0, s1, s2, s3⟩
        go_simp
        with_reducible rfl
       rotate_left
       ·simp only [Act.put, List.setIfInBounds_toArray, List.set_cons_zero, List.set_cons_succ, i64_w, i32_w]
        rfl
       refine pk_ 6 35 (bs 7 127) ?_ rfl rfl
       refine done_ (by kernel_rfl) ?_
       try go_wp2
       go_roundg kj9
       case measure => have := HK1.out; have := HJ9.out; omega
       case rel => exact ⟨(x5_1), (wrap64 ((wrap64 (x6_1 + 1)) + 1)), er_, er_, H', ⟨au2_23⟩, ⟨bk_ BK140⟩, ⟨bk_ BK141⟩, ⟨bl_⟩⟩
      rw [if_neg c16] at H
      have c16b0 : ((wrap64 (bt a1 x6_1)) == a0_3) = false := beq_eq_false_iff_ne.mpr c16
      have c16b1 : ((wrap64 (bt a1 x6_1)) != a0_3) = true := bne_iff_ne.mpr c16
      by_cases c19 : (wrap64 (bt a1 x6_1)) = a0_0
      rotate_left
      ·rw [if_neg c19] at H
       have c19b0 : ((wrap64 (bt a1 x6_1)) == a0_0) = false := beq_eq_false_iff_ne.mpr c19
       have c19b1 : ((wrap64 (bt a1 x6_1)) != a0_0) = true := bne_iff_ne.mpr c19
       have H' := am_ H
       clear H
       try go_wp2
       replace BK140 := bd_ BK140
       replace BK141 := bd_ BK141
       replace HB := am_ (below_drew1 HB.out)
       have p15 : 0 ≤ (x6_1 : Int) := od_
       have q15 : x6_1 < (a1.size : Int) := od_
       have hx15 := bt_at a1 x6_1
       replace p15 := eq_true p15
       replace q15 := eq_true q15
       refine start_ (n := 7) (S := fun w' => w'.cell? ⟨gb140, 0, none⟩ = some (.int .i64 a0_0) ∧ w'.cell? ⟨gb140, 1, none⟩ = some (.int .i64 a0_1) ∧ w'.cell? ⟨gb140, 2, none⟩ = some (.int .i64 a0_2) ∧ w'.cell? ⟨gb140, 3, none⟩ = some (.int .i64 a0_3)) (ds := []) (bs 7 0) (by kernel_rfl) rfl rfl ⟨(blk_cell BK140.out 0).trans rfl, (blk_cell BK140.out 1).trans rfl, (blk_cell BK140.out 2).trans rfl, (blk_cell BK140.out 3).trans rfl⟩ (fun hHeld => ?_)
       generalize wc.drew = w22 at BK140 BK141 HB hHeld ⊢
       refine pk_ 0 29 (bs 7 1) ?_ rfl rfl
       refine pk_ 1 30 (bs 7 3) ?_ rfl rfl
       refine pk_ 4 33 (bs 7 19) ?_ rfl rfl
       refine take_ (i := 2) (N := some 31) (v := ?_) (a' := ?_) (bs 7 23) rfl rfl (by kernel_rfl) (fun _ _ _ h => h) (Or.inl ⟨by rfl, ?_⟩) hHeld ?_ ?_
       rotate_left
       ·rintro w' ⟨s0, s1, s2, s3⟩
        go_simp
        with_reducible rfl
       rotate_left
       ·simp only [Act.put, List.setIfInBounds_toArray, List.set_cons_zero, List.set_cons_succ, i64_w, i32_w]
        rfl
       refine pk_ 3 32 (bs 7 31) ?_ rfl rfl
       refine take_ (i := 5) (N := some 34) (v := ?_) (a' := ?_) (bs 7 63) rfl rfl (by kernel_rfl) (fun _ _ _ h => h) (Or.inl ⟨by rfl, ?_⟩) hHeld ?_ ?_
       rotate_left
       ·rintro w' ⟨s0, s1, s2, s3⟩
        go_simp
        with_reducible rfl
       rotate_left
       ·simp only [Act.put, List.setIfInBounds_toArray, List.set_cons_zero, List.set_cons_succ, i64_w, i32_w]
        rfl
       refine pk_ 6 35 (bs 7 127) ?_ rfl rfl
       refine done_ (by kernel_rfl) ?_
       try go_wp2
       replace BK140 := bd_ BK140
       replace BK141 := bd_ BK141
       replace HB := am_ (below_drew1 HB.out)
       have p18 : 0 ≤ (x6_1 : Int) := od_
       have q18 : x6_1 < (a1.size : Int) := od_
       have hx18 := bt_at a1 x6_1
       replace p18 := eq_true p18
       replace q18 := eq_true q18
       refine start_ (n := 7) (S := fun w' => w'.cell? ⟨gb140, 0, none⟩ = some (.int .i64 a0_0) ∧ w'.cell? ⟨gb140, 1, none⟩ = some (.int .i64 a0_1) ∧ w'.cell? ⟨gb140, 2, none⟩ = some (.int .i64 a0_2) ∧ w'.cell? ⟨gb140, 3, none⟩ = some (.int .i64 a0_3)) (ds := []) (bs 7 0) (by kernel_rfl) rfl rfl ⟨(blk_cell BK140.out 0).trans rfl, (blk_cell BK140.out 1).trans rfl, (blk_cell BK140.out 2).trans rfl, (blk_cell BK140.out 3).trans rfl⟩ (fun hHeld => ?_)
       generalize w22.drew = w23 at BK140 BK141 HB hHeld ⊢
       refine pk_ 0 38 (bs 7 1) ?_ rfl rfl
       refine pk_ 1 39 (bs 7 3) ?_ rfl rfl
       refine pk_ 4 42 (bs 7 19) ?_ rfl rfl
       refine take_ (i := 2) (N := some 40) (v := ?_) (a' := ?_) (bs 7 23) rfl rfl (by kernel_rfl) (fun _ _ _ h => h) (Or.inl ⟨by rfl, ?_⟩) hHeld ?_ ?_
       rotate_left
       ·rintro w' ⟨s0, s1, s2, s3⟩
        go_simp
        with_reducible rfl
       rotate_left
       ·simp only [Act.put, List.setIfInBounds_toArray, List.set_cons_zero, List.set_cons_succ, i64_w, i32_w]
        rfl
       refine pk_ 3 41 (bs 7 31) ?_ rfl rfl
       refine take_ (i := 5) (N := some 43) (v := ?_) (a' := ?_) (bs 7 63) rfl rfl (by kernel_rfl) (fun _ _ _ h => h) (Or.inl ⟨by rfl, ?_⟩) hHeld ?_ ?_
       rotate_left
       ·rintro w' ⟨s0, s1, s2, s3⟩
        go_simp
        with_reducible rfl
       rotate_left
       ·simp only [Act.put, List.setIfInBounds_toArray, List.set_cons_zero, List.set_cons_succ, i64_w, i32_w]
        rfl
       refine pk_ 6 44 (bs 7 127) ?_ rfl rfl
       refine done_ (by kernel_rfl) ?_
       try go_wp2
       go_roundg kj9
       case measure => have := HK1.out; have := HJ9.out; omega
       case rel => exact ⟨(x5_1), (wrap64 (x6_1 + 1)), er_, er_, H', ⟨au2_23⟩, ⟨bk_ BK140⟩, ⟨bk_ BK141⟩, ⟨bl_⟩⟩
      rw [if_pos c19] at H
      have c19b0 : ((wrap64 (bt a1 x6_1)) == a0_0) = true := beq_iff_eq.mpr c19
      have c19b1 : ((wrap64 (bt a1 x6_1)) != a0_0) = false := bne_eq_false_iff_eq.mpr c19
      clear c19
      have H' := am_ H
      clear H
      try go_wp2
      replace BK140 := bd_ BK140
      replace BK141 := bd_ BK141
      replace HB := am_ (below_drew1 HB.out)
      have p15 : 0 ≤ (x6_1 : Int) := od_
      have q15 : x6_1 < (a1.size : Int) := od_
      have hx15 := bt_at a1 x6_1
      replace p15 := eq_true p15
      replace q15 := eq_true q15
      refine start_ (n := 7) (S := fun w' => w'.cell? ⟨gb140, 0, none⟩ = some (.int .i64 a0_0) ∧ w'.cell? ⟨gb140, 1, none⟩ = some (.int .i64 a0_1) ∧ w'.cell? ⟨gb140, 2, none⟩ = some (.int .i64 a0_2) ∧ w'.cell? ⟨gb140, 3, none⟩ = some (.int .i64 a0_3)) (ds := []) (bs 7 0) (by kernel_rfl) rfl rfl ⟨(blk_cell BK140.out 0).trans rfl, (blk_cell BK140.out 1).trans rfl, (blk_cell BK140.out 2).trans rfl, (blk_cell BK140.out 3).trans rfl⟩ (fun hHeld => ?_)
      generalize wc.drew = w20 at BK140 BK141 HB hHeld ⊢
      refine pk_ 0 29 (bs 7 1) ?_ rfl rfl
      refine pk_ 1 30 (bs 7 3) ?_ rfl rfl
      refine pk_ 4 33 (bs 7 19) ?_ rfl rfl
      refine take_ (i := 2) (N := some 31) (v := ?_) (a' := ?_) (bs 7 23) rfl rfl (by kernel_rfl) (fun _ _ _ h => h) (Or.inl ⟨by rfl, ?_⟩) hHeld ?_ ?_
      rotate_left
      ·rintro w' ⟨s0, s1, s2, s3⟩
       go_simp
       with_reducible rfl
      rotate_left
      ·simp only [Act.put, List.setIfInBounds_toArray, List.set_cons_zero, List.set_cons_succ, i64_w, i32_w]
       rfl
      refine pk_ 3 32 (bs 7 31) ?_ rfl rfl
      refine take_ (i := 5) (N := some 34) (v := ?_) (a' := ?_) (bs 7 63) rfl rfl (by kernel_rfl) (fun _ _ _ h => h) (Or.inl ⟨by rfl, ?_⟩) hHeld ?_ ?_
      rotate_left
      ·rintro w' ⟨s0, s1, s2, s3⟩
       go_simp
       with_reducible rfl
      rotate_left
      ·simp only [Act.put, List.setIfInBounds_toArray, List.set_cons_zero, List.set_cons_succ, i64_w, i32_w]
       rfl
      refine pk_ 6 35 (bs 7 127) ?_ rfl rfl
      refine done_ (by kernel_rfl) ?_
      try go_wp2
      replace BK140 := bd_ BK140
      replace BK141 := bd_ BK141
      replace HB := am_ (below_drew1 HB.out)
      have p18 : 0 ≤ (x6_1 : Int) := od_
      have q18 : x6_1 < (a1.size : Int) := od_
      have hx18 := bt_at a1 x6_1
      replace p18 := eq_true p18
      replace q18 := eq_true q18
      refine start_ (n := 7) (S := fun w' => w'.cell? ⟨gb140, 0, none⟩ = some (.int .i64 a0_0) ∧ w'.cell? ⟨gb140, 1, none⟩ = some (.int .i64 a0_1) ∧ w'.cell? ⟨gb140, 2, none⟩ = some (.int .i64 a0_2) ∧ w'.cell? ⟨gb140, 3, none⟩ = some (.int .i64 a0_3)) (ds := []) (bs 7 0) (by kernel_rfl) rfl rfl ⟨(blk_cell BK140.out 0).trans rfl, (blk_cell BK140.out 1).trans rfl, (blk_cell BK140.out 2).trans rfl, (blk_cell BK140.out 3).trans rfl⟩ (fun hHeld => ?_)
      generalize w20.drew = w21 at BK140 BK141 HB hHeld ⊢
      refine pk_ 0 38 (bs 7 1) ?_ rfl rfl
      refine pk_ 1 39 (bs 7 3) ?_ rfl rfl
      refine pk_ 4 42 (bs 7 19) ?_ rfl rfl
      refine take_ (i := 2) (N := some 40) (v := ?_) (a' := ?_) (bs 7 23) rfl rfl (by kernel_rfl) (fun _ _ _ h => h) (Or.inl ⟨by rfl, ?_⟩) hHeld ?_ ?_
      rotate_left
      ·rintro w' ⟨s0, s1, s2, s3⟩
       go_simp
       with_reducible rfl
      rotate_left
      ·simp only [Act.put, List.setIfInBounds_toArray, List.set_cons_zero, List.set_cons_succ, i64_w, i32_w]
       rfl
      refine pk_ 3 41 (bs 7 31) ?_ rfl rfl
      refine take_ (i := 5) (N := some 43) (v := ?_) (a' := ?_) (bs 7 63) rfl rfl (by kernel_rfl) (fun _ _ _ h => h) (Or.inl ⟨by rfl, ?_⟩) hHeld ?_ ?_
      rotate_left
      ·rintro w' ⟨s0, s1, s2, s3⟩
       go_simp
       with_reducible rfl
      rotate_left
      ·simp only [Act.put, List.setIfInBounds_toArray, List.set_cons_zero, List.set_cons_succ, i64_w, i32_w]
       rfl
      refine pk_ 6 44 (bs 7 127) ?_ rfl rfl
      refine done_ (by kernel_rfl) ?_
      try go_wp2
      go_roundg kj9
      case measure => have := HK1.out; have := HJ9.out; omega
      case rel => exact ⟨(x6_1), (wrap64 (x6_1 + 1)), er_, er_, H', ⟨au2_23⟩, ⟨bk_ BK140⟩, ⟨bk_ BK141⟩, ⟨bl_⟩⟩
     replace H := it_ H; rcases H with ⟨c24b0, H⟩ | ⟨c24b0, H⟩
     ·simp only [Option.some.injEq, Prod.mk.injEq] at H
      obtain ⟨rfl, rfl, rfl, rfl, rfl⟩ := H
      have hnb25 := NB141_140.out
      have hnc25 := NB140_141.out
      obtain ⟨hcz26_0, hcz26_1, hcz26_2, hcz26_3, hcz26_4, hfz26_0, hfz26_1, hfz26_2, hfz26_3, hfz26_4⟩ := cellsF5 BK141.out
      go_wp2
      refine bodyPost_ret (results_cell_row rfl _ _ gb141 66 #[.string (⟨#[]⟩ : ByteArray), .slice none 0 0, .int .i64 0, .int .i64 0, .int .i64 4] (0, 0) _ rfl (bq_ BK141) Try.underlying66 rfl (by kernel_rfl)) rfl ?_
      exact ⟨_, au2_9, au2_15, bl_⟩
     by_cases c27 : 0 ≤ x5_1
     rotate_left
     ·rw [if_neg c27] at H
      exact absurd H (by simp)
     rw [if_pos c27] at H
     have c27b0 := eq_true c27
     have c27b1 : decide (0 ≤ x5_1) = true := decide_eq_true c27
     clear c27
     by_cases c28 : x5_1 ≤ (a1.size : Int)
     rotate_left
     ·rw [if_neg c28] at H
      exact absurd H (by simp)
     rw [if_pos c28] at H
     have c28b0 := eq_true c28
     have c28b1 : decide (x5_1 ≤ (a1.size : Int)) = true := decide_eq_true c28
     clear c28
     replace H := bi_ H; rcases H with ⟨t142, A29, H⟩
     replace H := itn_ H; rcases H with ⟨c30b0, H⟩
     have c30b1 : decide (0 < t142.length) = true := n2_ c30b0
     replace H := bi_ H; rcases H with ⟨t146, A31, H⟩
     replace H := ib_ H; rcases H with ⟨rfl, H⟩ | ⟨rfl, H⟩
     rotate_left
     ·replace H := bi_ H; rcases H with ⟨⟨t147, t148, t151, t152, t153⟩, A242, H⟩
      simp only [Option.some.injEq, Prod.mk.injEq] at H
      obtain ⟨rfl, rfl, rfl, rfl, rfl⟩ := H
      try go_wp2
      replace BK140 := bd_ BK140
      replace BK141 := bd_ BK141
      replace HB := am_ (below_drew1 HB.out)
      refine start_ (n := 8) (S := fun w' => w'.cell? ⟨gb140, 0, none⟩ = some (.int .i64 a0_0) ∧ w'.cell? ⟨gb140, 1, none⟩ = some (.int .i64 a0_1) ∧ w'.cell? ⟨gb140, 2, none⟩ = some (.int .i64 a0_2) ∧ w'.cell? ⟨gb140, 3, none⟩ = some (.int .i64 a0_3)) (ds := []) (bs 8 0) (by kernel_rfl) rfl rfl ⟨(blk_cell BK140.out 0).trans rfl, (blk_cell BK140.out 1).trans rfl, (blk_cell BK140.out 2).trans rfl, (blk_cell BK140.out 3).trans rfl⟩ (fun hHeld => ?_); refine with_tabW F87.tab13 F87.bits13 (fun HT_ HW_ => ?_)
      generalize wc.drew = w243 at BK140 BK141 HB hHeld ⊢
      refine pu_ 1 50 (bs 8 2) HT_ ?_ rfl rfl
      refine pu_ 2 51 (bs 8 6) HT_ ?_ rfl rfl
      refine pu_ 3 52 (bs 8 14) HT_ ?_ rfl rfl
      refine pu_ 4 53 (bs 8 30) HT_ ?_ rfl rfl
      refine tk_ 0 49 (bs 8 31) HT_ HW_ hHeld au2_17 ?_ rfl rfl
      refine tk_ 5 54 (bs 8 63) HT_ HW_ hHeld au2_17 ?_ rfl rfl
      refine one_ (i := 6) (N := some 55) (bs 8 127) rfl rfl (one_of HT_.out (by kernel_rfl)) (by decide) (fun K hK => ?_)
      refine gr_ Try.func68 #[.agg #[.int .i64 a0_0, .int .i64 a0_1, .int .i64 a0_2, .int .i64 a0_3], .string (a1.extract 0 (x5_1 : Int).toNat), .int .i64 a0_1] (by rfl) ?_ rfl rfl rfl
      with_reducible refine (F68.calls kj9 a0_0 a0_1 a0_2 a0_3 (a1.extract 0 (x5_1 : Int).toNat) a0_1 t142 _ A29.out).mono ?_
      rintro e w244 ⟨v143, rfl, ho0, hb⟩
      refine ⟨_, rfl, ?_⟩
      have HO144 := am_ (Kd.R_lower ho0 (below_size bl_))
      replace BK140 := bb_ BK140 hb
      replace BK141 := bb_ BK141 hb
      replace HB := hs_ w hb
      (try clear hb)
      (try clear hb2)
      (try clear hk)
      (try clear hi)
      (try clear ho0)
      refine hK.out _ _ ⟨(blk_cell BK140.out 0).trans rfl, (blk_cell BK140.out 1).trans rfl, (blk_cell BK140.out 2).trans rfl, (blk_cell BK140.out 3).trans rfl⟩ (fun hHeld => ?_)
      clear hK K
      refine no_ 55 ?_
      refine pu_ 7 7 (bs 8 255) HT_ ?_ rfl rfl
      refine done_ (done_of HT_.out (by kernel_rfl)) ?_
      obtain ⟨Ao245, co245, eo245⟩ := Kd.R_slice HO144.out
      subst eo245
      have p145 : 0 ≤ (0 : Int) := (by omega)
      have q145 : 0 < (t142.length : Int) := od_
      obtain ⟨ad145, e145, hx145_0⟩ := Kd.at_string (Kd.R_reads' HO144.out).2.2 0 p145 q145
      cases e145
      have qi145 : (0 < t142.length) = True := eq_true (by omega)
      (try rw [show ((0 : Int)).toNat = 0 from rfl] at hx145_0)
      (try rw [Addr.add_zero'] at hx145_0)
      replace p145 := eq_true p145
      replace q145 := eq_true q145
      try go_wp2_with (first | (go_at_call 75; (with_reducible refine (F75.calls kj9 (rdOf ByteArray.empty t142 0) false _ A31.out).mono ?_); rintro e w' ⟨rfl, ⟨nd, rfl⟩⟩; (try clear A31); (try (rw [drewN_self w244]; generalize hq_ : World.drewN w244 _ = w244; have n0_ : Aside0 (Kd.R Kd.string 9 w244 w.heap.size (fun _ => True) (.slice (some ad145) t142.length co245) t142) := ⟨by rw [← hq_]; exact (rk_ HO144)⟩; have n1_ : Aside0 (w244.heap[gb140]? = some (.cells #[.int .i64 a0_0, .int .i64 a0_1, .int .i64 a0_2, .int .i64 a0_3] 23 (0, 0))) := ⟨by rw [← hq_]; exact (bk_ BK140)⟩; have n2_ : Aside0 (w244.heap[gb141]? = some (.cells #[.string (⟨#[]⟩ : ByteArray), .slice none 0 0, .int .i64 0, .int .i64 0, .int .i64 0] 66 (0, 0))) := ⟨by rw [← hq_]; exact (bk_ BK141)⟩; have n3_ : Aside0 (Below w.heap.size w w244) := ⟨by rw [← hq_]; exact bl_⟩; clear HO144 BK140 BK141 HB hq_; have HO144 := n0_; have BK140 := n1_; have BK141 := n2_; have HB := n3_; clear n0_ n1_ n2_ n3_))) | (go_at_call 114; (with_reducible refine (F114.calls 0 t147 t148 t151 t152 t153 _ A242.out).mono ?_); rintro e w246 ⟨v149, rfl, ho0, hb⟩; (try clear A242); have HO150 := am_ (Kd.S_lower (Kd.S_new' ho0 (Kd.R_lt (rk_ HO144))) (below_size bl_)); replace HO144 := am_ (Kd.R_below (rk_ HO144) hb); replace BK140 := bb_ BK140 hb; replace BK141 := bb_ BK141 hb; replace HB := hs_ w hb; (try clear hb); (try clear ho0); have hnb247 := NB141_140.out; have hnc247 := NB140_141.out; obtain ⟨hcz248_0, hcz248_1, hcz248_2, hcz248_3, hcz248_4, hfz248_0, hfz248_1, hfz248_2, hfz248_3, hfz248_4⟩ := cellsF5 BK141.out; obtain ⟨Ao249, co249, eo249⟩ := Kd.S_slice HO150.out; subst eo249))
      refine bodyPost_ret (results_cell_row rfl _ _ gb141 66 #[.string t147, .slice Ao249 t148.length co249, .int .i64 t151, .int .i64 t152, .int .i64 t153] (0, 0) _ rfl (bq_ BK141) Try.underlying66 rfl (by kernel_rfl)) rfl ?_
      exact ⟨_, au2_9, by (with_reducible repeat (first | apply Kd.S_alloc | apply Kd.S_drewN | apply Kd.S_drew)); exact Kd.S_mono (Kd.S_far (p := ⟨gb141, 4, none⟩) (Kd.S_far (p := ⟨gb141, 3, none⟩) (Kd.S_far (p := ⟨gb141, 2, none⟩) (Kd.S_far (p := ⟨gb141, 1, none⟩) (Kd.S_far (p := ⟨gb141, 0, none⟩) (Kd.S_types HO150.out BK141.out (by decide)) (fun _ hk => hk.2) (.string t147)) (fun _ hk => hk.2) (.slice Ao249 t148.length co249)) (fun _ hk => hk.2) (.int .i64 t151)) (fun _ hk => hk.2) (.int .i64 t152)) (fun _ hk => hk.2) (.int .i64 t153)) (fun _ hk => trivial), bl_⟩
     have H' := am_ H
     clear H
     try go_wp2
     replace BK140 := bd_ BK140
     replace BK141 := bd_ BK141
     replace HB := am_ (below_drew1 HB.out)
     refine start_ (n := 8) (S := fun w' => w'.cell? ⟨gb140, 0, none⟩ = some (.int .i64 a0_0) ∧ w'.cell? ⟨gb140, 1, none⟩ = some (.int .i64 a0_1) ∧ w'.cell? ⟨gb140, 2, none⟩ = some (.int .i64 a0_2) ∧ w'.cell? ⟨gb140, 3, none⟩ = some (.int .i64 a0_3)) (ds := []) (bs 8 0) (by kernel_rfl) rfl rfl ⟨(blk_cell BK140.out 0).trans rfl, (blk_cell BK140.out 1).trans rfl, (blk_cell BK140.out 2).trans rfl, (blk_cell BK140.out 3).trans rfl⟩ (fun hHeld => ?_); refine with_tabW F87.tab13 F87.bits13 (fun HT_ HW_ => ?_)
     generalize wc.drew = w33 at BK140 BK141 HB hHeld ⊢
     refine pu_ 1 50 (bs 8 2) HT_ ?_ rfl rfl
     refine pu_ 2 51 (bs 8 6) HT_ ?_ rfl rfl
     refine pu_ 3 52 (bs 8 14) HT_ ?_ rfl rfl
     refine pu_ 4 53 (bs 8 30) HT_ ?_ rfl rfl
     refine tk_ 0 49 (bs 8 31) HT_ HW_ hHeld au2_17 ?_ rfl rfl
     refine tk_ 5 54 (bs 8 63) HT_ HW_ hHeld au2_17 ?_ rfl rfl
     refine one_ (i := 6) (N := some 55) (bs 8 127) rfl rfl (one_of HT_.out (by kernel_rfl)) (by decide) (fun K hK => ?_)
     refine gr_ Try.func68 #[.agg #[.int .i64 a0_0, .int .i64 a0_1, .int .i64 a0_2, .int .i64 a0_3], .string (a1.extract 0 (x5_1 : Int).toNat), .int .i64 a0_1] (by rfl) ?_ rfl rfl rfl
     with_reducible refine (F68.calls kj9 a0_0 a0_1 a0_2 a0_3 (a1.extract 0 (x5_1 : Int).toNat) a0_1 t142 _ A29.out).mono ?_
     rintro e w34 ⟨v143, rfl, ho0, hb⟩
     refine ⟨_, rfl, ?_⟩
     have HO144 := am_ (Kd.R_lower ho0 (below_size bl_))
     replace BK140 := bb_ BK140 hb
     replace BK141 := bb_ BK141 hb
     replace HB := hs_ w hb
     (try clear hb)
     (try clear hb2)
     (try clear hk)
     (try clear hi)
     (try clear ho0)
     refine hK.out _ _ ⟨(blk_cell BK140.out 0).trans rfl, (blk_cell BK140.out 1).trans rfl, (blk_cell BK140.out 2).trans rfl, (blk_cell BK140.out 3).trans rfl⟩ (fun hHeld => ?_)
     clear hK K
     refine no_ 55 ?_
     refine pu_ 7 7 (bs 8 255) HT_ ?_ rfl rfl
     refine done_ (done_of HT_.out (by kernel_rfl)) ?_
     obtain ⟨Ao35, co35, eo35⟩ := Kd.R_slice HO144.out
     subst eo35
     have p145 : 0 ≤ (0 : Int) := (by omega)
     have q145 : 0 < (t142.length : Int) := od_
     obtain ⟨ad145, e145, hx145_0⟩ := Kd.at_string (Kd.R_reads' HO144.out).2.2 0 p145 q145
     cases e145
     have qi145 : (0 < t142.length) = True := eq_true (by omega)
     (try rw [show ((0 : Int)).toNat = 0 from rfl] at hx145_0)
     (try rw [Addr.add_zero'] at hx145_0)
     replace p145 := eq_true p145
     replace q145 := eq_true q145
     try go_wp2_with (first | (go_at_call 75; (with_reducible refine (F75.calls kj9 (rdOf ByteArray.empty t142 0) true _ A31.out).mono ?_); rintro e w' ⟨rfl, ⟨nd, rfl⟩⟩; (try clear A31); (try (rw [drewN_self w34]; generalize hq_ : World.drewN w34 _ = w34; have n0_ : Aside0 (Kd.R Kd.string 9 w34 w.heap.size (fun _ => True) (.slice (some ad145) t142.length co35) t142) := ⟨by rw [← hq_]; exact (rk_ HO144)⟩; have n1_ : Aside0 (w34.heap[gb140]? = some (.cells #[.int .i64 a0_0, .int .i64 a0_1, .int .i64 a0_2, .int .i64 a0_3] 23 (0, 0))) := ⟨by rw [← hq_]; exact (bk_ BK140)⟩; have n2_ : Aside0 (w34.heap[gb141]? = some (.cells #[.string (⟨#[]⟩ : ByteArray), .slice none 0 0, .int .i64 0, .int .i64 0, .int .i64 0] 66 (0, 0))) := ⟨by rw [← hq_]; exact (bk_ BK141)⟩; have n3_ : Aside0 (Below w.heap.size w w34) := ⟨by rw [← hq_]; exact bl_⟩; clear HO144 BK140 BK141 HB hq_; have HO144 := n0_; have BK140 := n1_; have BK141 := n2_; have HB := n3_; clear n0_ n1_ n2_ n3_)); have p154 : 0 ≤ (0 : Int) := (by omega); have q154 : 0 < (t142.length : Int) := od_; obtain ⟨ad154, e154, hx154_0⟩ := Kd.at_string (Kd.R_reads' HO144.out).2.2 0 p154 q154; obtain rfl : ad145 = ad154 := (by injection e154); have qi154 : (0 < t142.length) = True := eq_true (by omega); (try rw [show ((0 : Int)).toNat = 0 from rfl] at hx154_0); (try rw [Addr.add_zero'] at hx154_0); replace p154 := eq_true p154; replace q154 := eq_true q154) | ((with_reducible refine gate_dst (N := 8) rfl ?_); (try (refine gate_guard (by rfl) ?_; dsimp only)); refine be_ 8 #[.string (⟨#[]⟩ : ByteArray), .slice none 0 0] 59 ?_; intro gb155 hg w36 hbox hb; replace HO144 := am_ (Kd.R_below (rk_ HO144) hb); have BK155 := am_ (hbox); have GW155 := am_ (gw_ hg bl_); have GE155 := GW155; replace HB := hs_ w hb; have NB140_155 := am_ (gn_ hg (blkl_ BK140)); have NB155_140 := am_ (gm_ hg (blkl_ BK140)); replace BK140 := bb_ BK140 hb; have NB141_155 := am_ (gn_ hg (blkl_ BK141)); have NB155_141 := am_ (gm_ hg (blkl_ BK141)); replace BK141 := bb_ BK141 hb; clear hb hbox hg; have hnb37 := NB155_140.out; have hnc37 := NB140_155.out; have hnb38 := NB155_141.out; have hnc38 := NB141_155.out; obtain ⟨hcz39_0, hcz39_1, hfz39_0, hfz39_1⟩ := cellsF2 BK155.out; have p156 : 0 ≤ (0 : Int) := (by omega); have q156 : 0 < (t142.length : Int) := od_; obtain ⟨ad156, e156, hx156_0⟩ := Kd.at_string (Kd.R_reads' HO144.out).2.2 0 p156 q156; obtain rfl : ad145 = ad156 := (by injection e156); have qi156 : (0 < t142.length) = True := eq_true (by omega); (try rw [show ((0 : Int)).toNat = 0 from rfl] at hx156_0); (try rw [Addr.add_zero'] at hx156_0); have hn156_0 : ad145.block ≠ gb155 := Kd.own_blk (Kd.R_ne HO144.out BK155.out (by decide)); have hn156_1 : ad145.block ≠ gb155 := Kd.own_blk (Kd.R_ne HO144.out BK155.out (by decide)); replace hx156_0 := (cell_far (p := ⟨gb155, 0, none⟩) (by first | (rw [add_block]; exact hn156_0) | (show (Addr.add _ _).block ≠ _; rw [add_block]; exact hn156_0) | exact hn156_0) (.string (rdOf ByteArray.empty t142 0))).trans hx156_0; replace hx156_0 := (cell_far (p := ⟨gb155, 1, none⟩) (by first | (rw [add_block]; exact hn156_1) | (show (Addr.add _ _).block ≠ _; rw [add_block]; exact hn156_1) | exact hn156_1) (.slice none 0 0)).trans hx156_0; clear hn156_0; clear hn156_1; replace p156 := eq_true p156; replace q156 := eq_true q156))
     go_loopg [9, 10] kj9 (fun kq v9 v10 w' => ∃ (x9_3 : Int) (x10_3 : Int) (x142000_3 : ByteArray) (x142002_3 : Int) (x142003_3 : Int) (x142004_3 : Int) (x156001_3 : List (S102)) (u156001 : Value), v9 = .int .i64 x9_3 ∧ v10 = .int .i64 x10_3 ∧ Aside0 (F87.l1 kq x5_1 t142 x9_3 x10_3 a0_0 a0_1 a0_2 a0_3 (rdOf ByteArray.empty t142 0) x156001_3 = some (r1, r2, r3, r4, r5)) ∧ Aside0 (kq ≤ kj9) ∧ Aside0 (Kd.R Kd.string 9 w' w.heap.size (fun _ => True) (.slice (some ad145) t142.length co35) t142) ∧ Aside0 (Kd.S k102 102 w' w.heap.size (fun k_ => some k_ ≠ ((.slice (some ad145) t142.length co35) : Value).ownBlock) u156001 x156001_3) ∧ Aside0 (w'.heap[gb140]? = some (.cells #[.int .i64 a0_0, .int .i64 a0_1, .int .i64 a0_2, .int .i64 a0_3] 23 (0, 0))) ∧ Aside0 (w'.heap[gb141]? = some (.cells #[.string x142000_3, (.slice none 0 0), .int .i64 x142002_3, .int .i64 x142003_3, .int .i64 x142004_3] 66 (0, 0))) ∧ Aside0 (w'.heap[gb155]? = some (.cells #[.string (rdOf ByteArray.empty t142 0), u156001] 59 (0, 0))) ∧ Aside0 (Below w.heap.size w w'))
     case atStart => exact ⟨(wrap64 (((rdOf ByteArray.empty t142 0).size : Int) + 1)), (1), ((⟨#[]⟩ : ByteArray)), (0), (0), (0), (([] : List (S102))), (.slice none 0 0), er_, er_, H', ⟨Nat.le_refl _⟩, ⟨by (with_reducible repeat (first | apply Kd.R_alloc | apply Kd.R_drewN | apply Kd.R_drew)); exact Kd.R_mono (Kd.R_far (p := ⟨gb155, 1, none⟩) (Kd.R_far (p := ⟨gb155, 0, none⟩) (Kd.R_types HO144.out BK155.out (by decide)) (fun _ hk => hk.2) (.string (rdOf ByteArray.empty t142 0))) (fun _ hk => hk.2) (.slice none 0 0)) (fun _ hk => trivial)⟩, ⟨au2_15⟩, ⟨bf_ BK140⟩, ⟨bf_ BK141⟩, ⟨bq_ BK155⟩, ⟨bl_⟩⟩
     case round =>
      clear H'
      try clear c3
      try clear c13b0
      try clear c14b0
      try clear p15
      try clear q15
      try clear hx15
      try clear c16
      try clear c16b0
      try clear c16b1
      try clear p18
      try clear q18
      try clear hx18
      try clear c19
      try clear c19b0
      try clear c19b1
      try clear c24b0
      try clear c27
      try clear c27b0
      try clear c27b1
      try clear c28
      try clear c28b0
      try clear c28b1
      try clear c30b0
      try clear c30b1
      try clear hcz26_0 hcz26_1 hcz26_2 hcz26_3 hcz26_4
      try clear hcz39_0 hcz39_1
      try clear hfz26_0 hfz26_1 hfz26_2 hfz26_3 hfz26_4
      try clear hfz39_0 hfz39_1
      try clear hx145_0
      try clear hx154_0
      try clear hx156_0
      try clear p145
      try clear p15
      try clear p154
      try clear p156
      try clear p18
      try clear q145
      try clear q15
      try clear q154
      try clear q156
      try clear q18
      obtain ⟨x9_3, x10_3, x142000_3, x142002_3, x142003_3, x142004_3, x156001_3, u156001, rfl, rfl, HA, HK3, HO_7, HO_156001, BK140, BK141, BK155, HB⟩ := hrel
      cases gk with
      | zero => exact absurd HA.out (by simp [F87.l1])
      | succ k3 =>
       have H := HA.out
       clear HA
       simp only [F87.l1] at H
       replace H := it_ H; rcases H with ⟨c40b0, H⟩ | ⟨c40b0, H⟩
       rotate_left
       ·simp only [Option.some.injEq, Prod.mk.injEq] at H
        obtain ⟨rfl, rfl, rfl, rfl, rfl⟩ := H
        have hnb236 := NB155_140.out
        have hnc236 := NB140_155.out
        have hnb237 := NB155_141.out
        have hnc237 := NB141_155.out
        obtain ⟨hcz238_0, hcz238_1, hfz238_0, hfz238_1⟩ := cellsF2 BK155.out
        obtain ⟨Ao239, co239, eo239⟩ := Kd.S_slice HO_156001.out
        subst eo239
        have hnb240 := NB141_140.out
        have hnc240 := NB140_141.out
        obtain ⟨hcz241_0, hcz241_1, hcz241_2, hcz241_3, hcz241_4, hfz241_0, hfz241_1, hfz241_2, hfz241_3, hfz241_4⟩ := cellsF5 BK141.out
        go_wp2
        refine bodyPost_ret (results_cell_row rfl _ _ gb141 66 #[.string (rdOf ByteArray.empty t142 0), .slice Ao239 x156001_3.length co239, .int .i64 (wrap64 (x5_1 + 1)), .int .i64 0, .int .i64 0] (0, 0) _ rfl (bq_ BK141) Try.underlying66 rfl (by kernel_rfl)) rfl ?_
        exact ⟨_, au2_9, by (with_reducible repeat (first | apply Kd.S_alloc | apply Kd.S_drewN | apply Kd.S_drew)); exact Kd.S_mono (Kd.S_far (p := ⟨gb141, 4, none⟩) (Kd.S_far (p := ⟨gb141, 3, none⟩) (Kd.S_far (p := ⟨gb141, 2, none⟩) (Kd.S_far (p := ⟨gb141, 1, none⟩) (Kd.S_far (p := ⟨gb141, 0, none⟩) (Kd.S_types HO_156001.out BK141.out (by decide)) (fun _ hk => hk.2) (.string (rdOf ByteArray.empty t142 0))) (fun _ hk => hk.2) (.slice Ao239 x156001_3.length co239)) (fun _ hk => hk.2) (.int .i64 (wrap64 (x5_1 + 1)))) (fun _ hk => hk.2) (.int .i64 0)) (fun _ hk => hk.2) (.int .i64 0)) (fun _ hk => trivial), bl_⟩
       replace H := itn_ H; rcases H with ⟨c41b0, H⟩
       replace H := bi_ H; rcases H with ⟨t158, A42, H⟩
       have HC43 := am_ H
       clear H
       try go_wp2
       replace HO_7 := am_ (Kd.R_drew HO_7.out)
       replace HO_156001 := am_ (Kd.S_drew HO_156001.out)
       replace BK140 := bd_ BK140
       replace BK141 := bd_ BK141
       replace BK155 := bd_ BK155
       replace HB := am_ (below_drew1 HB.out)
       have p157 : 0 ≤ (x10_3 : Int) := od_
       have q157 : x10_3 < (t142.length : Int) := od_
       obtain ⟨ad157, e157, hx157_0⟩ := Kd.at_string (Kd.R_reads' HO_7.out).2.2 x10_3 p157 q157
       obtain rfl : ad145 = ad157 := (by injection e157)
       replace p157 := eq_true p157
       replace q157 := eq_true q157
       refine start_ (n := 9) (S := fun w' => w'.cell? ⟨gb140, 0, none⟩ = some (.int .i64 a0_0) ∧ w'.cell? ⟨gb140, 1, none⟩ = some (.int .i64 a0_1) ∧ w'.cell? ⟨gb140, 2, none⟩ = some (.int .i64 a0_2) ∧ w'.cell? ⟨gb140, 3, none⟩ = some (.int .i64 a0_3) ∧ w'.cell? (ad145.add (x10_3).toNat) = some (.string (rdOf ByteArray.empty t142 x10_3))) (ds := []) (bs 9 0) (by kernel_rfl) rfl rfl ⟨(blk_cell BK140.out 0).trans rfl, (blk_cell BK140.out 1).trans rfl, (blk_cell BK140.out 2).trans rfl, (blk_cell BK140.out 3).trans rfl, hx157_0⟩ (fun hHeld => ?_); refine with_tabW F87.tab21 F87.bits21 (fun HT_ HW_ => ?_)
       generalize wr.drew = w44 at HO_7 HO_156001 BK140 BK141 BK155 HB hx157_0 hHeld ⊢
       refine pu_ 1 78 (bs 9 2) HT_ ?_ rfl rfl
       refine pu_ 2 79 (bs 9 6) HT_ ?_ rfl rfl
       refine pu_ 3 80 (bs 9 14) HT_ ?_ rfl rfl
       refine pu_ 5 82 (bs 9 46) HT_ ?_ rfl rfl
       refine tk_ 0 77 (bs 9 47) HT_ HW_ hHeld au2_13 ?_ rfl rfl
       refine tk_ 4 81 (bs 9 63) HT_ HW_ hHeld au2_13 ?_ rfl rfl
       refine tk_ 6 83 (bs 9 127) HT_ HW_ hHeld au2_13 ?_ rfl rfl
       refine one_ (i := 7) (N := some 84) (bs 9 255) rfl rfl (one_of HT_.out (by kernel_rfl)) (by decide) (fun K hK => ?_)
       refine gr_ Try.func68 #[.agg #[.int .i64 a0_0, .int .i64 a0_1, .int .i64 a0_2, .int .i64 a0_3], .string (rdOf ByteArray.empty t142 x10_3), .int .i64 a0_2] (by rfl) ?_ rfl rfl rfl
       with_reducible refine (F68.calls k3 a0_0 a0_1 a0_2 a0_3 (rdOf ByteArray.empty t142 x10_3) a0_2 t158 _ A42.out).mono ?_
       rintro e w45 ⟨v159, rfl, ho0, hb⟩
       have HS4_ := (hb.cell (World.block_lt_of_cell? _ _ (hHeld.2.2.2.2))).trans (hHeld.2.2.2.2)
       refine ⟨_, rfl, ?_⟩
       replace HO_156001 := am_ (Kd.S_elder' au2_0 (Kd.R_base ho0) hb)
       have HO160 := am_ (Kd.R_lower (Kd.R_new' ho0 (Kd.R_lt (rk_ HO_7))) (below_size bl_))
       replace HO_7 := am_ (Kd.R_elder' (rk_ HO_7) (Kd.R_base ho0) hb)
       replace BK140 := bb_ BK140 hb
       replace BK141 := bb_ BK141 hb
       replace BK155 := bb_ BK155 hb
       replace HB := hs_ w hb
       (try clear hb)
       (try clear hb2)
       (try clear hk)
       (try clear hi)
       (try clear ho0)
       refine hK.out _ _ ⟨(blk_cell BK140.out 0).trans rfl, (blk_cell BK140.out 1).trans rfl, (blk_cell BK140.out 2).trans rfl, (blk_cell BK140.out 3).trans rfl, HS4_⟩ (fun hHeld => ?_)
       clear hK K
       refine no_ 84 ?_
       refine pu_ 8 11 (bs 9 511) HT_ ?_ rfl rfl
       refine done_ (done_of HT_.out (by kernel_rfl)) ?_
       go_upto_region 22 with (fail)
       go_cut [91] (fun v91 wc => ∃ (kq : Nat) (x91_42 : Bool), v91 = .bool x91_42 ∧ Aside0 (F87.j3 kq x5_1 t142 x9_3 x10_3 t158 x91_42 a0_0 a0_1 a0_2 a0_3 (rdOf ByteArray.empty t142 0) x156001_3 = some (r1, r2, r3, r4, r5)) ∧ Aside0 (kq ≤ k3) ∧ Aside0 (Kd.R Kd.string 9 wc w.heap.size (fun k_ => some k_ ≠ (v159 : Value).ownBlock) (.slice (some ad145) t142.length co35) t142) ∧ Aside0 (Kd.R Kd.string 9 wc w.heap.size (fun k_ => some k_ ≠ ((.slice (some ad145) t142.length co35) : Value).ownBlock) v159 t158) ∧ Aside0 (Kd.S k102 102 wc w.heap.size (fun k_ => some k_ ≠ ((.slice (some ad145) t142.length co35) : Value).ownBlock ∧ some k_ ≠ (v159 : Value).ownBlock) u156001 x156001_3) ∧ Aside0 (wc.heap[gb140]? = some (.cells #[.int .i64 a0_0, .int .i64 a0_1, .int .i64 a0_2, .int .i64 a0_3] 23 (0, 0))) ∧ Aside0 (wc.heap[gb141]? = some (.cells #[.string x142000_3, (.slice none 0 0), .int .i64 x142002_3, .int .i64 x142003_3, .int .i64 x142004_3] 66 (0, 0))) ∧ Aside0 (wc.heap[gb155]? = some (.cells #[.string (rdOf ByteArray.empty t142 0), u156001] 59 (0, 0))) ∧ Aside0 (Below w.heap.size w wc))
       case first =>
        have H := HC43.out
        clear HC43
        replace H := it_ H; rcases H with ⟨(c46b0 : decide (10 < x10_3) = true), H⟩ | ⟨(c46b0 : decide (10 < x10_3) = false), H⟩
        ·(first | rw [c46b0] | (simp only [i64_w, i32_w]; rw [c46b0]) | skip)
         have H' := am_ H
         clear H
         go_wp2
         go_meet
         case rel => exact ⟨_, (true), er_, H', ⟨au2_22⟩, ⟨au2_19⟩, ⟨au2_18⟩, ⟨au2_20⟩, ⟨bk_ BK140⟩, ⟨bk_ BK141⟩, ⟨bk_ BK155⟩, ⟨bl_⟩⟩
        (first | rw [c46b0] | (simp only [i64_w, i32_w]; rw [c46b0]) | skip)
        have H' := am_ H
        clear H
        obtain ⟨Ao47, co47, eo47⟩ := Kd.R_slice HO160.out
        subst eo47
        go_wp2
        go_meet
        case rel => exact ⟨_, (decide ((t158.length : Int) > 4)), er_, H', ⟨au2_22⟩, ⟨au2_19⟩, ⟨au2_18⟩, ⟨au2_20⟩, ⟨bk_ BK140⟩, ⟨bk_ BK141⟩, ⟨bk_ BK155⟩, ⟨bl_⟩⟩
       case rest =>
        clear HC43
        try clear c3
        try clear c13b0
        try clear c14b0
        try clear p15
        try clear q15
        try clear hx15
        try clear c16
        try clear c16b0
        try clear c16b1
        try clear p18
        try clear q18
        try clear hx18
        try clear c19
        try clear c19b0
        try clear c19b1
        try clear c24b0
        try clear c27
        try clear c27b0
        try clear c27b1
        try clear c28
        try clear c28b0
        try clear c28b1
        try clear c30b0
        try clear c30b1
        try clear c40b0
        try clear c41b0
        try clear c46b0
        try clear hcz26_0 hcz26_1 hcz26_2 hcz26_3 hcz26_4
        try clear hcz39_0 hcz39_1
        try clear hfz26_0 hfz26_1 hfz26_2 hfz26_3 hfz26_4
        try clear hfz39_0 hfz39_1
        try clear hx145_0
        try clear hx154_0
        try clear hx156_0
        try clear hx157_0
        try clear p145
        try clear p15
        try clear p154
        try clear p156
        try clear p157
        try clear p18
        try clear q145
        try clear q15
        try clear q154
        try clear q156
        try clear q157
        try clear q18
        obtain ⟨kq, x91_42, rfl, HA, HJ42, HO_7, HO_11, HO_156001, BK140, BK141, BK155, HB⟩ := hcut
        cases kq with
        | zero => exact absurd HA.out (by simp [F87.j3])
        | succ kj42 =>
         have H := HA.out
         clear HA
         simp only [F87.j3] at H
         replace H := ib_ H; rcases H with ⟨rfl, H⟩ | ⟨rfl, H⟩
         ·replace H := bi_ H; rcases H with ⟨⟨t161, t162, t165, t166, t167⟩, A49, H⟩
          simp only [Option.some.injEq, Prod.mk.injEq] at H
          obtain ⟨rfl, rfl, rfl, rfl, rfl⟩ := H
          go_wp2_with (first | (go_at_call 114; (with_reducible refine (F114.calls x9_3 t161 t162 t165 t166 t167 _ A49.out).mono ?_); rintro e w50 ⟨v163, rfl, ho0, hb⟩; (try clear A49); have HO164 := am_ (Kd.S_lower (Kd.S_new' (Kd.S_new' (Kd.S_new' ho0 (Kd.R_lt (rk_ HO_7))) (Kd.R_lt (rk_ HO_11))) (Kd.S_lt au2_0)) (below_size bl_)); replace HO_7 := am_ (Kd.R_below (rk_ HO_7) hb); replace HO_11 := am_ (Kd.R_below (rk_ HO_11) hb); replace HO_156001 := am_ (Kd.S_elder' au2_0 (Kd.S_base ho0) hb); replace BK140 := bb_ BK140 hb; replace BK141 := bb_ BK141 hb; replace BK155 := bb_ BK155 hb; replace HB := hs_ w hb; (try clear hb); (try clear hb2); (try clear hk); (try clear hi); (try clear ho0); have hnb51 := NB141_140.out; have hnc51 := NB140_141.out; have hnb52 := NB141_155.out; have hnc52 := NB155_141.out; obtain ⟨hcz53_0, hcz53_1, hcz53_2, hcz53_3, hcz53_4, hfz53_0, hfz53_1, hfz53_2, hfz53_3, hfz53_4⟩ := cellsF5 BK141.out; obtain ⟨Ao54, co54, eo54⟩ := Kd.S_slice HO164.out; subst eo54))
          refine bodyPost_ret (results_cell_row rfl _ _ gb141 66 #[.string t161, .slice Ao54 t162.length co54, .int .i64 t165, .int .i64 t166, .int .i64 t167] (0, 0) _ rfl (bq_ BK141) Try.underlying66 rfl (by kernel_rfl)) rfl ?_
          exact ⟨_, au2_9, by (with_reducible repeat (first | apply Kd.S_alloc | apply Kd.S_drewN | apply Kd.S_drew)); exact Kd.S_mono (Kd.S_far (p := ⟨gb141, 4, none⟩) (Kd.S_far (p := ⟨gb141, 3, none⟩) (Kd.S_far (p := ⟨gb141, 2, none⟩) (Kd.S_far (p := ⟨gb141, 1, none⟩) (Kd.S_far (p := ⟨gb141, 0, none⟩) (Kd.S_types HO164.out BK141.out (by decide)) (fun _ hk => hk.2) (.string t161)) (fun _ hk => hk.2) (.slice Ao54 t162.length co54)) (fun _ hk => hk.2) (.int .i64 t165)) (fun _ hk => hk.2) (.int .i64 t166)) (fun _ hk => hk.2) (.int .i64 t167)) (fun _ hk => trivial), bl_⟩
         have H' := am_ H
         clear H
         go_wp2_with (first | ((with_reducible refine gate_dst (N := 12) rfl ?_); (try (refine gate_guard (by rfl) ?_; dsimp only)); refine be_ 12 #[.slice none 0 0] 102 ?_; intro gb168 hg w55 hbox hb; replace HO_7 := am_ (Kd.R_below (rk_ HO_7) hb); replace HO_11 := am_ (Kd.R_below (rk_ HO_11) hb); replace HO_156001 := am_ (Kd.S_below (Kd.S_elderB au2_0 gb168 (Nat.le_of_eq hg.symm)) hb); have BK168 := am_ (hbox); have GW168 := am_ (gw_ hg bl_); have GE168 := GW168; replace HB := hs_ w hb; have NB140_168 := am_ (gn_ hg (blkl_ BK140)); have NB168_140 := am_ (gm_ hg (blkl_ BK140)); replace BK140 := bb_ BK140 hb; have NB141_168 := am_ (gn_ hg (blkl_ BK141)); have NB168_141 := am_ (gm_ hg (blkl_ BK141)); replace BK141 := bb_ BK141 hb; have NB155_168 := am_ (gn_ hg (blkl_ BK155)); have NB168_155 := am_ (gm_ hg (blkl_ BK155)); replace BK155 := bb_ BK155 hb; clear hb hbox hg; have hnb56 := NB168_140.out; have hnc56 := NB140_168.out; have hnb57 := NB168_141.out; have hnc57 := NB141_168.out; have hnb58 := NB168_155.out; have hnc58 := NB155_168.out; have hcz59_0 : w55.cell? ⟨gb168, 0, none⟩ = some (.slice none 0 0) := (blk_cell BK168.out 0).trans rfl; have hfz59_0 := blk_frozen BK168.out 0))
         go_loopg [13, 14] kj42 (fun kq v13 v14 w' => ∃ (x13_5 : Int) (x14_5 : Int) (x142000_5 : ByteArray) (x142002_5 : Int) (x142003_5 : Int) (x142004_5 : Int) (x169000_5 : List ByteArray) (u169000 : Value), v13 = .int .i64 x13_5 ∧ v14 = .int .i64 x14_5 ∧ Aside0 (F87.l2 kq x5_1 t142 x9_3 x10_3 t158 x13_5 x14_5 a0_0 a0_1 a0_2 a0_3 (rdOf ByteArray.empty t142 0) x156001_3 x169000_5 = some (r1, r2, r3, r4, r5)) ∧ Aside0 (kq ≤ kj42) ∧ Aside0 (Kd.R Kd.string 9 w' w.heap.size (fun k_ => some k_ ≠ (v159 : Value).ownBlock ∧ some k_ ≠ (u169000 : Value).ownBlock) (.slice (some ad145) t142.length co35) t142) ∧ Aside0 (Kd.R Kd.string 9 w' w.heap.size (fun k_ => some k_ ≠ ((.slice (some ad145) t142.length co35) : Value).ownBlock ∧ some k_ ≠ (u169000 : Value).ownBlock) v159 t158) ∧ Aside0 (Kd.S k102 102 w' w.heap.size (fun k_ => some k_ ≠ ((.slice (some ad145) t142.length co35) : Value).ownBlock ∧ some k_ ≠ (v159 : Value).ownBlock ∧ some k_ ≠ (u169000 : Value).ownBlock ∧ k_ ≠ gb168) u156001 x156001_3) ∧ Aside0 (Kd.R Kd.string 9 w' w.heap.size (fun k_ => some k_ ≠ ((.slice (some ad145) t142.length co35) : Value).ownBlock ∧ some k_ ≠ (v159 : Value).ownBlock) u169000 x169000_5) ∧ Aside0 (w'.heap[gb140]? = some (.cells #[.int .i64 a0_0, .int .i64 a0_1, .int .i64 a0_2, .int .i64 a0_3] 23 (0, 0))) ∧ Aside0 (w'.heap[gb141]? = some (.cells #[.string x142000_5, (.slice none 0 0), .int .i64 x142002_5, .int .i64 x142003_5, .int .i64 x142004_5] 66 (0, 0))) ∧ Aside0 (w'.heap[gb155]? = some (.cells #[.string (rdOf ByteArray.empty t142 0), u156001] 59 (0, 0))) ∧ Aside0 (w'.heap[gb168]? = some (.cells #[u169000] 102 (0, 0))) ∧ Aside0 (Below w.heap.size w w'))
         case atStart => exact ⟨(x9_3), (0), (x142000_3), (x142002_3), (x142003_3), (x142004_3), (([] : List ByteArray)), (.slice none 0 0), er_, er_, H', ⟨Nat.le_refl _⟩, ⟨by (with_reducible repeat (first | apply Kd.R_alloc | apply Kd.R_drewN | apply Kd.R_drew)); exact Kd.R_mono (Kd.R_far (p := ⟨gb168, 0, none⟩) (Kd.R_types HO_7.out BK168.out (by decide)) (fun _ hk => hk.2) (.slice none 0 0)) (fun _ hk => ⟨hk.1, (by simp [Value.ownBlock])⟩)⟩, ⟨by (with_reducible repeat (first | apply Kd.R_alloc | apply Kd.R_drewN | apply Kd.R_drew)); exact Kd.R_mono (Kd.R_far (p := ⟨gb168, 0, none⟩) (Kd.R_types HO_11.out BK168.out (by decide)) (fun _ hk => hk.2) (.slice none 0 0)) (fun _ hk => ⟨hk.1, (by simp [Value.ownBlock])⟩)⟩, ⟨by (with_reducible repeat (first | apply Kd.S_alloc | apply Kd.S_drewN | apply Kd.S_drew)); exact Kd.S_mono (Kd.S_far (p := ⟨gb168, 0, none⟩) (Kd.S_mono HO_156001.out (fun k_ hk => (⟨hk, hk.2⟩ : _ ∧ k_ ≠ gb168))) (fun _ hk => hk.2) (.slice none 0 0)) (fun _ hk => ⟨hk.1.1.1, ⟨hk.1.1.2, ⟨(by simp [Value.ownBlock]), hk.1.2⟩⟩⟩)⟩, ⟨by first | exact Kd.R_nil _ _ _ _ _ | exact Kd.N_nil _ _ _ _ _ | exact Kd.V_nil _ _ _ _ _ | exact Kd.Q_nil _ _ _ _ _ | exact Kd.S_nil _ _ _ _ _⟩, ⟨bf_ BK140⟩, ⟨bf_ BK141⟩, ⟨bf_ BK155⟩, ⟨bq_ BK168⟩, ⟨bl_⟩⟩
         case round =>
          clear H'
          try clear c3
          try clear c13b0
          try clear c14b0
          try clear p15
          try clear q15
          try clear hx15
          try clear c16
          try clear c16b0
          try clear c16b1
          try clear p18
          try clear q18
          try clear hx18
          try clear c19
          try clear c19b0
          try clear c19b1
          try clear c24b0
          try clear c27
          try clear c27b0
          try clear c27b1
          try clear c28
          try clear c28b0
          try clear c28b1
          try clear c30b0
          try clear c30b1
          try clear c40b0
          try clear c41b0
          try clear c46b0
          try clear hcz26_0 hcz26_1 hcz26_2 hcz26_3 hcz26_4
          try clear hcz39_0 hcz39_1
          try clear hcz53_0 hcz53_1 hcz53_2 hcz53_3 hcz53_4
          try clear hcz59_0
          try clear hfz26_0 hfz26_1 hfz26_2 hfz26_3 hfz26_4
          try clear hfz39_0 hfz39_1
          try clear hfz53_0 hfz53_1 hfz53_2 hfz53_3 hfz53_4
          try clear hfz59_0
          try clear hx145_0
          try clear hx154_0
          try clear hx156_0
          try clear hx157_0
          try clear p145
          try clear p15
          try clear p154
          try clear p156
          try clear p157
          try clear p18
          try clear q145
          try clear q15
          try clear q154
          try clear q156
          try clear q157
          try clear q18
          obtain ⟨x13_5, x14_5, x142000_5, x142002_5, x142003_5, x142004_5, x169000_5, u169000, rfl, rfl, HA, HK5, HO_7, HO_11, HO_156001, HO_169000, BK140, BK141, BK155, BK168, HB⟩ := hrel
          cases gk with
          | zero => exact absurd HA.out (by simp [F87.l2])
          | succ k5 =>
           have H := HA.out
           clear HA
           simp only [F87.l2] at H
           replace H := it_ H; rcases H with ⟨c60b0, H⟩ | ⟨c60b0, H⟩
           rotate_left
           ·replace H := it_ H; rcases H with ⟨(c127b0 : decide (1 < (t158.length : Int)) = true), H⟩ | ⟨(c127b0 : decide (1 < (t158.length : Int)) = false), H⟩
            rotate_left
            ·have c127b1 : decide (1 < t158.length) = false := n2_ c127b0
             by_cases c188 : x10_3 = (wrap64 ((t142.length : Int) - 1))
             rotate_left
             ·rw [if_neg c188] at H
              have c188b0 : (x10_3 == (wrap64 ((t142.length : Int) - 1))) = false := beq_eq_false_iff_ne.mpr c188
              have c188b1 : (x10_3 != (wrap64 ((t142.length : Int) - 1))) = true := bne_iff_ne.mpr c188
              replace H := iln_ H; rcases H with ⟨LMc221, H⟩
              obtain ⟨y229, hy229⟩ : ∃ y_ : List (S102), y_ = (x156001_3 ++ [(⟨x169000_5⟩ : S102)]) := ⟨_, rfl⟩
              replace H : (if 0 ≤ x10_3 then (if x10_3 < (t142.length : Int) then (F87.l1 k5 x5_1 t142 (wrap64 ((wrap64 (x9_3 + ((rdOf ByteArray.empty t142 x10_3).size : Int))) + 1)) (wrap64 (x10_3 + 1)) a0_0 a0_1 a0_2 a0_3 (rdOf ByteArray.empty t142 0) y229) else (none)) else (none)) = some (r1, r2, r3, r4, r5) := by first | (rw [hy229]; exact H) | exact H
              have Ny229 := am_ hy229
              clear hy229
              replace H := itn_ H; rcases H with ⟨c222b0, H⟩
              replace H := itn_ H; rcases H with ⟨c223b0, H⟩
              have H' := am_ H
              clear H
              obtain ⟨Ao224, co224, eo224⟩ := Kd.R_slice HO_11.out
              subst eo224
              have hnb225 := NB155_140.out
              have hnc225 := NB140_155.out
              have hnb226 := NB155_141.out
              have hnc226 := NB141_155.out
              have hnb227 := NB155_168.out
              have hnc227 := NB168_155.out
              obtain ⟨hcz228_0, hcz228_1, hfz228_0, hfz228_1⟩ := cellsF2 BK155.out
              have hnb229 := NB168_140.out
              have hnc229 := NB140_168.out
              have hnb230 := NB168_141.out
              have hnc230 := NB141_168.out
              have hcz231_0 : wr.cell? ⟨gb168, 0, none⟩ = some (u169000) := (blk_cell BK168.out 0).trans rfl
              have hfz231_0 := blk_frozen BK168.out 0
              obtain ⟨Ao233, co233, eo233⟩ := Kd.R_slice HO_169000.out
              subst eo233
              go_wp2_with (first | ((with_reducible refine gate_builtin (b := .append) (xs := #[.tmp 163, .tmp 165]) rfl ?_); (try (refine gate_guard (by rfl) ?_; dsimp only)); at_builtin; refine Kd.S_append k102 (w0 := w) w.heap.size rfl (.tmp 163) (.tmp 165) 57 102 (.agg #[(.slice none 0 0)]) 24 rfl Try.underlying57 info102 rfl (by decide) (by omega) u156001 x156001_3 (⟨x169000_5⟩ : S102) [.slice Ao233 x169000_5.length co233] (fun k_ => some k_ ≠ (.slice (some ad145) t142.length co35 : Value).ownBlock ∧ some k_ ≠ (.slice Ao224 t158.length co224 : Value).ownBlock ∧ k_ ≠ gb168) (fun k_ => some k_ = (.slice Ao233 x169000_5.length co233 : Value).ownBlock) rfl rfl ?aP (fun k_ hk_ => ((Kd.R_mono (ok' := fun k_ => ((fun k_ => some k_ ≠ (.slice (some ad145) t142.length co35 : Value).ownBlock ∧ some k_ ≠ (.slice Ao224 t158.length co224 : Value).ownBlock ∧ k_ ≠ gb168)) k_ ∧ some k_ ≠ (u156001 : Value).ownBlock) (Kd.R_types (Kd.R_apart' (HO_169000.out) (Kd.S_typed HO_156001.out) (by decide)) BK168.out (by decide)) (fun k_ hk => ⟨⟨hk.1.1.1, ⟨hk.1.1.2, hk.2⟩⟩, hk.1.2⟩))).1 k_ hk_.symm) ?aF ?aO ?aB ?aS ?aL ?_; (case aP => exact k102_mkM _ _ _ (⟨x169000_5⟩ : S102) (Kd.R_mono (Kd.R_tight rfl (Kd.R_mono (ok' := fun k_ => ((fun k_ => some k_ ≠ (.slice (some ad145) t142.length co35 : Value).ownBlock ∧ some k_ ≠ (.slice Ao224 t158.length co224 : Value).ownBlock ∧ k_ ≠ gb168)) k_ ∧ some k_ ≠ (u156001 : Value).ownBlock) (Kd.R_types (Kd.R_apart' (HO_169000.out) (Kd.S_typed HO_156001.out) (by decide)) BK168.out (by decide)) (fun k_ hk => ⟨⟨hk.1.1.1, ⟨hk.1.1.2, hk.2⟩⟩, hk.1.2⟩))) (fun _ h_ => h_))); (case aB => exact bl_); (case aF => exact (fun k_ hk => ⟨Kd.fresh' (Kd.R_lt (rk_ HO_7)) k_ hk, Kd.fresh' (Kd.R_lt (rk_ HO_11)) k_ hk, Kd.freshB (g := gb168) (o := .cells #[.slice Ao233 x169000_5.length co233] 102 (0, 0)) (bk_ BK168) k_ hk⟩)); (case aO => exact au2_10); (case aS => exact (below_size bl_)); (case aL => have := LMc221.out; omega); intro v230 w232 ho hb hg hat; rw [← Ny229.out] at ho; have n0_ := am_ (Kd.R_over' (rk_ HO_7) (Kd.S_typed au2_0) (by decide) hg); have n1_ := am_ (Kd.R_over' (rk_ HO_11) (Kd.S_typed au2_0) (by decide) hg); have n2_ := am_ (bg_ BK140 hg (Kd.S_ne HO_156001.out BK140.out (by decide))); have n3_ := am_ (bg_ BK141 hg (Kd.S_ne HO_156001.out BK141.out (by decide))); have n4_ := am_ (bg_ BK155 hg (Kd.S_ne HO_156001.out BK155.out (by decide))); have n5_ := am_ (bg_ BK168 hg (Kd.S_away HO_156001.out (fun _ hk => hk.2.2.2))); have n6_ := am_ (hb); have n7_ := am_ (ho); clear HO_7; clear HO_11; clear BK140; clear BK141; clear BK155; clear BK168; clear HB; clear HO_156001; clear HO_169000; have HO_7 := n0_; have HO_11 := n1_; have BK140 := n2_; have BK141 := n3_; have BK155 := n4_; have BK168 := n5_; have HB := n6_; have HO231 := n7_; clear n0_ n1_ n2_ n3_ n4_ n5_ n6_ n7_; clear ho hb hg hat; obtain ⟨Ao234, co234, eo234⟩ := Kd.S_slice HO231.out; subst eo234; obtain ⟨hcz235_0, hcz235_1, hfz235_0, hfz235_1⟩ := cellsF2 BK155.out; have p232 : 0 ≤ (x10_3 : Int) := od_; have q232 : x10_3 < (t142.length : Int) := od_; obtain ⟨ad232, e232, hx232_0⟩ := Kd.at_string (Kd.R_reads' HO_7.out).2.2 x10_3 p232 q232; obtain rfl : ad145 = ad232 := (by injection e232); have hn232_0 : ad145.block ≠ gb155 := Kd.own_blk (Kd.R_ne HO_7.out BK155.out (by decide)); replace hx232_0 := (cell_far (p := ⟨gb155, 1, none⟩) (by first | (rw [add_block]; exact hn232_0) | (show (Addr.add _ _).block ≠ _; rw [add_block]; exact hn232_0) | exact hn232_0) (.slice Ao234 y229.length co234)).trans hx232_0; clear hn232_0; replace p232 := eq_true p232; replace q232 := eq_true q232))
              go_roundg k5
              case measure => have := HK1.out; have := HJ9.out; have := HK3.out; have := HJ42.out; have := HK5.out; omega
              case rel => exact ⟨(wrap64 ((wrap64 (x9_3 + ((rdOf ByteArray.empty t142 x10_3).size : Int))) + 1)), (wrap64 (x10_3 + 1)), (x142000_5), (x142002_5), (x142003_5), (x142004_5), (y229), (.slice Ao234 y229.length co234), er_, er_, H', ⟨au2_14⟩, ⟨by (with_reducible repeat (first | apply Kd.R_alloc | apply Kd.R_drewN | apply Kd.R_drew)); exact Kd.R_mono (Kd.R_far (p := ⟨gb155, 1, none⟩) (Kd.R_types HO_7.out BK155.out (by decide)) (fun _ hk => hk.2) (.slice Ao234 y229.length co234)) (fun _ hk => trivial)⟩, ⟨by (with_reducible repeat (first | apply Kd.S_alloc | apply Kd.S_drewN | apply Kd.S_drew)); exact Kd.S_mono (Kd.S_far (p := ⟨gb155, 1, none⟩) (Kd.S_types HO231.out BK155.out (by decide)) (fun _ hk => hk.2) (.slice Ao234 y229.length co234)) (fun _ hk => hk.1.1)⟩, ⟨bf_ BK140⟩, ⟨bf_ BK141⟩, ⟨bq_ BK155⟩, ⟨bl_⟩⟩
             rw [if_pos c188] at H
             have c188b0 : (x10_3 == (wrap64 ((t142.length : Int) - 1))) = true := beq_iff_eq.mpr c188
             have c188b1 : (x10_3 != (wrap64 ((t142.length : Int) - 1))) = false := bne_eq_false_iff_eq.mpr c188
             clear c188
             replace H := bi_ H; rcases H with ⟨t217, A189, H⟩
             replace H := ib_ H; rcases H with ⟨rfl, H⟩ | ⟨rfl, H⟩
             ·replace H := bi_ H; rcases H with ⟨⟨t218, t219, t222, t223, t224⟩, A191, H⟩
              simp only [Option.some.injEq, Prod.mk.injEq] at H
              obtain ⟨rfl, rfl, rfl, rfl, rfl⟩ := H
              obtain ⟨Ao192, co192, eo192⟩ := Kd.R_slice HO_11.out
              subst eo192
              have hnb193 := NB168_140.out
              have hnc193 := NB140_168.out
              have hnb194 := NB168_141.out
              have hnc194 := NB141_168.out
              have hnb195 := NB168_155.out
              have hnc195 := NB155_168.out
              have hcz196_0 : wr.cell? ⟨gb168, 0, none⟩ = some (u169000) := (blk_cell BK168.out 0).trans rfl
              have hfz196_0 := blk_frozen BK168.out 0
              obtain ⟨Ao197, co197, eo197⟩ := Kd.R_slice HO_169000.out
              subst eo197
              go_wp2_with (first | (go_at_call 77; (with_reducible refine (F77.calls _ _ x169000_5 true _ ?s1 ?s2 A189.out).mono ?_); (case s1 => exact au2_11); (case s2 => exact au2_21); rintro e w198 ⟨rfl, hb⟩; (try clear A189); replace HO_7 := am_ (Kd.R_below (rk_ HO_7) hb); replace HO_11 := am_ (Kd.R_below (rk_ HO_11) hb); replace HO_156001 := am_ (Kd.S_below au2_0 hb); replace HO_169000 := am_ (Kd.R_below (rk_ HO_169000) hb); replace BK140 := bb_ BK140 hb; replace BK141 := bb_ BK141 hb; replace BK155 := bb_ BK155 hb; replace BK168 := bb_ BK168 hb; replace HB := hs_ w hb; (try clear hb); (try clear hb2); (try clear hk); (try clear hi)) | (go_at_call 114; (with_reducible refine (F114.calls x9_3 t218 t219 t222 t223 t224 _ A191.out).mono ?_); rintro e w199 ⟨v220, rfl, ho0, hb⟩; (try clear A191); have HO221 := am_ (Kd.S_lower (Kd.S_newB (Kd.S_new' (Kd.S_new' (Kd.S_new' (Kd.S_new' ho0 (Kd.R_lt (rk_ HO_7))) (Kd.R_lt (rk_ HO_11))) (Kd.S_lt au2_0)) (Kd.R_lt (rk_ HO_169000))) (g := gb168) (o := .cells #[.slice Ao197 x169000_5.length co197] 102 (0, 0)) (bk_ BK168)) (below_size bl_)); replace HO_7 := am_ (Kd.R_below (rk_ HO_7) hb); replace HO_11 := am_ (Kd.R_below (rk_ HO_11) hb); replace HO_156001 := am_ (Kd.S_elder' au2_0 (Kd.S_base ho0) hb); replace HO_169000 := am_ (Kd.R_below (rk_ HO_169000) hb); replace BK140 := bb_ BK140 hb; replace BK141 := bb_ BK141 hb; replace BK155 := bb_ BK155 hb; replace BK168 := bb_ BK168 hb; replace HB := hs_ w hb; (try clear hb); (try clear hb2); (try clear hk); (try clear hi); (try clear ho0); have hnb200 := NB141_140.out; have hnc200 := NB140_141.out; have hnb201 := NB141_155.out; have hnc201 := NB155_141.out; obtain ⟨hcz202_0, hcz202_1, hcz202_2, hcz202_3, hcz202_4, hfz202_0, hfz202_1, hfz202_2, hfz202_3, hfz202_4⟩ := cellsF5 BK141.out; obtain ⟨Ao203, co203, eo203⟩ := Kd.S_slice HO221.out; subst eo203))
              refine bodyPost_ret (results_cell_row rfl _ _ gb141 66 #[.string t218, .slice Ao203 t219.length co203, .int .i64 t222, .int .i64 t223, .int .i64 t224] (0, 0) _ rfl (bq_ BK141) Try.underlying66 rfl (by kernel_rfl)) rfl ?_
              exact ⟨_, au2_9, by (with_reducible repeat (first | apply Kd.S_alloc | apply Kd.S_drewN | apply Kd.S_drew)); exact Kd.S_mono (Kd.S_far (p := ⟨gb141, 4, none⟩) (Kd.S_far (p := ⟨gb141, 3, none⟩) (Kd.S_far (p := ⟨gb141, 2, none⟩) (Kd.S_far (p := ⟨gb141, 1, none⟩) (Kd.S_far (p := ⟨gb141, 0, none⟩) (Kd.S_types HO221.out BK141.out (by decide)) (fun _ hk => hk.2) (.string t218)) (fun _ hk => hk.2) (.slice Ao203 t219.length co203)) (fun _ hk => hk.2) (.int .i64 t222)) (fun _ hk => hk.2) (.int .i64 t223)) (fun _ hk => hk.2) (.int .i64 t224)) (fun _ hk => trivial), bl_⟩
             replace H := iln_ H; rcases H with ⟨LMc204, H⟩
             obtain ⟨y225, hy225⟩ : ∃ y_ : List (S102), y_ = (x156001_3 ++ [(⟨x169000_5⟩ : S102)]) := ⟨_, rfl⟩
             replace H : (if 0 ≤ x10_3 then (if x10_3 < (t142.length : Int) then (F87.l1 k5 x5_1 t142 (wrap64 ((wrap64 (x9_3 + ((rdOf ByteArray.empty t142 x10_3).size : Int))) + 1)) (wrap64 (x10_3 + 1)) a0_0 a0_1 a0_2 a0_3 (rdOf ByteArray.empty t142 0) y225) else (none)) else (none)) = some (r1, r2, r3, r4, r5) := by first | (rw [hy225]; exact H) | exact H
             have Ny225 := am_ hy225
             clear hy225
             replace H := itn_ H; rcases H with ⟨c205b0, H⟩
             replace H := itn_ H; rcases H with ⟨c206b0, H⟩
             have H' := am_ H
             clear H
             obtain ⟨Ao207, co207, eo207⟩ := Kd.R_slice HO_11.out
             subst eo207
             have hnb208 := NB168_140.out
             have hnc208 := NB140_168.out
             have hnb209 := NB168_141.out
             have hnc209 := NB141_168.out
             have hnb210 := NB168_155.out
             have hnc210 := NB155_168.out
             have hcz211_0 : wr.cell? ⟨gb168, 0, none⟩ = some (u169000) := (blk_cell BK168.out 0).trans rfl
             have hfz211_0 := blk_frozen BK168.out 0
             obtain ⟨Ao212, co212, eo212⟩ := Kd.R_slice HO_169000.out
             subst eo212
             go_wp2_with (first | (go_at_call 77; (with_reducible refine (F77.calls _ _ x169000_5 false _ ?s1 ?s2 A189.out).mono ?_); (case s1 => exact au2_11); (case s2 => exact au2_21); rintro e w213 ⟨rfl, hb⟩; (try clear A189); replace HO_7 := am_ (Kd.R_below (rk_ HO_7) hb); replace HO_11 := am_ (Kd.R_below (rk_ HO_11) hb); replace HO_156001 := am_ (Kd.S_below au2_0 hb); replace HO_169000 := am_ (Kd.R_below (rk_ HO_169000) hb); replace BK140 := bb_ BK140 hb; replace BK141 := bb_ BK141 hb; replace BK155 := bb_ BK155 hb; replace BK168 := bb_ BK168 hb; replace HB := hs_ w hb; (try clear hb); (try clear hb2); (try clear hk); (try clear hi); have hnb214 := NB155_140.out; have hnc214 := NB140_155.out; have hnb215 := NB155_141.out; have hnc215 := NB141_155.out; obtain ⟨hcz216_0, hcz216_1, hfz216_0, hfz216_1⟩ := cellsF2 BK155.out; have hcz217_0 : w213.cell? ⟨gb168, 0, none⟩ = some (.slice Ao212 x169000_5.length co212) := (blk_cell BK168.out 0).trans rfl; have hfz217_0 := blk_frozen BK168.out 0) | ((with_reducible refine gate_builtin (b := .append) (xs := #[.tmp 163, .tmp 165]) rfl ?_); (try (refine gate_guard (by rfl) ?_; dsimp only)); at_builtin; refine Kd.S_append k102 (w0 := w) w.heap.size rfl (.tmp 163) (.tmp 165) 57 102 (.agg #[(.slice none 0 0)]) 24 rfl Try.underlying57 info102 rfl (by decide) (by omega) u156001 x156001_3 (⟨x169000_5⟩ : S102) [.slice Ao212 x169000_5.length co212] (fun k_ => some k_ ≠ (.slice (some ad145) t142.length co35 : Value).ownBlock ∧ some k_ ≠ (.slice Ao207 t158.length co207 : Value).ownBlock ∧ k_ ≠ gb168) (fun k_ => some k_ = (.slice Ao212 x169000_5.length co212 : Value).ownBlock) rfl rfl ?aP (fun k_ hk_ => ((Kd.R_mono (ok' := fun k_ => ((fun k_ => some k_ ≠ (.slice (some ad145) t142.length co35 : Value).ownBlock ∧ some k_ ≠ (.slice Ao207 t158.length co207 : Value).ownBlock ∧ k_ ≠ gb168)) k_ ∧ some k_ ≠ (u156001 : Value).ownBlock) (Kd.R_types (Kd.R_apart' (HO_169000.out) (Kd.S_typed HO_156001.out) (by decide)) BK168.out (by decide)) (fun k_ hk => ⟨⟨hk.1.1.1, ⟨hk.1.1.2, hk.2⟩⟩, hk.1.2⟩))).1 k_ hk_.symm) ?aF ?aO ?aB ?aS ?aL ?_; (case aP => exact k102_mkM _ _ _ (⟨x169000_5⟩ : S102) (Kd.R_mono (Kd.R_tight rfl (Kd.R_mono (ok' := fun k_ => ((fun k_ => some k_ ≠ (.slice (some ad145) t142.length co35 : Value).ownBlock ∧ some k_ ≠ (.slice Ao207 t158.length co207 : Value).ownBlock ∧ k_ ≠ gb168)) k_ ∧ some k_ ≠ (u156001 : Value).ownBlock) (Kd.R_types (Kd.R_apart' (HO_169000.out) (Kd.S_typed HO_156001.out) (by decide)) BK168.out (by decide)) (fun k_ hk => ⟨⟨hk.1.1.1, ⟨hk.1.1.2, hk.2⟩⟩, hk.1.2⟩))) (fun _ h_ => h_))); (case aB => exact bl_); (case aF => exact (fun k_ hk => ⟨Kd.fresh' (Kd.R_lt (rk_ HO_7)) k_ hk, Kd.fresh' (Kd.R_lt (rk_ HO_11)) k_ hk, Kd.freshB (g := gb168) (o := .cells #[.slice Ao212 x169000_5.length co212] 102 (0, 0)) (bk_ BK168) k_ hk⟩)); (case aO => exact au2_10); (case aS => exact (below_size bl_)); (case aL => have := LMc204.out; omega); intro v226 w218 ho hb hg hat; rw [← Ny225.out] at ho; have n0_ := am_ (Kd.R_over' (rk_ HO_7) (Kd.S_typed au2_0) (by decide) hg); have n1_ := am_ (Kd.R_over' (rk_ HO_11) (Kd.S_typed au2_0) (by decide) hg); have n2_ := am_ (bg_ BK140 hg (Kd.S_ne HO_156001.out BK140.out (by decide))); have n3_ := am_ (bg_ BK141 hg (Kd.S_ne HO_156001.out BK141.out (by decide))); have n4_ := am_ (bg_ BK155 hg (Kd.S_ne HO_156001.out BK155.out (by decide))); have n5_ := am_ (bg_ BK168 hg (Kd.S_away HO_156001.out (fun _ hk => hk.2.2.2))); have n6_ := am_ (hb); have n7_ := am_ (ho); clear HO_7; clear HO_11; clear BK140; clear BK141; clear BK155; clear BK168; clear HB; clear HO_156001; clear HO_169000; have HO_7 := n0_; have HO_11 := n1_; have BK140 := n2_; have BK141 := n3_; have BK155 := n4_; have BK168 := n5_; have HB := n6_; have HO227 := n7_; clear n0_ n1_ n2_ n3_ n4_ n5_ n6_ n7_; clear ho hb hg hat; obtain ⟨Ao219, co219, eo219⟩ := Kd.S_slice HO227.out; subst eo219; obtain ⟨hcz220_0, hcz220_1, hfz220_0, hfz220_1⟩ := cellsF2 BK155.out; have p228 : 0 ≤ (x10_3 : Int) := od_; have q228 : x10_3 < (t142.length : Int) := od_; obtain ⟨ad228, e228, hx228_0⟩ := Kd.at_string (Kd.R_reads' HO_7.out).2.2 x10_3 p228 q228; obtain rfl : ad145 = ad228 := (by injection e228); have hn228_0 : ad145.block ≠ gb155 := Kd.own_blk (Kd.R_ne HO_7.out BK155.out (by decide)); replace hx228_0 := (cell_far (p := ⟨gb155, 1, none⟩) (by first | (rw [add_block]; exact hn228_0) | (show (Addr.add _ _).block ≠ _; rw [add_block]; exact hn228_0) | exact hn228_0) (.slice Ao219 y225.length co219)).trans hx228_0; clear hn228_0; replace p228 := eq_true p228; replace q228 := eq_true q228))
             go_roundg k5
             case measure => have := HK1.out; have := HJ9.out; have := HK3.out; have := HJ42.out; have := HK5.out; omega
             case rel => exact ⟨(wrap64 ((wrap64 (x9_3 + ((rdOf ByteArray.empty t142 x10_3).size : Int))) + 1)), (wrap64 (x10_3 + 1)), (x142000_5), (x142002_5), (x142003_5), (x142004_5), (y225), (.slice Ao219 y225.length co219), er_, er_, H', ⟨au2_14⟩, ⟨by (with_reducible repeat (first | apply Kd.R_alloc | apply Kd.R_drewN | apply Kd.R_drew)); exact Kd.R_mono (Kd.R_far (p := ⟨gb155, 1, none⟩) (Kd.R_types HO_7.out BK155.out (by decide)) (fun _ hk => hk.2) (.slice Ao219 y225.length co219)) (fun _ hk => trivial)⟩, ⟨by (with_reducible repeat (first | apply Kd.S_alloc | apply Kd.S_drewN | apply Kd.S_drew)); exact Kd.S_mono (Kd.S_far (p := ⟨gb155, 1, none⟩) (Kd.S_types HO227.out BK155.out (by decide)) (fun _ hk => hk.2) (.slice Ao219 y225.length co219)) (fun _ hk => hk.1.1)⟩, ⟨bf_ BK140⟩, ⟨bf_ BK141⟩, ⟨bq_ BK155⟩, ⟨bl_⟩⟩
            have c127b1 : decide (1 < t158.length) = true := n2_ c127b0
            obtain ⟨ji128, hji128⟩ : ∃ j_ : Int, (wrap64 ((t158.length : Int) - 1)) = j_ := ⟨_, rfl⟩
            replace H : (if 0 ≤ (ji128) then (if (ji128) < (t158.length : Int) then (if (rdOf ByteArray.empty t158 (ji128)).toList = ([] : List UInt8) then ((F114.f x9_3).bind fun bt194 => (some (bt194.1, bt194.2.1, bt194.2.2.1, bt194.2.2.2.1, bt194.2.2.2.2))) else (if x10_3 = (wrap64 ((t142.length : Int) - 1)) then ((F77.f x169000_5).bind fun t201 => (if t201 = true then ((F114.f x9_3).bind fun bt202 => (some (bt202.1, bt202.2.1, bt202.2.2.1, bt202.2.2.2.1, bt202.2.2.2.2))) else (if x156001_3.length < 5864062014805 then (if 0 ≤ x10_3 then (if x10_3 < (t142.length : Int) then (F87.l1 k5 x5_1 t142 (wrap64 ((wrap64 (x9_3 + ((rdOf ByteArray.empty t142 x10_3).size : Int))) + 1)) (wrap64 (x10_3 + 1)) a0_0 a0_1 a0_2 a0_3 (rdOf ByteArray.empty t142 0) (x156001_3 ++ [(⟨x169000_5⟩ : S102)])) else (none)) else (none)) else (none)))) else (if x156001_3.length < 5864062014805 then (if 0 ≤ x10_3 then (if x10_3 < (t142.length : Int) then (F87.l1 k5 x5_1 t142 (wrap64 ((wrap64 (x9_3 + ((rdOf ByteArray.empty t142 x10_3).size : Int))) + 1)) (wrap64 (x10_3 + 1)) a0_0 a0_1 a0_2 a0_3 (rdOf ByteArray.empty t142 0) (x156001_3 ++ [(⟨x169000_5⟩ : S102)])) else (none)) else (none)) else (none)))) else (none)) else (none)) = some (r1, r2, r3, r4, r5) := by first | (rw [hji128] at H; exact H) | (simp only [hji128] at H ⊢; exact H)
            have hji128w : (IntKind.i64.wrap ((t158.length : Int) - 1)) = ji128 := (i64_w _).trans hji128
            replace H := itn_ H; rcases H with ⟨c129b0, H⟩
            replace H := itn_ H; rcases H with ⟨c130b0, H⟩
            by_cases c131 : (rdOf ByteArray.empty t158 (ji128)).toList = ([] : List UInt8)
            ·rw [if_pos c131] at H
             have c131b0 : ((rdOf ByteArray.empty t158 (ji128)).toList == ([] : List UInt8)) = true := beq_iff_eq.mpr c131
             have c131b1 : ((rdOf ByteArray.empty t158 (ji128)).toList != ([] : List UInt8)) = false := bne_eq_false_iff_eq.mpr c131
             clear c131
             replace H := bi_ H; rcases H with ⟨⟨t194, t195, t198, t199, t200⟩, A132, H⟩
             simp only [Option.some.injEq, Prod.mk.injEq] at H
             obtain ⟨rfl, rfl, rfl, rfl, rfl⟩ := H
             obtain ⟨Ao133, co133, eo133⟩ := Kd.R_slice HO_11.out
             subst eo133
             have p193 : 0 ≤ ((ji128) : Int) := od_
             have q193 : (ji128) < (t158.length : Int) := od_
             obtain ⟨ad193, e193, hx193_0⟩ := Kd.at_string (Kd.R_reads' HO_11.out).2.2 (ji128) p193 q193
             cases e193
             replace p193 := eq_true p193
             replace q193 := eq_true q193
             go_wp2_with (first | (go_at_call 114; (with_reducible refine (F114.calls x9_3 t194 t195 t198 t199 t200 _ A132.out).mono ?_); rintro e w134 ⟨v196, rfl, ho0, hb⟩; (try clear A132); have HO197 := am_ (Kd.S_lower (Kd.S_newB (Kd.S_new' (Kd.S_new' (Kd.S_new' (Kd.S_new' ho0 (Kd.R_lt (rk_ HO_7))) (Kd.R_lt (rk_ HO_11))) (Kd.S_lt au2_0)) (Kd.R_lt (rk_ HO_169000))) (g := gb168) (o := .cells #[u169000] 102 (0, 0)) (bk_ BK168)) (below_size bl_)); replace HO_7 := am_ (Kd.R_below (rk_ HO_7) hb); replace HO_11 := am_ (Kd.R_below (rk_ HO_11) hb); replace HO_156001 := am_ (Kd.S_elder' au2_0 (Kd.S_base ho0) hb); replace HO_169000 := am_ (Kd.R_below (rk_ HO_169000) hb); replace BK140 := bb_ BK140 hb; replace BK141 := bb_ BK141 hb; replace BK155 := bb_ BK155 hb; replace BK168 := bb_ BK168 hb; replace HB := hs_ w hb; (try clear hb); (try clear hb2); (try clear hk); (try clear hi); (try clear ho0); have hnb135 := NB141_140.out; have hnc135 := NB140_141.out; have hnb136 := NB141_155.out; have hnc136 := NB155_141.out; have hnb137 := NB141_168.out; have hnc137 := NB168_141.out; obtain ⟨hcz138_0, hcz138_1, hcz138_2, hcz138_3, hcz138_4, hfz138_0, hfz138_1, hfz138_2, hfz138_3, hfz138_4⟩ := cellsF5 BK141.out; obtain ⟨Ao139, co139, eo139⟩ := Kd.S_slice HO197.out; subst eo139))
             refine bodyPost_ret (results_cell_row rfl _ _ gb141 66 #[.string t194, .slice Ao139 t195.length co139, .int .i64 t198, .int .i64 t199, .int .i64 t200] (0, 0) _ rfl (bq_ BK141) Try.underlying66 rfl (by kernel_rfl)) rfl ?_
             exact ⟨_, au2_16, by (with_reducible repeat (first | apply Kd.S_alloc | apply Kd.S_drewN | apply Kd.S_drew)); exact Kd.S_mono (Kd.S_far (p := ⟨gb141, 4, none⟩) (Kd.S_far (p := ⟨gb141, 3, none⟩) (Kd.S_far (p := ⟨gb141, 2, none⟩) (Kd.S_far (p := ⟨gb141, 1, none⟩) (Kd.S_far (p := ⟨gb141, 0, none⟩) (Kd.S_types HO197.out BK141.out (by decide)) (fun _ hk => hk.2) (.string t194)) (fun _ hk => hk.2) (.slice Ao139 t195.length co139)) (fun _ hk => hk.2) (.int .i64 t198)) (fun _ hk => hk.2) (.int .i64 t199)) (fun _ hk => hk.2) (.int .i64 t200)) (fun _ hk => trivial), bl_⟩
            rw [if_neg c131] at H
            have c131b0 : ((rdOf ByteArray.empty t158 (ji128)).toList == ([] : List UInt8)) = false := beq_eq_false_iff_ne.mpr c131
            have c131b1 : ((rdOf ByteArray.empty t158 (ji128)).toList != ([] : List UInt8)) = true := bne_iff_ne.mpr c131
            by_cases c140 : x10_3 = (wrap64 ((t142.length : Int) - 1))
            rotate_left
            ·rw [if_neg c140] at H
             have c140b0 : (x10_3 == (wrap64 ((t142.length : Int) - 1))) = false := beq_eq_false_iff_ne.mpr c140
             have c140b1 : (x10_3 != (wrap64 ((t142.length : Int) - 1))) = true := bne_iff_ne.mpr c140
             replace H := iln_ H; rcases H with ⟨LMc173, H⟩
             obtain ⟨y213, hy213⟩ : ∃ y_ : List (S102), y_ = (x156001_3 ++ [(⟨x169000_5⟩ : S102)]) := ⟨_, rfl⟩
             replace H : (if 0 ≤ x10_3 then (if x10_3 < (t142.length : Int) then (F87.l1 k5 x5_1 t142 (wrap64 ((wrap64 (x9_3 + ((rdOf ByteArray.empty t142 x10_3).size : Int))) + 1)) (wrap64 (x10_3 + 1)) a0_0 a0_1 a0_2 a0_3 (rdOf ByteArray.empty t142 0) y213) else (none)) else (none)) = some (r1, r2, r3, r4, r5) := by first | (rw [hy213]; exact H) | exact H
             have Ny213 := am_ hy213
             clear hy213
             replace H := itn_ H; rcases H with ⟨c174b0, H⟩
             replace H := itn_ H; rcases H with ⟨c175b0, H⟩
             have H' := am_ H
             clear H
             obtain ⟨Ao176, co176, eo176⟩ := Kd.R_slice HO_11.out
             subst eo176
             have p193 : 0 ≤ ((ji128) : Int) := od_
             have q193 : (ji128) < (t158.length : Int) := od_
             obtain ⟨ad193, e193, hx193_0⟩ := Kd.at_string (Kd.R_reads' HO_11.out).2.2 (ji128) p193 q193
             cases e193
             replace p193 := eq_true p193
             replace q193 := eq_true q193
             have hnb177 := NB155_140.out
             have hnc177 := NB140_155.out
             have hnb178 := NB155_141.out
             have hnc178 := NB141_155.out
             have hnb179 := NB155_168.out
             have hnc179 := NB168_155.out
             obtain ⟨hcz180_0, hcz180_1, hfz180_0, hfz180_1⟩ := cellsF2 BK155.out
             have hnb181 := NB168_140.out
             have hnc181 := NB140_168.out
             have hnb182 := NB168_141.out
             have hnc182 := NB141_168.out
             have hcz183_0 : wr.cell? ⟨gb168, 0, none⟩ = some (u169000) := (blk_cell BK168.out 0).trans rfl
             have hfz183_0 := blk_frozen BK168.out 0
             obtain ⟨Ao185, co185, eo185⟩ := Kd.R_slice HO_169000.out
             subst eo185
             go_wp2_with (first | ((with_reducible refine gate_builtin (b := .append) (xs := #[.tmp 163, .tmp 165]) rfl ?_); (try (refine gate_guard (by rfl) ?_; dsimp only)); at_builtin; refine Kd.S_append k102 (w0 := w) w.heap.size rfl (.tmp 163) (.tmp 165) 57 102 (.agg #[(.slice none 0 0)]) 24 rfl Try.underlying57 info102 rfl (by decide) (by omega) u156001 x156001_3 (⟨x169000_5⟩ : S102) [.slice Ao185 x169000_5.length co185] (fun k_ => some k_ ≠ (.slice (some ad145) t142.length co35 : Value).ownBlock ∧ some k_ ≠ (.slice (some ad193) t158.length co176 : Value).ownBlock ∧ k_ ≠ gb168) (fun k_ => some k_ = (.slice Ao185 x169000_5.length co185 : Value).ownBlock) rfl rfl ?aP (fun k_ hk_ => ((Kd.R_mono (ok' := fun k_ => ((fun k_ => some k_ ≠ (.slice (some ad145) t142.length co35 : Value).ownBlock ∧ some k_ ≠ (.slice (some ad193) t158.length co176 : Value).ownBlock ∧ k_ ≠ gb168)) k_ ∧ some k_ ≠ (u156001 : Value).ownBlock) (Kd.R_types (Kd.R_apart' (HO_169000.out) (Kd.S_typed HO_156001.out) (by decide)) BK168.out (by decide)) (fun k_ hk => ⟨⟨hk.1.1.1, ⟨hk.1.1.2, hk.2⟩⟩, hk.1.2⟩))).1 k_ hk_.symm) ?aF ?aO ?aB ?aS ?aL ?_; (case aP => exact k102_mkM _ _ _ (⟨x169000_5⟩ : S102) (Kd.R_mono (Kd.R_tight rfl (Kd.R_mono (ok' := fun k_ => ((fun k_ => some k_ ≠ (.slice (some ad145) t142.length co35 : Value).ownBlock ∧ some k_ ≠ (.slice (some ad193) t158.length co176 : Value).ownBlock ∧ k_ ≠ gb168)) k_ ∧ some k_ ≠ (u156001 : Value).ownBlock) (Kd.R_types (Kd.R_apart' (HO_169000.out) (Kd.S_typed HO_156001.out) (by decide)) BK168.out (by decide)) (fun k_ hk => ⟨⟨hk.1.1.1, ⟨hk.1.1.2, hk.2⟩⟩, hk.1.2⟩))) (fun _ h_ => h_))); (case aB => exact bl_); (case aF => exact (fun k_ hk => ⟨Kd.fresh' (Kd.R_lt (rk_ HO_7)) k_ hk, Kd.fresh' (Kd.R_lt (rk_ HO_11)) k_ hk, Kd.freshB (g := gb168) (o := .cells #[.slice Ao185 x169000_5.length co185] 102 (0, 0)) (bk_ BK168) k_ hk⟩)); (case aO => exact au2_10); (case aS => exact (below_size bl_)); (case aL => have := LMc173.out; omega); intro v214 w184 ho hb hg hat; rw [← Ny213.out] at ho; have n0_ := am_ (Kd.R_over' (rk_ HO_7) (Kd.S_typed au2_0) (by decide) hg); have n1_ := am_ (Kd.R_over' (rk_ HO_11) (Kd.S_typed au2_0) (by decide) hg); have n2_ := am_ (bg_ BK140 hg (Kd.S_ne HO_156001.out BK140.out (by decide))); have n3_ := am_ (bg_ BK141 hg (Kd.S_ne HO_156001.out BK141.out (by decide))); have n4_ := am_ (bg_ BK155 hg (Kd.S_ne HO_156001.out BK155.out (by decide))); have n5_ := am_ (bg_ BK168 hg (Kd.S_away HO_156001.out (fun _ hk => hk.2.2.2))); have n6_ := am_ (hb); have n7_ := am_ (ho); clear HO_7; clear HO_11; clear BK140; clear BK141; clear BK155; clear BK168; clear HB; clear HO_156001; clear HO_169000; have HO_7 := n0_; have HO_11 := n1_; have BK140 := n2_; have BK141 := n3_; have BK155 := n4_; have BK168 := n5_; have HB := n6_; have HO215 := n7_; clear n0_ n1_ n2_ n3_ n4_ n5_ n6_ n7_; clear ho hb hg hat; obtain ⟨Ao186, co186, eo186⟩ := Kd.S_slice HO215.out; subst eo186; obtain ⟨hcz187_0, hcz187_1, hfz187_0, hfz187_1⟩ := cellsF2 BK155.out; have p216 : 0 ≤ (x10_3 : Int) := od_; have q216 : x10_3 < (t142.length : Int) := od_; obtain ⟨ad216, e216, hx216_0⟩ := Kd.at_string (Kd.R_reads' HO_7.out).2.2 x10_3 p216 q216; obtain rfl : ad145 = ad216 := (by injection e216); have hn216_0 : ad145.block ≠ gb155 := Kd.own_blk (Kd.R_ne HO_7.out BK155.out (by decide)); replace hx216_0 := (cell_far (p := ⟨gb155, 1, none⟩) (by first | (rw [add_block]; exact hn216_0) | (show (Addr.add _ _).block ≠ _; rw [add_block]; exact hn216_0) | exact hn216_0) (.slice Ao186 y213.length co186)).trans hx216_0; clear hn216_0; replace p216 := eq_true p216; replace q216 := eq_true q216))
             go_roundg k5
             case measure => have := HK1.out; have := HJ9.out; have := HK3.out; have := HJ42.out; have := HK5.out; omega
             case rel => exact ⟨(wrap64 ((wrap64 (x9_3 + ((rdOf ByteArray.empty t142 x10_3).size : Int))) + 1)), (wrap64 (x10_3 + 1)), (x142000_5), (x142002_5), (x142003_5), (x142004_5), (y213), (.slice Ao186 y213.length co186), er_, er_, H', ⟨au2_14⟩, ⟨by (with_reducible repeat (first | apply Kd.R_alloc | apply Kd.R_drewN | apply Kd.R_drew)); exact Kd.R_mono (Kd.R_far (p := ⟨gb155, 1, none⟩) (Kd.R_types HO_7.out BK155.out (by decide)) (fun _ hk => hk.2) (.slice Ao186 y213.length co186)) (fun _ hk => trivial)⟩, ⟨by (with_reducible repeat (first | apply Kd.S_alloc | apply Kd.S_drewN | apply Kd.S_drew)); exact Kd.S_mono (Kd.S_far (p := ⟨gb155, 1, none⟩) (Kd.S_types HO215.out BK155.out (by decide)) (fun _ hk => hk.2) (.slice Ao186 y213.length co186)) (fun _ hk => hk.1.1)⟩, ⟨bf_ BK140⟩, ⟨bf_ BK141⟩, ⟨bq_ BK155⟩, ⟨bl_⟩⟩
            rw [if_pos c140] at H
            have c140b0 : (x10_3 == (wrap64 ((t142.length : Int) - 1))) = true := beq_iff_eq.mpr c140
            have c140b1 : (x10_3 != (wrap64 ((t142.length : Int) - 1))) = false := bne_eq_false_iff_eq.mpr c140
            clear c140
            replace H := bi_ H; rcases H with ⟨t201, A141, H⟩
            replace H := ib_ H; rcases H with ⟨rfl, H⟩ | ⟨rfl, H⟩
            ·replace H := bi_ H; rcases H with ⟨⟨t202, t203, t206, t207, t208⟩, A143, H⟩
             simp only [Option.some.injEq, Prod.mk.injEq] at H
             obtain ⟨rfl, rfl, rfl, rfl, rfl⟩ := H
             obtain ⟨Ao144, co144, eo144⟩ := Kd.R_slice HO_11.out
             subst eo144
             have p193 : 0 ≤ ((ji128) : Int) := od_
             have q193 : (ji128) < (t158.length : Int) := od_
             obtain ⟨ad193, e193, hx193_0⟩ := Kd.at_string (Kd.R_reads' HO_11.out).2.2 (ji128) p193 q193
             cases e193
             replace p193 := eq_true p193
             replace q193 := eq_true q193
             have hnb145 := NB168_140.out
             have hnc145 := NB140_168.out
             have hnb146 := NB168_141.out
             have hnc146 := NB141_168.out
             have hnb147 := NB168_155.out
             have hnc147 := NB155_168.out
             have hcz148_0 : wr.cell? ⟨gb168, 0, none⟩ = some (u169000) := (blk_cell BK168.out 0).trans rfl
             have hfz148_0 := blk_frozen BK168.out 0
             obtain ⟨Ao149, co149, eo149⟩ := Kd.R_slice HO_169000.out
             subst eo149
             go_wp2_with (first | (go_at_call 77; (with_reducible refine (F77.calls _ _ x169000_5 true _ ?s1 ?s2 A141.out).mono ?_); (case s1 => exact au2_11); (case s2 => exact au2_21); rintro e w150 ⟨rfl, hb⟩; (try clear A141); replace HO_7 := am_ (Kd.R_below (rk_ HO_7) hb); replace HO_11 := am_ (Kd.R_below (rk_ HO_11) hb); replace HO_156001 := am_ (Kd.S_below au2_0 hb); replace HO_169000 := am_ (Kd.R_below (rk_ HO_169000) hb); replace BK140 := bb_ BK140 hb; replace BK141 := bb_ BK141 hb; replace BK155 := bb_ BK155 hb; replace BK168 := bb_ BK168 hb; replace HB := hs_ w hb; (try clear hb); (try clear hb2); (try clear hk); (try clear hi)) | (go_at_call 114; (with_reducible refine (F114.calls x9_3 t202 t203 t206 t207 t208 _ A143.out).mono ?_); rintro e w151 ⟨v204, rfl, ho0, hb⟩; (try clear A143); have HO205 := am_ (Kd.S_lower (Kd.S_newB (Kd.S_new' (Kd.S_new' (Kd.S_new' (Kd.S_new' ho0 (Kd.R_lt (rk_ HO_7))) (Kd.R_lt (rk_ HO_11))) (Kd.S_lt au2_0)) (Kd.R_lt (rk_ HO_169000))) (g := gb168) (o := .cells #[.slice Ao149 x169000_5.length co149] 102 (0, 0)) (bk_ BK168)) (below_size bl_)); replace HO_7 := am_ (Kd.R_below (rk_ HO_7) hb); replace HO_11 := am_ (Kd.R_below (rk_ HO_11) hb); replace HO_156001 := am_ (Kd.S_elder' au2_0 (Kd.S_base ho0) hb); replace HO_169000 := am_ (Kd.R_below (rk_ HO_169000) hb); replace BK140 := bb_ BK140 hb; replace BK141 := bb_ BK141 hb; replace BK155 := bb_ BK155 hb; replace BK168 := bb_ BK168 hb; replace HB := hs_ w hb; (try clear hb); (try clear hb2); (try clear hk); (try clear hi); (try clear ho0); have hnb152 := NB141_140.out; have hnc152 := NB140_141.out; have hnb153 := NB141_155.out; have hnc153 := NB155_141.out; obtain ⟨hcz154_0, hcz154_1, hcz154_2, hcz154_3, hcz154_4, hfz154_0, hfz154_1, hfz154_2, hfz154_3, hfz154_4⟩ := cellsF5 BK141.out; obtain ⟨Ao155, co155, eo155⟩ := Kd.S_slice HO205.out; subst eo155))
             refine bodyPost_ret (results_cell_row rfl _ _ gb141 66 #[.string t202, .slice Ao155 t203.length co155, .int .i64 t206, .int .i64 t207, .int .i64 t208] (0, 0) _ rfl (bq_ BK141) Try.underlying66 rfl (by kernel_rfl)) rfl ?_
             exact ⟨_, au2_16, by (with_reducible repeat (first | apply Kd.S_alloc | apply Kd.S_drewN | apply Kd.S_drew)); exact Kd.S_mono (Kd.S_far (p := ⟨gb141, 4, none⟩) (Kd.S_far (p := ⟨gb141, 3, none⟩) (Kd.S_far (p := ⟨gb141, 2, none⟩) (Kd.S_far (p := ⟨gb141, 1, none⟩) (Kd.S_far (p := ⟨gb141, 0, none⟩) (Kd.S_types HO205.out BK141.out (by decide)) (fun _ hk => hk.2) (.string t202)) (fun _ hk => hk.2) (.slice Ao155 t203.length co155)) (fun _ hk => hk.2) (.int .i64 t206)) (fun _ hk => hk.2) (.int .i64 t207)) (fun _ hk => hk.2) (.int .i64 t208)) (fun _ hk => trivial), bl_⟩
            replace H := iln_ H; rcases H with ⟨LMc156, H⟩
            obtain ⟨y209, hy209⟩ : ∃ y_ : List (S102), y_ = (x156001_3 ++ [(⟨x169000_5⟩ : S102)]) := ⟨_, rfl⟩
            replace H : (if 0 ≤ x10_3 then (if x10_3 < (t142.length : Int) then (F87.l1 k5 x5_1 t142 (wrap64 ((wrap64 (x9_3 + ((rdOf ByteArray.empty t142 x10_3).size : Int))) + 1)) (wrap64 (x10_3 + 1)) a0_0 a0_1 a0_2 a0_3 (rdOf ByteArray.empty t142 0) y209) else (none)) else (none)) = some (r1, r2, r3, r4, r5) := by first | (rw [hy209]; exact H) | exact H
            have Ny209 := am_ hy209
            clear hy209
            replace H := itn_ H; rcases H with ⟨c157b0, H⟩
            replace H := itn_ H; rcases H with ⟨c158b0, H⟩
            have H' := am_ H
            clear H
            obtain ⟨Ao159, co159, eo159⟩ := Kd.R_slice HO_11.out
            subst eo159
            have p193 : 0 ≤ ((ji128) : Int) := od_
            have q193 : (ji128) < (t158.length : Int) := od_
            obtain ⟨ad193, e193, hx193_0⟩ := Kd.at_string (Kd.R_reads' HO_11.out).2.2 (ji128) p193 q193
            cases e193
            replace p193 := eq_true p193
            replace q193 := eq_true q193
            have hnb160 := NB168_140.out
            have hnc160 := NB140_168.out
            have hnb161 := NB168_141.out
            have hnc161 := NB141_168.out
            have hnb162 := NB168_155.out
            have hnc162 := NB155_168.out
            have hcz163_0 : wr.cell? ⟨gb168, 0, none⟩ = some (u169000) := (blk_cell BK168.out 0).trans rfl
            have hfz163_0 := blk_frozen BK168.out 0
            obtain ⟨Ao164, co164, eo164⟩ := Kd.R_slice HO_169000.out
            subst eo164
            go_wp2_with (first | (go_at_call 77; (with_reducible refine (F77.calls _ _ x169000_5 false _ ?s1 ?s2 A141.out).mono ?_); (case s1 => exact au2_11); (case s2 => exact au2_21); rintro e w165 ⟨rfl, hb⟩; (try clear A141); replace HO_7 := am_ (Kd.R_below (rk_ HO_7) hb); replace HO_11 := am_ (Kd.R_below (rk_ HO_11) hb); replace HO_156001 := am_ (Kd.S_below au2_0 hb); replace HO_169000 := am_ (Kd.R_below (rk_ HO_169000) hb); replace BK140 := bb_ BK140 hb; replace BK141 := bb_ BK141 hb; replace BK155 := bb_ BK155 hb; replace BK168 := bb_ BK168 hb; replace HB := hs_ w hb; (try clear hb); (try clear hb2); (try clear hk); (try clear hi); have hnb166 := NB155_140.out; have hnc166 := NB140_155.out; have hnb167 := NB155_141.out; have hnc167 := NB141_155.out; obtain ⟨hcz168_0, hcz168_1, hfz168_0, hfz168_1⟩ := cellsF2 BK155.out; have hcz169_0 : w165.cell? ⟨gb168, 0, none⟩ = some (.slice Ao164 x169000_5.length co164) := (blk_cell BK168.out 0).trans rfl; have hfz169_0 := blk_frozen BK168.out 0) | ((with_reducible refine gate_builtin (b := .append) (xs := #[.tmp 163, .tmp 165]) rfl ?_); (try (refine gate_guard (by rfl) ?_; dsimp only)); at_builtin; refine Kd.S_append k102 (w0 := w) w.heap.size rfl (.tmp 163) (.tmp 165) 57 102 (.agg #[(.slice none 0 0)]) 24 rfl Try.underlying57 info102 rfl (by decide) (by omega) u156001 x156001_3 (⟨x169000_5⟩ : S102) [.slice Ao164 x169000_5.length co164] (fun k_ => some k_ ≠ (.slice (some ad145) t142.length co35 : Value).ownBlock ∧ some k_ ≠ (.slice (some ad193) t158.length co159 : Value).ownBlock ∧ k_ ≠ gb168) (fun k_ => some k_ = (.slice Ao164 x169000_5.length co164 : Value).ownBlock) rfl rfl ?aP (fun k_ hk_ => ((Kd.R_mono (ok' := fun k_ => ((fun k_ => some k_ ≠ (.slice (some ad145) t142.length co35 : Value).ownBlock ∧ some k_ ≠ (.slice (some ad193) t158.length co159 : Value).ownBlock ∧ k_ ≠ gb168)) k_ ∧ some k_ ≠ (u156001 : Value).ownBlock) (Kd.R_types (Kd.R_apart' (HO_169000.out) (Kd.S_typed HO_156001.out) (by decide)) BK168.out (by decide)) (fun k_ hk => ⟨⟨hk.1.1.1, ⟨hk.1.1.2, hk.2⟩⟩, hk.1.2⟩))).1 k_ hk_.symm) ?aF ?aO ?aB ?aS ?aL ?_; (case aP => exact k102_mkM _ _ _ (⟨x169000_5⟩ : S102) (Kd.R_mono (Kd.R_tight rfl (Kd.R_mono (ok' := fun k_ => ((fun k_ => some k_ ≠ (.slice (some ad145) t142.length co35 : Value).ownBlock ∧ some k_ ≠ (.slice (some ad193) t158.length co159 : Value).ownBlock ∧ k_ ≠ gb168)) k_ ∧ some k_ ≠ (u156001 : Value).ownBlock) (Kd.R_types (Kd.R_apart' (HO_169000.out) (Kd.S_typed HO_156001.out) (by decide)) BK168.out (by decide)) (fun k_ hk => ⟨⟨hk.1.1.1, ⟨hk.1.1.2, hk.2⟩⟩, hk.1.2⟩))) (fun _ h_ => h_))); (case aB => exact bl_); (case aF => exact (fun k_ hk => ⟨Kd.fresh' (Kd.R_lt (rk_ HO_7)) k_ hk, Kd.fresh' (Kd.R_lt (rk_ HO_11)) k_ hk, Kd.freshB (g := gb168) (o := .cells #[.slice Ao164 x169000_5.length co164] 102 (0, 0)) (bk_ BK168) k_ hk⟩)); (case aO => exact au2_10); (case aS => exact (below_size bl_)); (case aL => have := LMc156.out; omega); intro v210 w170 ho hb hg hat; rw [← Ny209.out] at ho; have n0_ := am_ (Kd.R_over' (rk_ HO_7) (Kd.S_typed au2_0) (by decide) hg); have n1_ := am_ (Kd.R_over' (rk_ HO_11) (Kd.S_typed au2_0) (by decide) hg); have n2_ := am_ (bg_ BK140 hg (Kd.S_ne HO_156001.out BK140.out (by decide))); have n3_ := am_ (bg_ BK141 hg (Kd.S_ne HO_156001.out BK141.out (by decide))); have n4_ := am_ (bg_ BK155 hg (Kd.S_ne HO_156001.out BK155.out (by decide))); have n5_ := am_ (bg_ BK168 hg (Kd.S_away HO_156001.out (fun _ hk => hk.2.2.2))); have n6_ := am_ (hb); have n7_ := am_ (ho); clear HO_7; clear HO_11; clear BK140; clear BK141; clear BK155; clear BK168; clear HB; clear HO_156001; clear HO_169000; have HO_7 := n0_; have HO_11 := n1_; have BK140 := n2_; have BK141 := n3_; have BK155 := n4_; have BK168 := n5_; have HB := n6_; have HO211 := n7_; clear n0_ n1_ n2_ n3_ n4_ n5_ n6_ n7_; clear ho hb hg hat; obtain ⟨Ao171, co171, eo171⟩ := Kd.S_slice HO211.out; subst eo171; obtain ⟨hcz172_0, hcz172_1, hfz172_0, hfz172_1⟩ := cellsF2 BK155.out; have p212 : 0 ≤ (x10_3 : Int) := od_; have q212 : x10_3 < (t142.length : Int) := od_; obtain ⟨ad212, e212, hx212_0⟩ := Kd.at_string (Kd.R_reads' HO_7.out).2.2 x10_3 p212 q212; obtain rfl : ad145 = ad212 := (by injection e212); have hn212_0 : ad145.block ≠ gb155 := Kd.own_blk (Kd.R_ne HO_7.out BK155.out (by decide)); replace hx212_0 := (cell_far (p := ⟨gb155, 1, none⟩) (by first | (rw [add_block]; exact hn212_0) | (show (Addr.add _ _).block ≠ _; rw [add_block]; exact hn212_0) | exact hn212_0) (.slice Ao171 y209.length co171)).trans hx212_0; clear hn212_0; replace p212 := eq_true p212; replace q212 := eq_true q212))
            go_roundg k5
            case measure => have := HK1.out; have := HJ9.out; have := HK3.out; have := HJ42.out; have := HK5.out; omega
            case rel => exact ⟨(wrap64 ((wrap64 (x9_3 + ((rdOf ByteArray.empty t142 x10_3).size : Int))) + 1)), (wrap64 (x10_3 + 1)), (x142000_5), (x142002_5), (x142003_5), (x142004_5), (y209), (.slice Ao171 y209.length co171), er_, er_, H', ⟨au2_14⟩, ⟨by (with_reducible repeat (first | apply Kd.R_alloc | apply Kd.R_drewN | apply Kd.R_drew)); exact Kd.R_mono (Kd.R_far (p := ⟨gb155, 1, none⟩) (Kd.R_types HO_7.out BK155.out (by decide)) (fun _ hk => hk.2) (.slice Ao171 y209.length co171)) (fun _ hk => trivial)⟩, ⟨by (with_reducible repeat (first | apply Kd.S_alloc | apply Kd.S_drewN | apply Kd.S_drew)); exact Kd.S_mono (Kd.S_far (p := ⟨gb155, 1, none⟩) (Kd.S_types HO211.out BK155.out (by decide)) (fun _ hk => hk.2) (.slice Ao171 y209.length co171)) (fun _ hk => hk.1.1)⟩, ⟨bf_ BK140⟩, ⟨bf_ BK141⟩, ⟨bq_ BK155⟩, ⟨bl_⟩⟩
           replace H := itn_ H; rcases H with ⟨c61b0, H⟩
           replace H := bi_ H; rcases H with ⟨⟨t170, t171, t172⟩, A62, H⟩
           by_cases c63 : t172 = 0
           rotate_left
           ·rw [if_neg c63] at H
            have c63b0 : (t172 == 0) = false := beq_eq_false_iff_ne.mpr c63
            have c63b1 : (t172 != 0) = true := bne_iff_ne.mpr c63
            replace H := bi_ H; rcases H with ⟨⟨t174, t175, t178, t179, t180⟩, A107, H⟩
            simp only [Option.some.injEq, Prod.mk.injEq] at H
            obtain ⟨rfl, rfl, rfl, rfl, rfl⟩ := H
            obtain ⟨Ao108, co108, eo108⟩ := Kd.R_slice HO_11.out
            subst eo108
            try go_wp2
            replace HO_7 := am_ (Kd.R_drew HO_7.out)
            replace HO_11 := am_ (Kd.R_drew HO_11.out)
            replace HO_156001 := am_ (Kd.S_drew HO_156001.out)
            replace HO_169000 := am_ (Kd.R_drew HO_169000.out)
            replace BK140 := bd_ BK140
            replace BK141 := bd_ BK141
            replace BK155 := bd_ BK155
            replace BK168 := bd_ BK168
            replace HB := am_ (below_drew1 HB.out)
            have p169 : 0 ≤ (x14_5 : Int) := od_
            have q169 : x14_5 < (t158.length : Int) := od_
            obtain ⟨ad169, e169, hx169_0⟩ := Kd.at_string (Kd.R_reads' HO_11.out).2.2 x14_5 p169 q169
            cases e169
            replace p169 := eq_true p169
            replace q169 := eq_true q169
            refine start_ (n := 8) (S := fun w' => w'.cell? ⟨gb140, 0, none⟩ = some (.int .i64 a0_0) ∧ w'.cell? ⟨gb140, 1, none⟩ = some (.int .i64 a0_1) ∧ w'.cell? ⟨gb140, 2, none⟩ = some (.int .i64 a0_2) ∧ w'.cell? ⟨gb140, 3, none⟩ = some (.int .i64 a0_3) ∧ w'.cell? (ad169.add (x14_5).toNat) = some (.string (rdOf ByteArray.empty t158 x14_5))) (ds := []) (bs 8 0) (by kernel_rfl) rfl rfl ⟨(blk_cell BK140.out 0).trans rfl, (blk_cell BK140.out 1).trans rfl, (blk_cell BK140.out 2).trans rfl, (blk_cell BK140.out 3).trans rfl, hx169_0⟩ (fun hHeld => ?_); refine with_tabW F87.tab29 F87.bits29 (fun HT_ HW_ => ?_)
            generalize wr.drew = w109 at HO_7 HO_11 HO_156001 HO_169000 BK140 BK141 BK155 BK168 HB hx169_0 hHeld ⊢
            refine pu_ 1 103 (bs 8 2) HT_ ?_ rfl rfl
            refine pu_ 2 104 (bs 8 6) HT_ ?_ rfl rfl
            refine pu_ 3 105 (bs 8 14) HT_ ?_ rfl rfl
            refine tk_ 0 102 (bs 8 15) HT_ HW_ hHeld au2_13 ?_ rfl rfl
            refine tk_ 4 106 (bs 8 31) HT_ HW_ hHeld au2_13 ?_ rfl rfl
            refine join_ (σ := Nat) 1 (bs 8 127) (fun s_ => [(107, .agg #[.string t170, .int .i64 t171, .int .i64 t172]), (15, .pointer (some ⟨s_, 0, none⟩))]) (fun s_ w' => (w'.cell? ⟨gb140, 0, none⟩ = some (.int .i64 a0_0) ∧ w'.cell? ⟨gb140, 1, none⟩ = some (.int .i64 a0_1) ∧ w'.cell? ⟨gb140, 2, none⟩ = some (.int .i64 a0_2) ∧ w'.cell? ⟨gb140, 3, none⟩ = some (.int .i64 a0_3) ∧ w'.cell? (ad169.add (x14_5).toNat) = some (.string (rdOf ByteArray.empty t158 x14_5))) ∧ (Kd.R Kd.string 9 w' w.heap.size (fun k_ => some k_ ≠ (u169000 : Value).ownBlock ∧ some k_ ≠ (.slice (some ad145) t142.length co35 : Value).ownBlock) (.slice (some ad169) t158.length co108) t158) ∧ (Kd.S k102 102 w' w.heap.size (fun k_ => some k_ ≠ (.slice (some ad169) t158.length co108 : Value).ownBlock ∧ some k_ ≠ (u169000 : Value).ownBlock ∧ some k_ ≠ (.slice (some ad145) t142.length co35 : Value).ownBlock ∧ k_ ≠ gb168) u156001 x156001_3) ∧ (Kd.R Kd.string 9 w' w.heap.size (fun k_ => some k_ ≠ (.slice (some ad169) t158.length co108 : Value).ownBlock ∧ some k_ ≠ (.slice (some ad145) t142.length co35 : Value).ownBlock) u169000 x169000_5) ∧ (Kd.R Kd.string 9 w' w.heap.size (fun k_ => some k_ ≠ (.slice (some ad169) t158.length co108 : Value).ownBlock ∧ some k_ ≠ (u169000 : Value).ownBlock) (.slice (some ad145) t142.length co35) t142) ∧ (w'.heap[gb140]? = some (.cells #[.int .i64 a0_0, .int .i64 a0_1, .int .i64 a0_2, .int .i64 a0_3] 23 (0, 0))) ∧ (w'.heap[gb141]? = some (.cells #[.string x142000_5, .slice none 0 0, .int .i64 x142002_5, .int .i64 x142003_5, .int .i64 x142004_5] 66 (0, 0))) ∧ (w'.heap[gb155]? = some (.cells #[.string (rdOf ByteArray.empty t142 0), u156001] 59 (0, 0))) ∧ (w'.heap[gb168]? = some (.cells #[u169000] 102 (0, 0))) ∧ (w'.heap[s_]? = some (.cells #[.string (⟨#[]⟩ : ByteArray), .int .i64 0, .int .i64 0] 31 (0, 0))) ∧ (w.heap.size ≤ s_) ∧ (w.heap.size ≤ s_) ∧ (gb140 ≠ s_) ∧ (s_ ≠ gb140) ∧ (gb141 ≠ s_) ∧ (s_ ≠ gb141) ∧ (gb155 ≠ s_) ∧ (s_ ≠ gb155) ∧ (gb168 ≠ s_) ∧ (s_ ≠ gb168) ∧ (Below w.heap.size w w')) ?_ ?_
            rotate_left
            ·intro hCont
             refine two_ (i := 5) (j := 6) (Ni := some 107) (Nj := some 15) (bs 8 63) (bs 8 95) rfl rfl rfl rfl (two_of HT_.out (by kernel_rfl)) (by decide) (by decide) (fun K hK => ?_) (fun K hK => ?_)
             ·skip
              refine gr_ Try.func18 #[.agg #[.int .i64 a0_0, .int .i64 a0_1, .int .i64 a0_2, .int .i64 a0_3], .string (rdOf ByteArray.empty t158 x14_5)] (by rfl) ?_ rfl rfl rfl
              with_reducible refine (F18.calls k5 a0_0 a0_1 a0_2 a0_3 (rdOf ByteArray.empty t158 x14_5) t170 t171 t172 _ A62.out).mono ?_
              rintro e w110 ⟨rfl, hb⟩
              have HS4_ := (hb.cell (World.block_lt_of_cell? _ _ (hHeld.2.2.2.2))).trans (hHeld.2.2.2.2)
              refine ⟨_, rfl, ?_⟩
              replace HO_7 := am_ (Kd.R_below (rk_ HO_7) hb)
              replace HO_11 := am_ (Kd.R_below (rk_ HO_11) hb)
              replace HO_156001 := am_ (Kd.S_below au2_0 hb)
              replace HO_169000 := am_ (Kd.R_below (rk_ HO_169000) hb)
              replace BK140 := bb_ BK140 hb
              replace BK141 := bb_ BK141 hb
              replace BK155 := bb_ BK155 hb
              replace BK168 := bb_ BK168 hb
              replace HB := hs_ w hb
              (try clear hb)
              (try clear hb2)
              (try clear hk)
              (try clear hi)
              refine hK.out _ _ ⟨(blk_cell BK140.out 0).trans rfl, (blk_cell BK140.out 1).trans rfl, (blk_cell BK140.out 2).trans rfl, (blk_cell BK140.out 3).trans rfl, HS4_⟩ (fun hHeld => ?_)
              clear hK K
              refine no_ 107 ?_
              refine one_ (i := 6) (N := some 15) (bs 8 127) rfl rfl (one_of HT_.out (by kernel_rfl)) (by decide) (fun K hK => ?_)
              refine box_step ?hg (N := 15) ?hd (cs := #[.string (⟨#[]⟩ : ByteArray), .int .i64 0, .int .i64 0]) (t := 31) ?hr ?_; (case hd => rfl); (case hg => rfl); (case hr => exact hr_)
              intro gb173 hg w111 hbox hb
              have HS4_ := (hb.cell (World.block_lt_of_cell? _ _ (hHeld.2.2.2.2))).trans (hHeld.2.2.2.2)
              replace HO_7 := am_ (Kd.R_below (rk_ HO_7) hb)
              replace HO_11 := am_ (Kd.R_below (rk_ HO_11) hb)
              replace HO_156001 := am_ (Kd.S_below au2_0 hb)
              replace HO_169000 := am_ (Kd.R_below (rk_ HO_169000) hb)
              have BK173 := am_ (hbox)
              have GW173 := am_ (gw_ hg bl_)
              have GE173 := am_ (gw_ hg bl_)
              replace HB := hs_ w hb
              have NB140_173 := am_ (gn_ hg (blkl_ BK140))
              have NB173_140 := am_ (gm_ hg (blkl_ BK140))
              replace BK140 := bb_ BK140 hb
              have NB141_173 := am_ (gn_ hg (blkl_ BK141))
              have NB173_141 := am_ (gm_ hg (blkl_ BK141))
              replace BK141 := bb_ BK141 hb
              have NB155_173 := am_ (gn_ hg (blkl_ BK155))
              have NB173_155 := am_ (gm_ hg (blkl_ BK155))
              replace BK155 := bb_ BK155 hb
              have NB168_173 := am_ (gn_ hg (blkl_ BK168))
              have NB173_168 := am_ (gm_ hg (blkl_ BK168))
              replace BK168 := bb_ BK168 hb
              clear hb hbox hg
              refine hK.out _ _ ⟨(blk_cell BK140.out 0).trans rfl, (blk_cell BK140.out 1).trans rfl, (blk_cell BK140.out 2).trans rfl, (blk_cell BK140.out 3).trans rfl, HS4_⟩ (fun hHeld => ?_)
              clear hK K
              refine no_ 15 ?_
              exact norm_ au2_12 (hCont (gb173) _ ⟨hHeld, au2_8, au2_6, au2_7, (rk_ HO_7), (bk_ BK140), (bk_ BK141), (bk_ BK155), (bk_ BK168), (bk_ BK173), GW173.out, GE173.out, NB140_173.out, NB173_140.out, NB141_173.out, NB173_141.out, NB155_173.out, NB173_155.out, NB168_173.out, NB173_168.out, bl_⟩)
             skip
             refine box_step ?hg (N := 15) ?hd (cs := #[.string (⟨#[]⟩ : ByteArray), .int .i64 0, .int .i64 0]) (t := 31) ?hr ?_; (case hd => rfl); (case hg => rfl); (case hr => exact hr_)
             intro gb173 hg w110 hbox hb
             have HS4_ := (hb.cell (World.block_lt_of_cell? _ _ (hHeld.2.2.2.2))).trans (hHeld.2.2.2.2)
             replace HO_7 := am_ (Kd.R_below (rk_ HO_7) hb)
             replace HO_11 := am_ (Kd.R_below (rk_ HO_11) hb)
             replace HO_156001 := am_ (Kd.S_below au2_0 hb)
             replace HO_169000 := am_ (Kd.R_below (rk_ HO_169000) hb)
             have BK173 := am_ (hbox)
             have GW173 := am_ (gw_ hg bl_)
             have GE173 := am_ (gw_ hg bl_)
             replace HB := hs_ w hb
             have NB140_173 := am_ (gn_ hg (blkl_ BK140))
             have NB173_140 := am_ (gm_ hg (blkl_ BK140))
             replace BK140 := bb_ BK140 hb
             have NB141_173 := am_ (gn_ hg (blkl_ BK141))
             have NB173_141 := am_ (gm_ hg (blkl_ BK141))
             replace BK141 := bb_ BK141 hb
             have NB155_173 := am_ (gn_ hg (blkl_ BK155))
             have NB173_155 := am_ (gm_ hg (blkl_ BK155))
             replace BK155 := bb_ BK155 hb
             have NB168_173 := am_ (gn_ hg (blkl_ BK168))
             have NB173_168 := am_ (gm_ hg (blkl_ BK168))
             replace BK168 := bb_ BK168 hb
             clear hb hbox hg
             refine hK.out _ _ ⟨(blk_cell BK140.out 0).trans rfl, (blk_cell BK140.out 1).trans rfl, (blk_cell BK140.out 2).trans rfl, (blk_cell BK140.out 3).trans rfl, HS4_⟩ (fun hHeld => ?_)
             clear hK K
             refine no_ 15 ?_
             refine one_ (i := 5) (N := some 107) (bs 8 127) rfl rfl (one_of HT_.out (by kernel_rfl)) (by decide) (fun K hK => ?_)
             refine gr_ Try.func18 #[.agg #[.int .i64 a0_0, .int .i64 a0_1, .int .i64 a0_2, .int .i64 a0_3], .string (rdOf ByteArray.empty t158 x14_5)] (by rfl) ?_ rfl rfl rfl
             with_reducible refine (F18.calls k5 a0_0 a0_1 a0_2 a0_3 (rdOf ByteArray.empty t158 x14_5) t170 t171 t172 _ A62.out).mono ?_
             rintro e w111 ⟨rfl, hb⟩
             have HS4_ := (hb.cell (World.block_lt_of_cell? _ _ (hHeld.2.2.2.2))).trans (hHeld.2.2.2.2)
             refine ⟨_, rfl, ?_⟩
             replace HO_7 := am_ (Kd.R_below (rk_ HO_7) hb)
             replace HO_11 := am_ (Kd.R_below (rk_ HO_11) hb)
             replace HO_156001 := am_ (Kd.S_below au2_0 hb)
             replace HO_169000 := am_ (Kd.R_below (rk_ HO_169000) hb)
             replace BK140 := bb_ BK140 hb
             replace BK141 := bb_ BK141 hb
             replace BK155 := bb_ BK155 hb
             replace BK168 := bb_ BK168 hb
             replace BK173 := bb_ BK173 hb
             replace HB := hs_ w hb
             (try clear hb)
             (try clear hb2)
             (try clear hk)
             (try clear hi)
             refine hK.out _ _ ⟨(blk_cell BK140.out 0).trans rfl, (blk_cell BK140.out 1).trans rfl, (blk_cell BK140.out 2).trans rfl, (blk_cell BK140.out 3).trans rfl, HS4_⟩ (fun hHeld => ?_)
             clear hK K
             refine no_ 107 ?_
             exact norm_ au2_12 (hCont (gb173) _ ⟨hHeld, au2_8, au2_6, au2_7, (rk_ HO_7), (bk_ BK140), (bk_ BK141), (bk_ BK155), (bk_ BK168), (bk_ BK173), GW173.out, GE173.out, NB140_173.out, NB173_140.out, NB141_173.out, NB173_141.out, NB155_173.out, NB173_155.out, NB168_173.out, NB173_168.out, bl_⟩)
            rintro gb173 w112 ⟨hS_, h0_, h1_, h2_, h3_, h4_, h5_, h6_, h7_, h8_, h9_, h10_, h11_, h12_, h13_, h14_, h15_, h16_, h17_, h18_, h19_⟩
            have n0_ : Aside0 (Kd.R Kd.string 9 w112 w.heap.size (fun k_ => some k_ ≠ (u169000 : Value).ownBlock ∧ some k_ ≠ (.slice (some ad145) t142.length co35 : Value).ownBlock) (.slice (some ad169) t158.length co108) t158) := ⟨h0_⟩
            have n1_ : Aside0 (Kd.S k102 102 w112 w.heap.size (fun k_ => some k_ ≠ (.slice (some ad169) t158.length co108 : Value).ownBlock ∧ some k_ ≠ (u169000 : Value).ownBlock ∧ some k_ ≠ (.slice (some ad145) t142.length co35 : Value).ownBlock ∧ k_ ≠ gb168) u156001 x156001_3) := ⟨h1_⟩
            have n2_ : Aside0 (Kd.R Kd.string 9 w112 w.heap.size (fun k_ => some k_ ≠ (.slice (some ad169) t158.length co108 : Value).ownBlock ∧ some k_ ≠ (.slice (some ad145) t142.length co35 : Value).ownBlock) u169000 x169000_5) := ⟨h2_⟩
            have n3_ : Aside0 (Kd.R Kd.string 9 w112 w.heap.size (fun k_ => some k_ ≠ (.slice (some ad169) t158.length co108 : Value).ownBlock ∧ some k_ ≠ (u169000 : Value).ownBlock) (.slice (some ad145) t142.length co35) t142) := ⟨h3_⟩
            have n4_ : Aside0 (w112.heap[gb140]? = some (.cells #[.int .i64 a0_0, .int .i64 a0_1, .int .i64 a0_2, .int .i64 a0_3] 23 (0, 0))) := ⟨h4_⟩
            have n5_ : Aside0 (w112.heap[gb141]? = some (.cells #[.string x142000_5, .slice none 0 0, .int .i64 x142002_5, .int .i64 x142003_5, .int .i64 x142004_5] 66 (0, 0))) := ⟨h5_⟩
            have n6_ : Aside0 (w112.heap[gb155]? = some (.cells #[.string (rdOf ByteArray.empty t142 0), u156001] 59 (0, 0))) := ⟨h6_⟩
            have n7_ : Aside0 (w112.heap[gb168]? = some (.cells #[u169000] 102 (0, 0))) := ⟨h7_⟩
            have n8_ : Aside0 (w112.heap[gb173]? = some (.cells #[.string (⟨#[]⟩ : ByteArray), .int .i64 0, .int .i64 0] 31 (0, 0))) := ⟨h8_⟩
            have n9_ : Aside0 (w.heap.size ≤ gb173) := ⟨h9_⟩
            have n10_ : Aside0 (w.heap.size ≤ gb173) := ⟨h10_⟩
            have n11_ : Aside0 (gb140 ≠ gb173) := ⟨h11_⟩
            have n12_ : Aside0 (gb173 ≠ gb140) := ⟨h12_⟩
            have n13_ : Aside0 (gb141 ≠ gb173) := ⟨h13_⟩
            have n14_ : Aside0 (gb173 ≠ gb141) := ⟨h14_⟩
            have n15_ : Aside0 (gb155 ≠ gb173) := ⟨h15_⟩
            have n16_ : Aside0 (gb173 ≠ gb155) := ⟨h16_⟩
            have n17_ : Aside0 (gb168 ≠ gb173) := ⟨h17_⟩
            have n18_ : Aside0 (gb173 ≠ gb168) := ⟨h18_⟩
            have n19_ : Aside0 (Below w.heap.size w w112) := ⟨h19_⟩
            clear HO_7
            clear HO_11
            clear HO_156001
            clear HO_169000
            clear BK140
            clear BK141
            clear BK155
            clear BK168
            clear HB
            clear h0_ h1_ h2_ h3_ h4_ h5_ h6_ h7_ h8_ h9_ h10_ h11_ h12_ h13_ h14_ h15_ h16_ h17_ h18_ h19_
            have HO_11 := n0_
            have HO_156001 := n1_
            have HO_169000 := n2_
            have HO_7 := n3_
            have BK140 := n4_
            have BK141 := n5_
            have BK155 := n6_
            have BK168 := n7_
            have BK173 := n8_
            have GW173 := n9_
            have GE173 := n10_
            have NB140_173 := n11_
            have NB173_140 := n12_
            have NB141_173 := n13_
            have NB173_141 := n14_
            have NB155_173 := n15_
            have NB173_155 := n16_
            have NB168_173 := n17_
            have NB173_168 := n18_
            have HB := n19_
            clear n0_ n1_ n2_ n3_ n4_ n5_ n6_ n7_ n8_ n9_ n10_ n11_ n12_ n13_ n14_ n15_ n16_ n17_ n18_ n19_
            have hHeld : w112.cell? ⟨gb140, 0, none⟩ = some (.int .i64 a0_0) ∧ w112.cell? ⟨gb140, 1, none⟩ = some (.int .i64 a0_1) ∧ w112.cell? ⟨gb140, 2, none⟩ = some (.int .i64 a0_2) ∧ w112.cell? ⟨gb140, 3, none⟩ = some (.int .i64 a0_3) ∧ w112.cell? (ad169.add (x14_5).toNat) = some (.string (rdOf ByteArray.empty t158 x14_5)) := hS_
            refine norm_ (a' := ?_) ?_ ?_
            rotate_left
            ·simp only [putAll, Act.put, List.setIfInBounds_toArray, List.set_cons_zero, List.set_cons_succ]
             rfl
            refine one_ (i := 7) (N := none) (bs 8 255) rfl rfl (one_of HT_.out (by kernel_rfl)) (by decide) (fun K hK => ?_)
            have hs113 : w112.cell? ⟨gb173, 0, none⟩ = some (.string (⟨#[]⟩ : ByteArray)) := (blk_cell BK173.out 0).trans rfl
            have hfs113 := blk_frozen BK173.out 0
            have hns113_0 := NB140_173.out
            have hns113_1 := NB141_173.out
            have hns113_2 := NB155_173.out
            have hns113_3 := NB168_173.out
            have hms113_0 := NB173_140.out
            have hms113_1 := NB173_141.out
            have hms113_2 := NB173_155.out
            have hms113_3 := NB173_168.out
            have hs114 : w112.cell? ⟨gb173, 1, none⟩ = some (.int .i64 0) := (blk_cell BK173.out 1).trans rfl
            have hfs114 := blk_frozen BK173.out 1
            have hns114_0 := NB140_173.out
            have hns114_1 := NB141_173.out
            have hns114_2 := NB155_173.out
            have hns114_3 := NB168_173.out
            have hms114_0 := NB173_140.out
            have hms114_1 := NB173_141.out
            have hms114_2 := NB173_155.out
            have hms114_3 := NB173_168.out
            have hs115 : w112.cell? ⟨gb173, 2, none⟩ = some (.int .i64 0) := (blk_cell BK173.out 2).trans rfl
            have hfs115 := blk_frozen BK173.out 2
            have hns115_0 := NB140_173.out
            have hns115_1 := NB141_173.out
            have hns115_2 := NB155_173.out
            have hns115_3 := NB168_173.out
            have hms115_0 := NB173_140.out
            have hms115_1 := NB173_141.out
            have hms115_2 := NB173_155.out
            have hms115_3 := NB173_168.out
            refine skip_ (w1 := ?_) (by rfl) rfl ?_ ?_
            rotate_left
            ·go_simp
             rfl
            refine hK.out _ _ ⟨((cell_far (p := ⟨gb173, _, none⟩) NB140_173.out _).trans (((cell_far (p := ⟨gb173, _, none⟩) NB140_173.out _).trans (((cell_far (p := ⟨gb173, _, none⟩) NB140_173.out _).trans (hHeld.1)))))), ((cell_far (p := ⟨gb173, _, none⟩) NB140_173.out _).trans (((cell_far (p := ⟨gb173, _, none⟩) NB140_173.out _).trans (((cell_far (p := ⟨gb173, _, none⟩) NB140_173.out _).trans (hHeld.2.1)))))), ((cell_far (p := ⟨gb173, _, none⟩) NB140_173.out _).trans (((cell_far (p := ⟨gb173, _, none⟩) NB140_173.out _).trans (((cell_far (p := ⟨gb173, _, none⟩) NB140_173.out _).trans (hHeld.2.2.1)))))), ((cell_far (p := ⟨gb173, _, none⟩) NB140_173.out _).trans (((cell_far (p := ⟨gb173, _, none⟩) NB140_173.out _).trans (((cell_far (p := ⟨gb173, _, none⟩) NB140_173.out _).trans (hHeld.2.2.2.1)))))), ((cell_far (p := ⟨gb173, _, none⟩) au2_1 _).trans (((cell_far (p := ⟨gb173, _, none⟩) au2_1 _).trans (((cell_far (p := ⟨gb173, _, none⟩) au2_1 _).trans (hHeld.2.2.2.2))))))⟩ (fun hHeld => ?_)
            clear hK K
            refine done_ (done_of HT_.out (by kernel_rfl)) ?_
            have hnb116 := NB173_140.out
            have hnc116 := NB140_173.out
            have hnb117 := NB173_141.out
            have hnc117 := NB141_173.out
            have hnb118 := NB173_155.out
            have hnc118 := NB155_173.out
            have hnb119 := NB173_168.out
            have hnc119 := NB168_173.out
            obtain ⟨hcz120_0, hcz120_1, hcz120_2, hfz120_0, hfz120_1, hfz120_2⟩ := cellsF3 BK173.out
            try go_wp2_with (first | (go_at_call 114; (with_reducible refine (F114.calls (wrap64 (x13_5 + t171)) t174 t175 t178 t179 t180 _ A107.out).mono ?_); rintro e w121 ⟨v176, rfl, ho0, hb⟩; (try clear A107); have HO177 := am_ (Kd.S_lower (Kd.S_newB (Kd.S_new' (Kd.S_new' (Kd.S_new' (Kd.S_new' ho0 (Kd.R_lt au2_3)) (Kd.R_lt au2_2)) (Kd.S_lt au2_4)) (Kd.R_lt au2_5)) (g := gb168) (o := .cells #[u169000] 102 (0, 0)) (bf_ BK168)) (below_size bl_)); replace HO_7 := am_ (Kd.R_below au2_3 hb); replace HO_11 := am_ (Kd.R_below au2_2 hb); replace HO_156001 := am_ (Kd.S_elder' au2_4 (Kd.S_base ho0) hb); replace HO_169000 := am_ (Kd.R_below au2_5 hb); replace BK140 := am_ (blk_below (g := gb140) (o := .cells #[.int .i64 a0_0, .int .i64 a0_1, .int .i64 a0_2, .int .i64 a0_3] 23 (0, 0)) (bf_ BK140) hb); replace BK141 := am_ (blk_below (g := gb141) (o := .cells #[.string x142000_5, .slice none 0 0, .int .i64 x142002_5, .int .i64 x142003_5, .int .i64 x142004_5] 66 (0, 0)) (bf_ BK141) hb); replace BK155 := am_ (blk_below (g := gb155) (o := .cells #[.string (rdOf ByteArray.empty t142 0), u156001] 59 (0, 0)) (bf_ BK155) hb); replace BK168 := am_ (blk_below (g := gb168) (o := .cells #[u169000] 102 (0, 0)) (bf_ BK168) hb); replace BK173 := am_ (blk_below (g := gb173) (o := .cells #[.string t170, .int .i64 t171, .int .i64 t172] 31 (0, 0)) (bq_ BK173) hb); replace HB := hs_ w hb; (try clear hb); (try clear hb2); (try clear hk); (try clear hi); (try clear ho0); have hnb122 := NB141_140.out; have hnc122 := NB140_141.out; have hnb123 := NB141_155.out; have hnc123 := NB155_141.out; have hnb124 := NB141_168.out; have hnc124 := NB168_141.out; obtain ⟨hcz125_0, hcz125_1, hcz125_2, hcz125_3, hcz125_4, hfz125_0, hfz125_1, hfz125_2, hfz125_3, hfz125_4⟩ := cellsF5 BK141.out; obtain ⟨Ao126, co126, eo126⟩ := Kd.S_slice HO177.out; subst eo126))
            refine bodyPost_ret (results_cell_row rfl _ _ gb141 66 #[.string t174, .slice Ao126 t175.length co126, .int .i64 t178, .int .i64 t179, .int .i64 t180] (0, 0) _ rfl (bq_ BK141) Try.underlying66 rfl (by kernel_rfl)) rfl ?_
            exact ⟨_, au2_9, by (with_reducible repeat (first | apply Kd.S_alloc | apply Kd.S_drewN | apply Kd.S_drew)); exact Kd.S_mono (Kd.S_far (p := ⟨gb141, 4, none⟩) (Kd.S_far (p := ⟨gb141, 3, none⟩) (Kd.S_far (p := ⟨gb141, 2, none⟩) (Kd.S_far (p := ⟨gb141, 1, none⟩) (Kd.S_far (p := ⟨gb141, 0, none⟩) (Kd.S_types HO177.out BK141.out (by decide)) (fun _ hk => hk.2) (.string t174)) (fun _ hk => hk.2) (.slice Ao126 t175.length co126)) (fun _ hk => hk.2) (.int .i64 t178)) (fun _ hk => hk.2) (.int .i64 t179)) (fun _ hk => hk.2) (.int .i64 t180)) (fun _ hk => trivial), bl_⟩
           rw [if_pos c63] at H
           have c63b0 : (t172 == 0) = true := beq_iff_eq.mpr c63
           have c63b1 : (t172 != 0) = false := bne_eq_false_iff_eq.mpr c63
           clear c63
           replace H := bi_ H; rcases H with ⟨t181, A64, H⟩
           replace H := ib_ H; rcases H with ⟨rfl, H⟩ | ⟨rfl, H⟩
           rotate_left
           ·replace H := bi_ H; rcases H with ⟨⟨t186, t187, t190, t191, t192⟩, A87, H⟩
            simp only [Option.some.injEq, Prod.mk.injEq] at H
            obtain ⟨rfl, rfl, rfl, rfl, rfl⟩ := H
            obtain ⟨Ao88, co88, eo88⟩ := Kd.R_slice HO_11.out
            subst eo88
            try go_wp2
            replace HO_7 := am_ (Kd.R_drew HO_7.out)
            replace HO_11 := am_ (Kd.R_drew HO_11.out)
            replace HO_156001 := am_ (Kd.S_drew HO_156001.out)
            replace HO_169000 := am_ (Kd.R_drew HO_169000.out)
            replace BK140 := bd_ BK140
            replace BK141 := bd_ BK141
            replace BK155 := bd_ BK155
            replace BK168 := bd_ BK168
            replace HB := am_ (below_drew1 HB.out)
            have p169 : 0 ≤ (x14_5 : Int) := od_
            have q169 : x14_5 < (t158.length : Int) := od_
            obtain ⟨ad169, e169, hx169_0⟩ := Kd.at_string (Kd.R_reads' HO_11.out).2.2 x14_5 p169 q169
            cases e169
            replace p169 := eq_true p169
            replace q169 := eq_true q169
            refine start_ (n := 8) (S := fun w' => w'.cell? ⟨gb140, 0, none⟩ = some (.int .i64 a0_0) ∧ w'.cell? ⟨gb140, 1, none⟩ = some (.int .i64 a0_1) ∧ w'.cell? ⟨gb140, 2, none⟩ = some (.int .i64 a0_2) ∧ w'.cell? ⟨gb140, 3, none⟩ = some (.int .i64 a0_3) ∧ w'.cell? (ad169.add (x14_5).toNat) = some (.string (rdOf ByteArray.empty t158 x14_5))) (ds := []) (bs 8 0) (by kernel_rfl) rfl rfl ⟨(blk_cell BK140.out 0).trans rfl, (blk_cell BK140.out 1).trans rfl, (blk_cell BK140.out 2).trans rfl, (blk_cell BK140.out 3).trans rfl, hx169_0⟩ (fun hHeld => ?_); refine with_tabW F87.tab29 F87.bits29 (fun HT_ HW_ => ?_)
            generalize wr.drew = w89 at HO_7 HO_11 HO_156001 HO_169000 BK140 BK141 BK155 BK168 HB hx169_0 hHeld ⊢
            refine pu_ 1 103 (bs 8 2) HT_ ?_ rfl rfl
            refine pu_ 2 104 (bs 8 6) HT_ ?_ rfl rfl
            refine pu_ 3 105 (bs 8 14) HT_ ?_ rfl rfl
            refine tk_ 0 102 (bs 8 15) HT_ HW_ hHeld au2_13 ?_ rfl rfl
            refine tk_ 4 106 (bs 8 31) HT_ HW_ hHeld au2_13 ?_ rfl rfl
            refine join_ (σ := Nat) 1 (bs 8 127) (fun s_ => [(107, .agg #[.string t170, .int .i64 t171, .int .i64 t172]), (15, .pointer (some ⟨s_, 0, none⟩))]) (fun s_ w' => (w'.cell? ⟨gb140, 0, none⟩ = some (.int .i64 a0_0) ∧ w'.cell? ⟨gb140, 1, none⟩ = some (.int .i64 a0_1) ∧ w'.cell? ⟨gb140, 2, none⟩ = some (.int .i64 a0_2) ∧ w'.cell? ⟨gb140, 3, none⟩ = some (.int .i64 a0_3) ∧ w'.cell? (ad169.add (x14_5).toNat) = some (.string (rdOf ByteArray.empty t158 x14_5))) ∧ (Kd.R Kd.string 9 w' w.heap.size (fun k_ => some k_ ≠ (u169000 : Value).ownBlock ∧ some k_ ≠ (.slice (some ad145) t142.length co35 : Value).ownBlock) (.slice (some ad169) t158.length co88) t158) ∧ (Kd.S k102 102 w' w.heap.size (fun k_ => some k_ ≠ (.slice (some ad169) t158.length co88 : Value).ownBlock ∧ some k_ ≠ (u169000 : Value).ownBlock ∧ some k_ ≠ (.slice (some ad145) t142.length co35 : Value).ownBlock ∧ k_ ≠ gb168) u156001 x156001_3) ∧ (Kd.R Kd.string 9 w' w.heap.size (fun k_ => some k_ ≠ (.slice (some ad169) t158.length co88 : Value).ownBlock ∧ some k_ ≠ (.slice (some ad145) t142.length co35 : Value).ownBlock) u169000 x169000_5) ∧ (Kd.R Kd.string 9 w' w.heap.size (fun k_ => some k_ ≠ (.slice (some ad169) t158.length co88 : Value).ownBlock ∧ some k_ ≠ (u169000 : Value).ownBlock) (.slice (some ad145) t142.length co35) t142) ∧ (w'.heap[gb140]? = some (.cells #[.int .i64 a0_0, .int .i64 a0_1, .int .i64 a0_2, .int .i64 a0_3] 23 (0, 0))) ∧ (w'.heap[gb141]? = some (.cells #[.string x142000_5, .slice none 0 0, .int .i64 x142002_5, .int .i64 x142003_5, .int .i64 x142004_5] 66 (0, 0))) ∧ (w'.heap[gb155]? = some (.cells #[.string (rdOf ByteArray.empty t142 0), u156001] 59 (0, 0))) ∧ (w'.heap[gb168]? = some (.cells #[u169000] 102 (0, 0))) ∧ (w'.heap[s_]? = some (.cells #[.string (⟨#[]⟩ : ByteArray), .int .i64 0, .int .i64 0] 31 (0, 0))) ∧ (w.heap.size ≤ s_) ∧ (w.heap.size ≤ s_) ∧ (gb140 ≠ s_) ∧ (s_ ≠ gb140) ∧ (gb141 ≠ s_) ∧ (s_ ≠ gb141) ∧ (gb155 ≠ s_) ∧ (s_ ≠ gb155) ∧ (gb168 ≠ s_) ∧ (s_ ≠ gb168) ∧ (Below w.heap.size w w')) ?_ ?_
            rotate_left
            ·intro hCont
             refine two_ (i := 5) (j := 6) (Ni := some 107) (Nj := some 15) (bs 8 63) (bs 8 95) rfl rfl rfl rfl (two_of HT_.out (by kernel_rfl)) (by decide) (by decide) (fun K hK => ?_) (fun K hK => ?_)
             ·skip
              refine gr_ Try.func18 #[.agg #[.int .i64 a0_0, .int .i64 a0_1, .int .i64 a0_2, .int .i64 a0_3], .string (rdOf ByteArray.empty t158 x14_5)] (by rfl) ?_ rfl rfl rfl
              with_reducible refine (F18.calls k5 a0_0 a0_1 a0_2 a0_3 (rdOf ByteArray.empty t158 x14_5) t170 t171 t172 _ A62.out).mono ?_
              rintro e w90 ⟨rfl, hb⟩
              have HS4_ := (hb.cell (World.block_lt_of_cell? _ _ (hHeld.2.2.2.2))).trans (hHeld.2.2.2.2)
              refine ⟨_, rfl, ?_⟩
              replace HO_7 := am_ (Kd.R_below (rk_ HO_7) hb)
              replace HO_11 := am_ (Kd.R_below (rk_ HO_11) hb)
              replace HO_156001 := am_ (Kd.S_below au2_0 hb)
              replace HO_169000 := am_ (Kd.R_below (rk_ HO_169000) hb)
              replace BK140 := bb_ BK140 hb
              replace BK141 := bb_ BK141 hb
              replace BK155 := bb_ BK155 hb
              replace BK168 := bb_ BK168 hb
              replace HB := hs_ w hb
              (try clear hb)
              (try clear hb2)
              (try clear hk)
              (try clear hi)
              refine hK.out _ _ ⟨(blk_cell BK140.out 0).trans rfl, (blk_cell BK140.out 1).trans rfl, (blk_cell BK140.out 2).trans rfl, (blk_cell BK140.out 3).trans rfl, HS4_⟩ (fun hHeld => ?_)
              clear hK K
              refine no_ 107 ?_
              refine one_ (i := 6) (N := some 15) (bs 8 127) rfl rfl (one_of HT_.out (by kernel_rfl)) (by decide) (fun K hK => ?_)
              refine box_step ?hg (N := 15) ?hd (cs := #[.string (⟨#[]⟩ : ByteArray), .int .i64 0, .int .i64 0]) (t := 31) ?hr ?_; (case hd => rfl); (case hg => rfl); (case hr => exact hr_)
              intro gb173 hg w91 hbox hb
              have HS4_ := (hb.cell (World.block_lt_of_cell? _ _ (hHeld.2.2.2.2))).trans (hHeld.2.2.2.2)
              replace HO_7 := am_ (Kd.R_below (rk_ HO_7) hb)
              replace HO_11 := am_ (Kd.R_below (rk_ HO_11) hb)
              replace HO_156001 := am_ (Kd.S_below au2_0 hb)
              replace HO_169000 := am_ (Kd.R_below (rk_ HO_169000) hb)
              have BK173 := am_ (hbox)
              have GW173 := am_ (gw_ hg bl_)
              have GE173 := am_ (gw_ hg bl_)
              replace HB := hs_ w hb
              have NB140_173 := am_ (gn_ hg (blkl_ BK140))
              have NB173_140 := am_ (gm_ hg (blkl_ BK140))
              replace BK140 := bb_ BK140 hb
              have NB141_173 := am_ (gn_ hg (blkl_ BK141))
              have NB173_141 := am_ (gm_ hg (blkl_ BK141))
              replace BK141 := bb_ BK141 hb
              have NB155_173 := am_ (gn_ hg (blkl_ BK155))
              have NB173_155 := am_ (gm_ hg (blkl_ BK155))
              replace BK155 := bb_ BK155 hb
              have NB168_173 := am_ (gn_ hg (blkl_ BK168))
              have NB173_168 := am_ (gm_ hg (blkl_ BK168))
              replace BK168 := bb_ BK168 hb
              clear hb hbox hg
              refine hK.out _ _ ⟨(blk_cell BK140.out 0).trans rfl, (blk_cell BK140.out 1).trans rfl, (blk_cell BK140.out 2).trans rfl, (blk_cell BK140.out 3).trans rfl, HS4_⟩ (fun hHeld => ?_)
              clear hK K
              refine no_ 15 ?_
              exact norm_ au2_12 (hCont (gb173) _ ⟨hHeld, au2_8, au2_6, au2_7, (rk_ HO_7), (bk_ BK140), (bk_ BK141), (bk_ BK155), (bk_ BK168), (bk_ BK173), GW173.out, GE173.out, NB140_173.out, NB173_140.out, NB141_173.out, NB173_141.out, NB155_173.out, NB173_155.out, NB168_173.out, NB173_168.out, bl_⟩)
             skip
             refine box_step ?hg (N := 15) ?hd (cs := #[.string (⟨#[]⟩ : ByteArray), .int .i64 0, .int .i64 0]) (t := 31) ?hr ?_; (case hd => rfl); (case hg => rfl); (case hr => exact hr_)
             intro gb173 hg w90 hbox hb
             have HS4_ := (hb.cell (World.block_lt_of_cell? _ _ (hHeld.2.2.2.2))).trans (hHeld.2.2.2.2)
             replace HO_7 := am_ (Kd.R_below (rk_ HO_7) hb)
             replace HO_11 := am_ (Kd.R_below (rk_ HO_11) hb)
             replace HO_156001 := am_ (Kd.S_below au2_0 hb)
             replace HO_169000 := am_ (Kd.R_below (rk_ HO_169000) hb)
             have BK173 := am_ (hbox)
             have GW173 := am_ (gw_ hg bl_)
             have GE173 := am_ (gw_ hg bl_)
             replace HB := hs_ w hb
             have NB140_173 := am_ (gn_ hg (blkl_ BK140))
             have NB173_140 := am_ (gm_ hg (blkl_ BK140))
             replace BK140 := bb_ BK140 hb
             have NB141_173 := am_ (gn_ hg (blkl_ BK141))
             have NB173_141 := am_ (gm_ hg (blkl_ BK141))
             replace BK141 := bb_ BK141 hb
             have NB155_173 := am_ (gn_ hg (blkl_ BK155))
             have NB173_155 := am_ (gm_ hg (blkl_ BK155))
             replace BK155 := bb_ BK155 hb
             have NB168_173 := am_ (gn_ hg (blkl_ BK168))
             have NB173_168 := am_ (gm_ hg (blkl_ BK168))
             replace BK168 := bb_ BK168 hb
             clear hb hbox hg
             refine hK.out _ _ ⟨(blk_cell BK140.out 0).trans rfl, (blk_cell BK140.out 1).trans rfl, (blk_cell BK140.out 2).trans rfl, (blk_cell BK140.out 3).trans rfl, HS4_⟩ (fun hHeld => ?_)
             clear hK K
             refine no_ 15 ?_
             refine one_ (i := 5) (N := some 107) (bs 8 127) rfl rfl (one_of HT_.out (by kernel_rfl)) (by decide) (fun K hK => ?_)
             refine gr_ Try.func18 #[.agg #[.int .i64 a0_0, .int .i64 a0_1, .int .i64 a0_2, .int .i64 a0_3], .string (rdOf ByteArray.empty t158 x14_5)] (by rfl) ?_ rfl rfl rfl
             with_reducible refine (F18.calls k5 a0_0 a0_1 a0_2 a0_3 (rdOf ByteArray.empty t158 x14_5) t170 t171 t172 _ A62.out).mono ?_
             rintro e w91 ⟨rfl, hb⟩
             have HS4_ := (hb.cell (World.block_lt_of_cell? _ _ (hHeld.2.2.2.2))).trans (hHeld.2.2.2.2)
             refine ⟨_, rfl, ?_⟩
             replace HO_7 := am_ (Kd.R_below (rk_ HO_7) hb)
             replace HO_11 := am_ (Kd.R_below (rk_ HO_11) hb)
             replace HO_156001 := am_ (Kd.S_below au2_0 hb)
             replace HO_169000 := am_ (Kd.R_below (rk_ HO_169000) hb)
             replace BK140 := bb_ BK140 hb
             replace BK141 := bb_ BK141 hb
             replace BK155 := bb_ BK155 hb
             replace BK168 := bb_ BK168 hb
             replace BK173 := bb_ BK173 hb
             replace HB := hs_ w hb
             (try clear hb)
             (try clear hb2)
             (try clear hk)
             (try clear hi)
             refine hK.out _ _ ⟨(blk_cell BK140.out 0).trans rfl, (blk_cell BK140.out 1).trans rfl, (blk_cell BK140.out 2).trans rfl, (blk_cell BK140.out 3).trans rfl, HS4_⟩ (fun hHeld => ?_)
             clear hK K
             refine no_ 107 ?_
             exact norm_ au2_12 (hCont (gb173) _ ⟨hHeld, au2_8, au2_6, au2_7, (rk_ HO_7), (bk_ BK140), (bk_ BK141), (bk_ BK155), (bk_ BK168), (bk_ BK173), GW173.out, GE173.out, NB140_173.out, NB173_140.out, NB141_173.out, NB173_141.out, NB155_173.out, NB173_155.out, NB168_173.out, NB173_168.out, bl_⟩)
            rintro gb173 w92 ⟨hS_, h0_, h1_, h2_, h3_, h4_, h5_, h6_, h7_, h8_, h9_, h10_, h11_, h12_, h13_, h14_, h15_, h16_, h17_, h18_, h19_⟩
            have n0_ : Aside0 (Kd.R Kd.string 9 w92 w.heap.size (fun k_ => some k_ ≠ (u169000 : Value).ownBlock ∧ some k_ ≠ (.slice (some ad145) t142.length co35 : Value).ownBlock) (.slice (some ad169) t158.length co88) t158) := ⟨h0_⟩
            have n1_ : Aside0 (Kd.S k102 102 w92 w.heap.size (fun k_ => some k_ ≠ (.slice (some ad169) t158.length co88 : Value).ownBlock ∧ some k_ ≠ (u169000 : Value).ownBlock ∧ some k_ ≠ (.slice (some ad145) t142.length co35 : Value).ownBlock ∧ k_ ≠ gb168) u156001 x156001_3) := ⟨h1_⟩
            have n2_ : Aside0 (Kd.R Kd.string 9 w92 w.heap.size (fun k_ => some k_ ≠ (.slice (some ad169) t158.length co88 : Value).ownBlock ∧ some k_ ≠ (.slice (some ad145) t142.length co35 : Value).ownBlock) u169000 x169000_5) := ⟨h2_⟩
            have n3_ : Aside0 (Kd.R Kd.string 9 w92 w.heap.size (fun k_ => some k_ ≠ (.slice (some ad169) t158.length co88 : Value).ownBlock ∧ some k_ ≠ (u169000 : Value).ownBlock) (.slice (some ad145) t142.length co35) t142) := ⟨h3_⟩
            have n4_ : Aside0 (w92.heap[gb140]? = some (.cells #[.int .i64 a0_0, .int .i64 a0_1, .int .i64 a0_2, .int .i64 a0_3] 23 (0, 0))) := ⟨h4_⟩
            have n5_ : Aside0 (w92.heap[gb141]? = some (.cells #[.string x142000_5, .slice none 0 0, .int .i64 x142002_5, .int .i64 x142003_5, .int .i64 x142004_5] 66 (0, 0))) := ⟨h5_⟩
            have n6_ : Aside0 (w92.heap[gb155]? = some (.cells #[.string (rdOf ByteArray.empty t142 0), u156001] 59 (0, 0))) := ⟨h6_⟩
            have n7_ : Aside0 (w92.heap[gb168]? = some (.cells #[u169000] 102 (0, 0))) := ⟨h7_⟩
            have n8_ : Aside0 (w92.heap[gb173]? = some (.cells #[.string (⟨#[]⟩ : ByteArray), .int .i64 0, .int .i64 0] 31 (0, 0))) := ⟨h8_⟩
            have n9_ : Aside0 (w.heap.size ≤ gb173) := ⟨h9_⟩
            have n10_ : Aside0 (w.heap.size ≤ gb173) := ⟨h10_⟩
            have n11_ : Aside0 (gb140 ≠ gb173) := ⟨h11_⟩
            have n12_ : Aside0 (gb173 ≠ gb140) := ⟨h12_⟩
            have n13_ : Aside0 (gb141 ≠ gb173) := ⟨h13_⟩
            have n14_ : Aside0 (gb173 ≠ gb141) := ⟨h14_⟩
            have n15_ : Aside0 (gb155 ≠ gb173) := ⟨h15_⟩
            have n16_ : Aside0 (gb173 ≠ gb155) := ⟨h16_⟩
            have n17_ : Aside0 (gb168 ≠ gb173) := ⟨h17_⟩
            have n18_ : Aside0 (gb173 ≠ gb168) := ⟨h18_⟩
            have n19_ : Aside0 (Below w.heap.size w w92) := ⟨h19_⟩
            clear HO_7
            clear HO_11
            clear HO_156001
            clear HO_169000
            clear BK140
            clear BK141
            clear BK155
            clear BK168
            clear HB
            clear h0_ h1_ h2_ h3_ h4_ h5_ h6_ h7_ h8_ h9_ h10_ h11_ h12_ h13_ h14_ h15_ h16_ h17_ h18_ h19_
            have HO_11 := n0_
            have HO_156001 := n1_
            have HO_169000 := n2_
            have HO_7 := n3_
            have BK140 := n4_
            have BK141 := n5_
            have BK155 := n6_
            have BK168 := n7_
            have BK173 := n8_
            have GW173 := n9_
            have GE173 := n10_
            have NB140_173 := n11_
            have NB173_140 := n12_
            have NB141_173 := n13_
            have NB173_141 := n14_
            have NB155_173 := n15_
            have NB173_155 := n16_
            have NB168_173 := n17_
            have NB173_168 := n18_
            have HB := n19_
            clear n0_ n1_ n2_ n3_ n4_ n5_ n6_ n7_ n8_ n9_ n10_ n11_ n12_ n13_ n14_ n15_ n16_ n17_ n18_ n19_
            have hHeld : w92.cell? ⟨gb140, 0, none⟩ = some (.int .i64 a0_0) ∧ w92.cell? ⟨gb140, 1, none⟩ = some (.int .i64 a0_1) ∧ w92.cell? ⟨gb140, 2, none⟩ = some (.int .i64 a0_2) ∧ w92.cell? ⟨gb140, 3, none⟩ = some (.int .i64 a0_3) ∧ w92.cell? (ad169.add (x14_5).toNat) = some (.string (rdOf ByteArray.empty t158 x14_5)) := hS_
            refine norm_ (a' := ?_) ?_ ?_
            rotate_left
            ·simp only [putAll, Act.put, List.setIfInBounds_toArray, List.set_cons_zero, List.set_cons_succ]
             rfl
            refine one_ (i := 7) (N := none) (bs 8 255) rfl rfl (one_of HT_.out (by kernel_rfl)) (by decide) (fun K hK => ?_)
            have hs93 : w92.cell? ⟨gb173, 0, none⟩ = some (.string (⟨#[]⟩ : ByteArray)) := (blk_cell BK173.out 0).trans rfl
            have hfs93 := blk_frozen BK173.out 0
            have hns93_0 := NB140_173.out
            have hns93_1 := NB141_173.out
            have hns93_2 := NB155_173.out
            have hns93_3 := NB168_173.out
            have hms93_0 := NB173_140.out
            have hms93_1 := NB173_141.out
            have hms93_2 := NB173_155.out
            have hms93_3 := NB173_168.out
            have hs94 : w92.cell? ⟨gb173, 1, none⟩ = some (.int .i64 0) := (blk_cell BK173.out 1).trans rfl
            have hfs94 := blk_frozen BK173.out 1
            have hns94_0 := NB140_173.out
            have hns94_1 := NB141_173.out
            have hns94_2 := NB155_173.out
            have hns94_3 := NB168_173.out
            have hms94_0 := NB173_140.out
            have hms94_1 := NB173_141.out
            have hms94_2 := NB173_155.out
            have hms94_3 := NB173_168.out
            have hs95 : w92.cell? ⟨gb173, 2, none⟩ = some (.int .i64 0) := (blk_cell BK173.out 2).trans rfl
            have hfs95 := blk_frozen BK173.out 2
            have hns95_0 := NB140_173.out
            have hns95_1 := NB141_173.out
            have hns95_2 := NB155_173.out
            have hns95_3 := NB168_173.out
            have hms95_0 := NB173_140.out
            have hms95_1 := NB173_141.out
            have hms95_2 := NB173_155.out
            have hms95_3 := NB173_168.out
            refine skip_ (w1 := ?_) (by rfl) rfl ?_ ?_
            rotate_left
            ·go_simp
             rfl
            refine hK.out _ _ ⟨((cell_far (p := ⟨gb173, _, none⟩) NB140_173.out _).trans (((cell_far (p := ⟨gb173, _, none⟩) NB140_173.out _).trans (((cell_far (p := ⟨gb173, _, none⟩) NB140_173.out _).trans (hHeld.1)))))), ((cell_far (p := ⟨gb173, _, none⟩) NB140_173.out _).trans (((cell_far (p := ⟨gb173, _, none⟩) NB140_173.out _).trans (((cell_far (p := ⟨gb173, _, none⟩) NB140_173.out _).trans (hHeld.2.1)))))), ((cell_far (p := ⟨gb173, _, none⟩) NB140_173.out _).trans (((cell_far (p := ⟨gb173, _, none⟩) NB140_173.out _).trans (((cell_far (p := ⟨gb173, _, none⟩) NB140_173.out _).trans (hHeld.2.2.1)))))), ((cell_far (p := ⟨gb173, _, none⟩) NB140_173.out _).trans (((cell_far (p := ⟨gb173, _, none⟩) NB140_173.out _).trans (((cell_far (p := ⟨gb173, _, none⟩) NB140_173.out _).trans (hHeld.2.2.2.1)))))), ((cell_far (p := ⟨gb173, _, none⟩) au2_1 _).trans (((cell_far (p := ⟨gb173, _, none⟩) au2_1 _).trans (((cell_far (p := ⟨gb173, _, none⟩) au2_1 _).trans (hHeld.2.2.2.2))))))⟩ (fun hHeld => ?_)
            clear hK K
            refine done_ (done_of HT_.out (by kernel_rfl)) ?_
            have hnb96 := NB173_140.out
            have hnc96 := NB140_173.out
            have hnb97 := NB173_141.out
            have hnc97 := NB141_173.out
            have hnb98 := NB173_155.out
            have hnc98 := NB155_173.out
            have hnb99 := NB173_168.out
            have hnc99 := NB168_173.out
            obtain ⟨hcz100_0, hcz100_1, hcz100_2, hfz100_0, hfz100_1, hfz100_2⟩ := cellsF3 BK173.out
            try go_wp2_with (first | (go_at_call 76; (with_reducible refine (F76.calls k5 t170 false _ A64.out).mono ?_); rintro e w' ⟨rfl, ⟨nd, rfl⟩⟩; (try clear A64)) | (go_at_call 114; (with_reducible refine (F114.calls x13_5 t186 t187 t190 t191 t192 _ A87.out).mono ?_); rintro e w101 ⟨v188, rfl, ho0, hb⟩; (try clear A87); have HO189 := am_ (Kd.S_lower (Kd.S_newB (Kd.S_new' (Kd.S_new' (Kd.S_new' (Kd.S_new' ho0 (Kd.R_lt au2_3)) (Kd.R_lt au2_2)) (Kd.S_lt au2_4)) (Kd.R_lt au2_5)) (g := gb168) (o := .cells #[u169000] 102 (0, 0)) (bf_ BK168)) (below_size bl_)); replace HO_7 := am_ (Kd.R_below au2_3 hb); replace HO_11 := am_ (Kd.R_below au2_2 hb); replace HO_156001 := am_ (Kd.S_elder' au2_4 (Kd.S_base ho0) hb); replace HO_169000 := am_ (Kd.R_below au2_5 hb); replace BK140 := am_ (blk_below (g := gb140) (o := .cells #[.int .i64 a0_0, .int .i64 a0_1, .int .i64 a0_2, .int .i64 a0_3] 23 (0, 0)) (bf_ BK140) hb); replace BK141 := am_ (blk_below (g := gb141) (o := .cells #[.string x142000_5, .slice none 0 0, .int .i64 x142002_5, .int .i64 x142003_5, .int .i64 x142004_5] 66 (0, 0)) (bf_ BK141) hb); replace BK155 := am_ (blk_below (g := gb155) (o := .cells #[.string (rdOf ByteArray.empty t142 0), u156001] 59 (0, 0)) (bf_ BK155) hb); replace BK168 := am_ (blk_below (g := gb168) (o := .cells #[u169000] 102 (0, 0)) (bf_ BK168) hb); replace BK173 := am_ (blk_below (g := gb173) (o := .cells #[.string t170, .int .i64 t171, .int .i64 t172] 31 (0, 0)) (bq_ BK173) hb); replace HB := hs_ w hb; (try clear hb); (try clear hb2); (try clear hk); (try clear hi); (try clear ho0); have hnb102 := NB141_140.out; have hnc102 := NB140_141.out; have hnb103 := NB141_155.out; have hnc103 := NB155_141.out; have hnb104 := NB141_168.out; have hnc104 := NB168_141.out; obtain ⟨hcz105_0, hcz105_1, hcz105_2, hcz105_3, hcz105_4, hfz105_0, hfz105_1, hfz105_2, hfz105_3, hfz105_4⟩ := cellsF5 BK141.out; obtain ⟨Ao106, co106, eo106⟩ := Kd.S_slice HO189.out; subst eo106))
            refine bodyPost_ret (results_cell_row rfl _ _ gb141 66 #[.string t186, .slice Ao106 t187.length co106, .int .i64 t190, .int .i64 t191, .int .i64 t192] (0, 0) _ rfl (bq_ BK141) Try.underlying66 rfl (by kernel_rfl)) rfl ?_
            exact ⟨_, au2_9, by (with_reducible repeat (first | apply Kd.S_alloc | apply Kd.S_drewN | apply Kd.S_drew)); exact Kd.S_mono (Kd.S_far (p := ⟨gb141, 4, none⟩) (Kd.S_far (p := ⟨gb141, 3, none⟩) (Kd.S_far (p := ⟨gb141, 2, none⟩) (Kd.S_far (p := ⟨gb141, 1, none⟩) (Kd.S_far (p := ⟨gb141, 0, none⟩) (Kd.S_types HO189.out BK141.out (by decide)) (fun _ hk => hk.2) (.string t186)) (fun _ hk => hk.2) (.slice Ao106 t187.length co106)) (fun _ hk => hk.2) (.int .i64 t190)) (fun _ hk => hk.2) (.int .i64 t191)) (fun _ hk => hk.2) (.int .i64 t192)) (fun _ hk => trivial), bl_⟩
           replace H := iln_ H; rcases H with ⟨LMc66, H⟩
           obtain ⟨y182, hy182⟩ : ∃ y_ : List ByteArray, y_ = (x169000_5 ++ [t170]) := ⟨_, rfl⟩
           replace H : (F87.l2 k5 x5_1 t142 x9_3 x10_3 t158 (wrap64 ((wrap64 (x13_5 + ((rdOf ByteArray.empty t158 x14_5).size : Int))) + 1)) (wrap64 (x14_5 + 1)) a0_0 a0_1 a0_2 a0_3 (rdOf ByteArray.empty t142 0) x156001_3 y182) = some (r1, r2, r3, r4, r5) := by first | (rw [hy182]; exact H) | exact H
           have Ny182 := am_ hy182
           clear hy182
           have H' := am_ H
           clear H
           obtain ⟨Ao67, co67, eo67⟩ := Kd.R_slice HO_11.out
           subst eo67
           try go_wp2
           replace HO_7 := am_ (Kd.R_drew HO_7.out)
           replace HO_11 := am_ (Kd.R_drew HO_11.out)
           replace HO_156001 := am_ (Kd.S_drew HO_156001.out)
           replace HO_169000 := am_ (Kd.R_drew HO_169000.out)
           replace BK140 := bd_ BK140
           replace BK141 := bd_ BK141
           replace BK155 := bd_ BK155
           replace BK168 := bd_ BK168
           replace HB := am_ (below_drew1 HB.out)
           have p169 : 0 ≤ (x14_5 : Int) := od_
           have q169 : x14_5 < (t158.length : Int) := od_
           obtain ⟨ad169, e169, hx169_0⟩ := Kd.at_string (Kd.R_reads' HO_11.out).2.2 x14_5 p169 q169
           cases e169
           replace p169 := eq_true p169
           replace q169 := eq_true q169
           refine start_ (n := 8) (S := fun w' => w'.cell? ⟨gb140, 0, none⟩ = some (.int .i64 a0_0) ∧ w'.cell? ⟨gb140, 1, none⟩ = some (.int .i64 a0_1) ∧ w'.cell? ⟨gb140, 2, none⟩ = some (.int .i64 a0_2) ∧ w'.cell? ⟨gb140, 3, none⟩ = some (.int .i64 a0_3) ∧ w'.cell? (ad169.add (x14_5).toNat) = some (.string (rdOf ByteArray.empty t158 x14_5))) (ds := []) (bs 8 0) (by kernel_rfl) rfl rfl ⟨(blk_cell BK140.out 0).trans rfl, (blk_cell BK140.out 1).trans rfl, (blk_cell BK140.out 2).trans rfl, (blk_cell BK140.out 3).trans rfl, hx169_0⟩ (fun hHeld => ?_); refine with_tabW F87.tab29 F87.bits29 (fun HT_ HW_ => ?_)
           generalize wr.drew = w68 at HO_7 HO_11 HO_156001 HO_169000 BK140 BK141 BK155 BK168 HB hx169_0 hHeld ⊢
           refine pu_ 1 103 (bs 8 2) HT_ ?_ rfl rfl
           refine pu_ 2 104 (bs 8 6) HT_ ?_ rfl rfl
           refine pu_ 3 105 (bs 8 14) HT_ ?_ rfl rfl
           refine tk_ 0 102 (bs 8 15) HT_ HW_ hHeld au2_13 ?_ rfl rfl
           refine tk_ 4 106 (bs 8 31) HT_ HW_ hHeld au2_13 ?_ rfl rfl
           refine join_ (σ := Nat) 1 (bs 8 127) (fun s_ => [(107, .agg #[.string t170, .int .i64 t171, .int .i64 t172]), (15, .pointer (some ⟨s_, 0, none⟩))]) (fun s_ w' => (w'.cell? ⟨gb140, 0, none⟩ = some (.int .i64 a0_0) ∧ w'.cell? ⟨gb140, 1, none⟩ = some (.int .i64 a0_1) ∧ w'.cell? ⟨gb140, 2, none⟩ = some (.int .i64 a0_2) ∧ w'.cell? ⟨gb140, 3, none⟩ = some (.int .i64 a0_3) ∧ w'.cell? (ad169.add (x14_5).toNat) = some (.string (rdOf ByteArray.empty t158 x14_5))) ∧ (Kd.R Kd.string 9 w' w.heap.size (fun k_ => some k_ ≠ (u169000 : Value).ownBlock ∧ some k_ ≠ (.slice (some ad145) t142.length co35 : Value).ownBlock) (.slice (some ad169) t158.length co67) t158) ∧ (Kd.S k102 102 w' w.heap.size (fun k_ => some k_ ≠ (.slice (some ad169) t158.length co67 : Value).ownBlock ∧ some k_ ≠ (u169000 : Value).ownBlock ∧ some k_ ≠ (.slice (some ad145) t142.length co35 : Value).ownBlock ∧ k_ ≠ gb168) u156001 x156001_3) ∧ (Kd.R Kd.string 9 w' w.heap.size (fun k_ => some k_ ≠ (.slice (some ad169) t158.length co67 : Value).ownBlock ∧ some k_ ≠ (.slice (some ad145) t142.length co35 : Value).ownBlock) u169000 x169000_5) ∧ (Kd.R Kd.string 9 w' w.heap.size (fun k_ => some k_ ≠ (.slice (some ad169) t158.length co67 : Value).ownBlock ∧ some k_ ≠ (u169000 : Value).ownBlock) (.slice (some ad145) t142.length co35) t142) ∧ (w'.heap[gb140]? = some (.cells #[.int .i64 a0_0, .int .i64 a0_1, .int .i64 a0_2, .int .i64 a0_3] 23 (0, 0))) ∧ (w'.heap[gb141]? = some (.cells #[.string x142000_5, .slice none 0 0, .int .i64 x142002_5, .int .i64 x142003_5, .int .i64 x142004_5] 66 (0, 0))) ∧ (w'.heap[gb155]? = some (.cells #[.string (rdOf ByteArray.empty t142 0), u156001] 59 (0, 0))) ∧ (w'.heap[gb168]? = some (.cells #[u169000] 102 (0, 0))) ∧ (w'.heap[s_]? = some (.cells #[.string (⟨#[]⟩ : ByteArray), .int .i64 0, .int .i64 0] 31 (0, 0))) ∧ (w.heap.size ≤ s_) ∧ (w.heap.size ≤ s_) ∧ (gb140 ≠ s_) ∧ (s_ ≠ gb140) ∧ (gb141 ≠ s_) ∧ (s_ ≠ gb141) ∧ (gb155 ≠ s_) ∧ (s_ ≠ gb155) ∧ (gb168 ≠ s_) ∧ (s_ ≠ gb168) ∧ (Below w.heap.size w w')) ?_ ?_
           rotate_left
           ·intro hCont
            refine two_ (i := 5) (j := 6) (Ni := some 107) (Nj := some 15) (bs 8 63) (bs 8 95) rfl rfl rfl rfl (two_of HT_.out (by kernel_rfl)) (by decide) (by decide) (fun K hK => ?_) (fun K hK => ?_)
            ·skip
             refine gr_ Try.func18 #[.agg #[.int .i64 a0_0, .int .i64 a0_1, .int .i64 a0_2, .int .i64 a0_3], .string (rdOf ByteArray.empty t158 x14_5)] (by rfl) ?_ rfl rfl rfl
             with_reducible refine (F18.calls k5 a0_0 a0_1 a0_2 a0_3 (rdOf ByteArray.empty t158 x14_5) t170 t171 t172 _ A62.out).mono ?_
             rintro e w69 ⟨rfl, hb⟩
             have HS4_ := (hb.cell (World.block_lt_of_cell? _ _ (hHeld.2.2.2.2))).trans (hHeld.2.2.2.2)
             refine ⟨_, rfl, ?_⟩
             replace HO_7 := am_ (Kd.R_below (rk_ HO_7) hb)
             replace HO_11 := am_ (Kd.R_below (rk_ HO_11) hb)
             replace HO_156001 := am_ (Kd.S_below au2_0 hb)
             replace HO_169000 := am_ (Kd.R_below (rk_ HO_169000) hb)
             replace BK140 := bb_ BK140 hb
             replace BK141 := bb_ BK141 hb
             replace BK155 := bb_ BK155 hb
             replace BK168 := bb_ BK168 hb
             replace HB := hs_ w hb
             (try clear hb)
             (try clear hb2)
             (try clear hk)
             (try clear hi)
             refine hK.out _ _ ⟨(blk_cell BK140.out 0).trans rfl, (blk_cell BK140.out 1).trans rfl, (blk_cell BK140.out 2).trans rfl, (blk_cell BK140.out 3).trans rfl, HS4_⟩ (fun hHeld => ?_)
             clear hK K
             refine no_ 107 ?_
             refine one_ (i := 6) (N := some 15) (bs 8 127) rfl rfl (one_of HT_.out (by kernel_rfl)) (by decide) (fun K hK => ?_)
             refine box_step ?hg (N := 15) ?hd (cs := #[.string (⟨#[]⟩ : ByteArray), .int .i64 0, .int .i64 0]) (t := 31) ?hr ?_; (case hd => rfl); (case hg => rfl); (case hr => exact hr_)
             intro gb173 hg w70 hbox hb
             have HS4_ := (hb.cell (World.block_lt_of_cell? _ _ (hHeld.2.2.2.2))).trans (hHeld.2.2.2.2)
             replace HO_7 := am_ (Kd.R_below (rk_ HO_7) hb)
             replace HO_11 := am_ (Kd.R_below (rk_ HO_11) hb)
             replace HO_156001 := am_ (Kd.S_below au2_0 hb)
             replace HO_169000 := am_ (Kd.R_below (rk_ HO_169000) hb)
             have BK173 := am_ (hbox)
             have GW173 := am_ (gw_ hg bl_)
             have GE173 := am_ (gw_ hg bl_)
             replace HB := hs_ w hb
             have NB140_173 := am_ (gn_ hg (blkl_ BK140))
             have NB173_140 := am_ (gm_ hg (blkl_ BK140))
             replace BK140 := bb_ BK140 hb
             have NB141_173 := am_ (gn_ hg (blkl_ BK141))
             have NB173_141 := am_ (gm_ hg (blkl_ BK141))
             replace BK141 := bb_ BK141 hb
             have NB155_173 := am_ (gn_ hg (blkl_ BK155))
             have NB173_155 := am_ (gm_ hg (blkl_ BK155))
             replace BK155 := bb_ BK155 hb
             have NB168_173 := am_ (gn_ hg (blkl_ BK168))
             have NB173_168 := am_ (gm_ hg (blkl_ BK168))
             replace BK168 := bb_ BK168 hb
             clear hb hbox hg
             refine hK.out _ _ ⟨(blk_cell BK140.out 0).trans rfl, (blk_cell BK140.out 1).trans rfl, (blk_cell BK140.out 2).trans rfl, (blk_cell BK140.out 3).trans rfl, HS4_⟩ (fun hHeld => ?_)
             clear hK K
             refine no_ 15 ?_
             exact norm_ au2_12 (hCont (gb173) _ ⟨hHeld, au2_8, au2_6, au2_7, (rk_ HO_7), (bk_ BK140), (bk_ BK141), (bk_ BK155), (bk_ BK168), (bk_ BK173), GW173.out, GE173.out, NB140_173.out, NB173_140.out, NB141_173.out, NB173_141.out, NB155_173.out, NB173_155.out, NB168_173.out, NB173_168.out, bl_⟩)
            skip
            refine box_step ?hg (N := 15) ?hd (cs := #[.string (⟨#[]⟩ : ByteArray), .int .i64 0, .int .i64 0]) (t := 31) ?hr ?_; (case hd => rfl); (case hg => rfl); (case hr => exact hr_)
            intro gb173 hg w69 hbox hb
            have HS4_ := (hb.cell (World.block_lt_of_cell? _ _ (hHeld.2.2.2.2))).trans (hHeld.2.2.2.2)
            replace HO_7 := am_ (Kd.R_below (rk_ HO_7) hb)
            replace HO_11 := am_ (Kd.R_below (rk_ HO_11) hb)
            replace HO_156001 := am_ (Kd.S_below au2_0 hb)
            replace HO_169000 := am_ (Kd.R_below (rk_ HO_169000) hb)
            have BK173 := am_ (hbox)
            have GW173 := am_ (gw_ hg bl_)
            have GE173 := am_ (gw_ hg bl_)
            replace HB := hs_ w hb
            have NB140_173 := am_ (gn_ hg (blkl_ BK140))
            have NB173_140 := am_ (gm_ hg (blkl_ BK140))
            replace BK140 := bb_ BK140 hb
            have NB141_173 := am_ (gn_ hg (blkl_ BK141))
            have NB173_141 := am_ (gm_ hg (blkl_ BK141))
            replace BK141 := bb_ BK141 hb
            have NB155_173 := am_ (gn_ hg (blkl_ BK155))
            have NB173_155 := am_ (gm_ hg (blkl_ BK155))
            replace BK155 := bb_ BK155 hb
            have NB168_173 := am_ (gn_ hg (blkl_ BK168))
            have NB173_168 := am_ (gm_ hg (blkl_ BK168))
            replace BK168 := bb_ BK168 hb
            clear hb hbox hg
            refine hK.out _ _ ⟨(blk_cell BK140.out 0).trans rfl, (blk_cell BK140.out 1).trans rfl, (blk_cell BK140.out 2).trans rfl, (blk_cell BK140.out 3).trans rfl, HS4_⟩ (fun hHeld => ?_)
            clear hK K
            refine no_ 15 ?_
            refine one_ (i := 5) (N := some 107) (bs 8 127) rfl rfl (one_of HT_.out (by kernel_rfl)) (by decide) (fun K hK => ?_)
            refine gr_ Try.func18 #[.agg #[.int .i64 a0_0, .int .i64 a0_1, .int .i64 a0_2, .int .i64 a0_3], .string (rdOf ByteArray.empty t158 x14_5)] (by rfl) ?_ rfl rfl rfl
            with_reducible refine (F18.calls k5 a0_0 a0_1 a0_2 a0_3 (rdOf ByteArray.empty t158 x14_5) t170 t171 t172 _ A62.out).mono ?_
            rintro e w70 ⟨rfl, hb⟩
            have HS4_ := (hb.cell (World.block_lt_of_cell? _ _ (hHeld.2.2.2.2))).trans (hHeld.2.2.2.2)
            refine ⟨_, rfl, ?_⟩
            replace HO_7 := am_ (Kd.R_below (rk_ HO_7) hb)
            replace HO_11 := am_ (Kd.R_below (rk_ HO_11) hb)
            replace HO_156001 := am_ (Kd.S_below au2_0 hb)
            replace HO_169000 := am_ (Kd.R_below (rk_ HO_169000) hb)
            replace BK140 := bb_ BK140 hb
            replace BK141 := bb_ BK141 hb
            replace BK155 := bb_ BK155 hb
            replace BK168 := bb_ BK168 hb
            replace BK173 := bb_ BK173 hb
            replace HB := hs_ w hb
            (try clear hb)
            (try clear hb2)
            (try clear hk)
            (try clear hi)
            refine hK.out _ _ ⟨(blk_cell BK140.out 0).trans rfl, (blk_cell BK140.out 1).trans rfl, (blk_cell BK140.out 2).trans rfl, (blk_cell BK140.out 3).trans rfl, HS4_⟩ (fun hHeld => ?_)
            clear hK K
            refine no_ 107 ?_
            exact norm_ au2_12 (hCont (gb173) _ ⟨hHeld, au2_8, au2_6, au2_7, (rk_ HO_7), (bk_ BK140), (bk_ BK141), (bk_ BK155), (bk_ BK168), (bk_ BK173), GW173.out, GE173.out, NB140_173.out, NB173_140.out, NB141_173.out, NB173_141.out, NB155_173.out, NB173_155.out, NB168_173.out, NB173_168.out, bl_⟩)
           rintro gb173 w71 ⟨hS_, h0_, h1_, h2_, h3_, h4_, h5_, h6_, h7_, h8_, h9_, h10_, h11_, h12_, h13_, h14_, h15_, h16_, h17_, h18_, h19_⟩
           have n0_ : Aside0 (Kd.R Kd.string 9 w71 w.heap.size (fun k_ => some k_ ≠ (u169000 : Value).ownBlock ∧ some k_ ≠ (.slice (some ad145) t142.length co35 : Value).ownBlock) (.slice (some ad169) t158.length co67) t158) := ⟨h0_⟩
           have n1_ : Aside0 (Kd.S k102 102 w71 w.heap.size (fun k_ => some k_ ≠ (.slice (some ad169) t158.length co67 : Value).ownBlock ∧ some k_ ≠ (u169000 : Value).ownBlock ∧ some k_ ≠ (.slice (some ad145) t142.length co35 : Value).ownBlock ∧ k_ ≠ gb168) u156001 x156001_3) := ⟨h1_⟩
           have n2_ : Aside0 (Kd.R Kd.string 9 w71 w.heap.size (fun k_ => some k_ ≠ (.slice (some ad169) t158.length co67 : Value).ownBlock ∧ some k_ ≠ (.slice (some ad145) t142.length co35 : Value).ownBlock) u169000 x169000_5) := ⟨h2_⟩
           have n3_ : Aside0 (Kd.R Kd.string 9 w71 w.heap.size (fun k_ => some k_ ≠ (.slice (some ad169) t158.length co67 : Value).ownBlock ∧ some k_ ≠ (u169000 : Value).ownBlock) (.slice (some ad145) t142.length co35) t142) := ⟨h3_⟩
           have n4_ : Aside0 (w71.heap[gb140]? = some (.cells #[.int .i64 a0_0, .int .i64 a0_1, .int .i64 a0_2, .int .i64 a0_3] 23 (0, 0))) := ⟨h4_⟩
           have n5_ : Aside0 (w71.heap[gb141]? = some (.cells #[.string x142000_5, .slice none 0 0, .int .i64 x142002_5, .int .i64 x142003_5, .int .i64 x142004_5] 66 (0, 0))) := ⟨h5_⟩
           have n6_ : Aside0 (w71.heap[gb155]? = some (.cells #[.string (rdOf ByteArray.empty t142 0), u156001] 59 (0, 0))) := ⟨h6_⟩
           have n7_ : Aside0 (w71.heap[gb168]? = some (.cells #[u169000] 102 (0, 0))) := ⟨h7_⟩
           have n8_ : Aside0 (w71.heap[gb173]? = some (.cells #[.string (⟨#[]⟩ : ByteArray), .int .i64 0, .int .i64 0] 31 (0, 0))) := ⟨h8_⟩
           have n9_ : Aside0 (w.heap.size ≤ gb173) := ⟨h9_⟩
           have n10_ : Aside0 (w.heap.size ≤ gb173) := ⟨h10_⟩
           have n11_ : Aside0 (gb140 ≠ gb173) := ⟨h11_⟩
           have n12_ : Aside0 (gb173 ≠ gb140) := ⟨h12_⟩
           have n13_ : Aside0 (gb141 ≠ gb173) := ⟨h13_⟩
           have n14_ : Aside0 (gb173 ≠ gb141) := ⟨h14_⟩
           have n15_ : Aside0 (gb155 ≠ gb173) := ⟨h15_⟩
           have n16_ : Aside0 (gb173 ≠ gb155) := ⟨h16_⟩
           have n17_ : Aside0 (gb168 ≠ gb173) := ⟨h17_⟩
           have n18_ : Aside0 (gb173 ≠ gb168) := ⟨h18_⟩
           have n19_ : Aside0 (Below w.heap.size w w71) := ⟨h19_⟩
           clear HO_7
           clear HO_11
           clear HO_156001
           clear HO_169000
           clear BK140
           clear BK141
           clear BK155
           clear BK168
           clear HB
           clear h0_ h1_ h2_ h3_ h4_ h5_ h6_ h7_ h8_ h9_ h10_ h11_ h12_ h13_ h14_ h15_ h16_ h17_ h18_ h19_
           have HO_11 := n0_
           have HO_156001 := n1_
           have HO_169000 := n2_
           have HO_7 := n3_
           have BK140 := n4_
           have BK141 := n5_
           have BK155 := n6_
           have BK168 := n7_
           have BK173 := n8_
           have GW173 := n9_
           have GE173 := n10_
           have NB140_173 := n11_
           have NB173_140 := n12_
           have NB141_173 := n13_
           have NB173_141 := n14_
           have NB155_173 := n15_
           have NB173_155 := n16_
           have NB168_173 := n17_
           have NB173_168 := n18_
           have HB := n19_
           clear n0_ n1_ n2_ n3_ n4_ n5_ n6_ n7_ n8_ n9_ n10_ n11_ n12_ n13_ n14_ n15_ n16_ n17_ n18_ n19_
           have hHeld : w71.cell? ⟨gb140, 0, none⟩ = some (.int .i64 a0_0) ∧ w71.cell? ⟨gb140, 1, none⟩ = some (.int .i64 a0_1) ∧ w71.cell? ⟨gb140, 2, none⟩ = some (.int .i64 a0_2) ∧ w71.cell? ⟨gb140, 3, none⟩ = some (.int .i64 a0_3) ∧ w71.cell? (ad169.add (x14_5).toNat) = some (.string (rdOf ByteArray.empty t158 x14_5)) := hS_
           refine norm_ (a' := ?_) ?_ ?_
           rotate_left
           ·simp only [putAll, Act.put, List.setIfInBounds_toArray, List.set_cons_zero, List.set_cons_succ]
            rfl
           refine one_ (i := 7) (N := none) (bs 8 255) rfl rfl (one_of HT_.out (by kernel_rfl)) (by decide) (fun K hK => ?_)
           have hs72 : w71.cell? ⟨gb173, 0, none⟩ = some (.string (⟨#[]⟩ : ByteArray)) := (blk_cell BK173.out 0).trans rfl
           have hfs72 := blk_frozen BK173.out 0
           have hns72_0 := NB140_173.out
           have hns72_1 := NB141_173.out
           have hns72_2 := NB155_173.out
           have hns72_3 := NB168_173.out
           have hms72_0 := NB173_140.out
           have hms72_1 := NB173_141.out
           have hms72_2 := NB173_155.out
           have hms72_3 := NB173_168.out
           have hs73 : w71.cell? ⟨gb173, 1, none⟩ = some (.int .i64 0) := (blk_cell BK173.out 1).trans rfl
           have hfs73 := blk_frozen BK173.out 1
           have hns73_0 := NB140_173.out
           have hns73_1 := NB141_173.out
           have hns73_2 := NB155_173.out
           have hns73_3 := NB168_173.out
           have hms73_0 := NB173_140.out
           have hms73_1 := NB173_141.out
           have hms73_2 := NB173_155.out
           have hms73_3 := NB173_168.out
           have hs74 : w71.cell? ⟨gb173, 2, none⟩ = some (.int .i64 0) := (blk_cell BK173.out 2).trans rfl
           have hfs74 := blk_frozen BK173.out 2
           have hns74_0 := NB140_173.out
           have hns74_1 := NB141_173.out
           have hns74_2 := NB155_173.out
           have hns74_3 := NB168_173.out
           have hms74_0 := NB173_140.out
           have hms74_1 := NB173_141.out
           have hms74_2 := NB173_155.out
           have hms74_3 := NB173_168.out
           refine skip_ (w1 := ?_) (by rfl) rfl ?_ ?_
           rotate_left
           ·go_simp
            rfl
           refine hK.out _ _ ⟨((cell_far (p := ⟨gb173, _, none⟩) NB140_173.out _).trans (((cell_far (p := ⟨gb173, _, none⟩) NB140_173.out _).trans (((cell_far (p := ⟨gb173, _, none⟩) NB140_173.out _).trans (hHeld.1)))))), ((cell_far (p := ⟨gb173, _, none⟩) NB140_173.out _).trans (((cell_far (p := ⟨gb173, _, none⟩) NB140_173.out _).trans (((cell_far (p := ⟨gb173, _, none⟩) NB140_173.out _).trans (hHeld.2.1)))))), ((cell_far (p := ⟨gb173, _, none⟩) NB140_173.out _).trans (((cell_far (p := ⟨gb173, _, none⟩) NB140_173.out _).trans (((cell_far (p := ⟨gb173, _, none⟩) NB140_173.out _).trans (hHeld.2.2.1)))))), ((cell_far (p := ⟨gb173, _, none⟩) NB140_173.out _).trans (((cell_far (p := ⟨gb173, _, none⟩) NB140_173.out _).trans (((cell_far (p := ⟨gb173, _, none⟩) NB140_173.out _).trans (hHeld.2.2.2.1)))))), ((cell_far (p := ⟨gb173, _, none⟩) au2_1 _).trans (((cell_far (p := ⟨gb173, _, none⟩) au2_1 _).trans (((cell_far (p := ⟨gb173, _, none⟩) au2_1 _).trans (hHeld.2.2.2.2))))))⟩ (fun hHeld => ?_)
           clear hK K
           refine done_ (done_of HT_.out (by kernel_rfl)) ?_
           have hnb75 := NB173_140.out
           have hnc75 := NB140_173.out
           have hnb76 := NB173_141.out
           have hnc76 := NB141_173.out
           have hnb77 := NB173_155.out
           have hnc77 := NB155_173.out
           have hnb78 := NB173_168.out
           have hnc78 := NB168_173.out
           obtain ⟨hcz79_0, hcz79_1, hcz79_2, hfz79_0, hfz79_1, hfz79_2⟩ := cellsF3 BK173.out
           try go_wp2_with (first | (go_at_call 76; (with_reducible refine (F76.calls k5 t170 true _ A64.out).mono ?_); rintro e w' ⟨rfl, ⟨nd, rfl⟩⟩; (try clear A64); have hnb80 := NB168_140.out; have hnc80 := NB140_168.out; have hnb81 := NB168_141.out; have hnc81 := NB141_168.out; have hnb82 := NB168_155.out; have hnc82 := NB155_168.out; have hcz83_0 : w71.cell? ⟨gb168, 0, none⟩ = some (u169000) := (blk_cell BK168.out 0).trans rfl; have hfz83_0 := blk_frozen BK168.out 0) | ((with_reducible refine gate_builtin (b := .append) (xs := #[.tmp 123, .tmp 126]) rfl ?_); (try (refine gate_guard (by rfl) ?_; dsimp only)); at_builtin; refine Kd.R_append Kd.string (w0 := w) w.heap.size rfl (.tmp 123) (.tmp 126) 41 9 (.string ⟨#[]⟩) 16 rfl Try.underlying41 info9 rfl (by decide) (by omega) u169000 x169000_5 t170 [.string t170] (fun k_ => some k_ ≠ (.slice (some ad145) t142.length co35 : Value).ownBlock ∧ some k_ ≠ (.slice (some ad169) t158.length co67 : Value).ownBlock) (fun _ => False) rfl (by first | (go_simp; done) | (go_simp; rfl)) ?aP (fun _ hk => hk.elim) ?aF ?aO ?aB ?aS ?aL ?_; (case aP => exact rfl); (case aB => exact bl_); (case aF => exact (fun k_ hk => ⟨Kd.fresh' (Kd.R_lt au2_3) k_ hk, Kd.fresh' (Kd.R_lt au2_2) k_ hk⟩)); (case aO => exact (by (with_reducible repeat (first | apply Kd.R_alloc | apply Kd.R_drewN | apply Kd.R_drew)); exact Kd.R_mono (Kd.R_far (p := ⟨gb173, 2, none⟩) (Kd.R_far (p := ⟨gb173, 1, none⟩) (Kd.R_far (p := ⟨gb173, 0, none⟩) (Kd.R_types HO_169000.out BK173.out (by decide)) (fun _ hk => hk.2) (.string t170)) (fun _ hk => hk.2) (.int .i64 t171)) (fun _ hk => hk.2) (.int .i64 t172)) (fun _ hk => ⟨hk.1.2, hk.1.1⟩))); (case aS => exact (below_size bl_)); (case aL => have := LMc66.out; omega); intro v183 w84 ho hb hg hat; rw [← Ny182.out] at ho; have n0_ := am_ (Kd.R_after (ok := (fun k_ => some k_ ≠ (.slice (some ad169) t158.length co67 : Value).ownBlock)) (by (with_reducible repeat (first | apply Kd.R_alloc | apply Kd.R_drewN | apply Kd.R_drew)); exact Kd.R_mono (Kd.R_far (p := ⟨gb173, 2, none⟩) (Kd.R_far (p := ⟨gb173, 1, none⟩) (Kd.R_far (p := ⟨gb173, 0, none⟩) (Kd.R_types HO_7.out BK173.out (by decide)) (fun _ hk => hk.2) (.string t170)) (fun _ hk => hk.2) (.int .i64 t171)) (fun _ hk => hk.2) (.int .i64 t172)) (fun _ hk => ⟨hk.1.1, hk.1.2⟩)) hg hat); have n1_ := am_ (Kd.R_after (ok := (fun k_ => some k_ ≠ (.slice (some ad145) t142.length co35 : Value).ownBlock)) (by (with_reducible repeat (first | apply Kd.R_alloc | apply Kd.R_drewN | apply Kd.R_drew)); exact Kd.R_mono (Kd.R_far (p := ⟨gb173, 2, none⟩) (Kd.R_far (p := ⟨gb173, 1, none⟩) (Kd.R_far (p := ⟨gb173, 0, none⟩) (Kd.R_types HO_11.out BK173.out (by decide)) (fun _ hk => hk.2) (.string t170)) (fun _ hk => hk.2) (.int .i64 t171)) (fun _ hk => hk.2) (.int .i64 t172)) (fun _ hk => ⟨hk.1.2, hk.1.1⟩)) hg hat); have n2_ := am_ (Kd.S_after (ok := (fun k_ => some k_ ≠ (.slice (some ad145) t142.length co35 : Value).ownBlock ∧ some k_ ≠ (.slice (some ad169) t158.length co67 : Value).ownBlock ∧ k_ ≠ gb168)) (by (with_reducible repeat (first | apply Kd.S_alloc | apply Kd.S_drewN | apply Kd.S_drew)); exact Kd.S_mono (Kd.S_far (p := ⟨gb173, 2, none⟩) (Kd.S_far (p := ⟨gb173, 1, none⟩) (Kd.S_far (p := ⟨gb173, 0, none⟩) (Kd.S_types HO_156001.out BK173.out (by decide)) (fun _ hk => hk.2) (.string t170)) (fun _ hk => hk.2) (.int .i64 t171)) (fun _ hk => hk.2) (.int .i64 t172)) (fun _ hk => ⟨⟨hk.1.2.2.1, ⟨hk.1.1, hk.1.2.2.2⟩⟩, hk.1.2.1⟩)) hg hat); have n3_ := am_ (bg_ BK140 hg (Kd.R_ne HO_169000.out BK140.out (by decide))); have n4_ := am_ (bg_ BK141 hg (Kd.R_ne HO_169000.out BK141.out (by decide))); have n5_ := am_ (bg_ BK155 hg (Kd.R_ne HO_169000.out BK155.out (by decide))); have n6_ := am_ (bg_ BK168 hg (Kd.R_ne HO_169000.out BK168.out (by decide))); have n7_ := am_ (blk_grown (g := gb173) (o := .cells #[.string t170, .int .i64 t171, .int .i64 t172] 31 (0, 0)) (bq_ BK173) hg (Kd.R_ne HO_169000.out BK173.out (by decide))); have n8_ := am_ (hb); have n9_ := am_ (ho); clear HO_7; clear HO_11; clear HO_156001; clear BK140; clear BK141; clear BK155; clear BK168; clear BK173; clear HB; clear HO_169000; have HO_7 := n0_; have HO_11 := n1_; have HO_156001 := n2_; have BK140 := n3_; have BK141 := n4_; have BK155 := n5_; have BK168 := n6_; have BK173 := n7_; have HB := n8_; have HO184 := n9_; clear n0_ n1_ n2_ n3_ n4_ n5_ n6_ n7_ n8_ n9_; clear ho hb hg hat; obtain ⟨Ao85, co85, eo85⟩ := Kd.R_slice HO184.out; subst eo85; have hcz86_0 : w84.cell? ⟨gb168, 0, none⟩ = some (u169000) := (blk_cell BK168.out 0).trans rfl; have hfz86_0 := blk_frozen BK168.out 0; have p185 : 0 ≤ (x14_5 : Int) := od_; have q185 : x14_5 < (t158.length : Int) := od_; obtain ⟨ad185, e185, hx185_0⟩ := Kd.at_string (Kd.R_reads' HO_11.out).2.2 x14_5 p185 q185; obtain rfl : ad169 = ad185 := (by injection e185); have hn185_0 : ad169.block ≠ gb168 := Kd.own_blk (Kd.R_ne HO_11.out BK168.out (by decide)); replace hx185_0 := (cell_far (p := ⟨gb168, 0, none⟩) (by first | (rw [add_block]; exact hn185_0) | (show (Addr.add _ _).block ≠ _; rw [add_block]; exact hn185_0) | exact hn185_0) (.slice Ao85 y182.length co85)).trans hx185_0; clear hn185_0; replace p185 := eq_true p185; replace q185 := eq_true q185))
           go_roundg k5
           case measure => have := HK1.out; have := HJ9.out; have := HK3.out; have := HJ42.out; have := HK5.out; omega
           case rel => exact ⟨(wrap64 ((wrap64 (x13_5 + ((rdOf ByteArray.empty t158 x14_5).size : Int))) + 1)), (wrap64 (x14_5 + 1)), (x142000_5), (x142002_5), (x142003_5), (x142004_5), (y182), (.slice Ao85 y182.length co85), er_, er_, H', ⟨au2_14⟩, ⟨by (with_reducible repeat (first | apply Kd.R_alloc | apply Kd.R_drewN | apply Kd.R_drew)); exact Kd.R_mono (Kd.R_far (p := ⟨gb168, 0, none⟩) (Kd.R_types HO_7.out BK168.out (by decide)) (fun _ hk => hk.2) (.slice Ao85 y182.length co85)) (fun _ hk => ⟨hk.1.1, hk.1.2⟩)⟩, ⟨by (with_reducible repeat (first | apply Kd.R_alloc | apply Kd.R_drewN | apply Kd.R_drew)); exact Kd.R_mono (Kd.R_far (p := ⟨gb168, 0, none⟩) (Kd.R_types HO_11.out BK168.out (by decide)) (fun _ hk => hk.2) (.slice Ao85 y182.length co85)) (fun _ hk => ⟨hk.1.1, hk.1.2⟩)⟩, ⟨by (with_reducible repeat (first | apply Kd.S_alloc | apply Kd.S_drewN | apply Kd.S_drew)); exact Kd.S_mono (Kd.S_far (p := ⟨gb168, 0, none⟩) (Kd.S_mono HO_156001.out (fun k_ hk => (⟨hk, hk.1.2.2⟩ : _ ∧ k_ ≠ gb168))) (fun _ hk => hk.2) (.slice Ao85 y182.length co85)) (fun _ hk => ⟨hk.1.1.1, ⟨hk.1.1.2.1, ⟨hk.1.2, hk.1.1.2.2⟩⟩⟩)⟩, ⟨by (with_reducible repeat (first | apply Kd.R_alloc | apply Kd.R_drewN | apply Kd.R_drew)); exact Kd.R_mono (Kd.R_far (p := ⟨gb168, 0, none⟩) (Kd.R_types HO184.out BK168.out (by decide)) (fun _ hk => hk.2) (.slice Ao85 y182.length co85)) (fun _ hk => ⟨hk.1.1, hk.1.2⟩)⟩, ⟨bf_ BK140⟩, ⟨bf_ BK141⟩, ⟨bf_ BK155⟩, ⟨bq_ BK168⟩, ⟨bl_⟩⟩
end Go.Proofs.Ytchoalagkcdbhaa.PFnExactSegmentsRead
