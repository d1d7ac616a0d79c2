-- printed by a program of this session (wip/xp/xprint.py) out of the translation; Lean checks it
import Derived.Test.YtchoalagkcdbhaaPFnSegmentBackx0
import Derived.Test.YtchoalagkcdbhaaPFnSegmentBackx1
namespace Go.Proofs.Ytchoalagkcdbhaa.PFnSegmentBack
open Go.RowKit Go.Proofs.YtchoalagkcdbhaaW.PrintWords Go.Proofs.YtchoalagkcdbhaaW.PrintLast Go.Proofs.YtchoalagkcdbhaaW.PrintMore
attribute [local go_sem] max2_int min2_int max_two min_two max_three min_three max_four min_four   -- for this text's walks alone
set_option linter.unusedVariables false
set_option linter.unusedSimpArgs false
set_option maxHeartbeats 8000000
set_option maxRecDepth 100000

theorem au2_0 {p : Prop} (h : p := by (with_reducible repeat (first | apply Kd.S_alloc | apply Kd.S_drewN | apply Kd.S_drew)); exact HO_245001.out) : p := h
theorem au2_1 {p : Prop} (h : p := by first | exact Kd.own_blk (Kd.R_ne HO_11.out BK262.out (by decide)) | (rw [add_block]; exact Kd.own_blk (Kd.R_ne HO_11.out BK262.out (by decide))) | (show (Addr.add _ _).block ≠ _; rw [add_block]; exact Kd.own_blk (Kd.R_ne HO_11.out BK262.out (by decide))) | (dsimp only; exact Kd.own_blk (Kd.R_ne HO_11.out BK262.out (by decide)))) : p := h
theorem au2_2 {p : Prop} (h : p := by (with_reducible repeat (first | apply Kd.R_alloc | apply Kd.R_drewN | apply Kd.R_drew)); exact (Kd.R_mono (Kd.R_far (p := ⟨gb262, 2, none⟩) (Kd.R_far (p := ⟨gb262, 1, none⟩) (Kd.R_far (p := ⟨gb262, 0, none⟩) (Kd.R_types HO_11.out BK262.out (by decide)) (fun _ hk => hk.2) (.string t259)) (fun _ hk => hk.2) (.int .i64 t260)) (fun _ hk => hk.2) (.int .i64 t261)) (fun _ h_ => h_.1))) : p := h
theorem au2_3 {p : Prop} (h : p := by (with_reducible repeat (first | apply Kd.R_alloc | apply Kd.R_drewN | apply Kd.R_drew)); exact (Kd.R_mono (Kd.R_far (p := ⟨gb262, 2, none⟩) (Kd.R_far (p := ⟨gb262, 1, none⟩) (Kd.R_far (p := ⟨gb262, 0, none⟩) (Kd.R_types HO_7.out BK262.out (by decide)) (fun _ hk => hk.2) (.string t259)) (fun _ hk => hk.2) (.int .i64 t260)) (fun _ hk => hk.2) (.int .i64 t261)) (fun _ h_ => h_.1))) : p := h
theorem au2_4 {p : Prop} (h : p := by (with_reducible repeat (first | apply Kd.S_alloc | apply Kd.S_drewN | apply Kd.S_drew)); exact (Kd.S_mono (Kd.S_far (p := ⟨gb262, 2, none⟩) (Kd.S_far (p := ⟨gb262, 1, none⟩) (Kd.S_far (p := ⟨gb262, 0, none⟩) (Kd.S_types HO_245001.out BK262.out (by decide)) (fun _ hk => hk.2) (.string t259)) (fun _ hk => hk.2) (.int .i64 t260)) (fun _ hk => hk.2) (.int .i64 t261)) (fun _ h_ => h_.1))) : p := h
theorem au2_5 {p : Prop} (h : p := by (with_reducible repeat (first | apply Kd.R_alloc | apply Kd.R_drewN | apply Kd.R_drew)); exact (Kd.R_mono (Kd.R_far (p := ⟨gb262, 2, none⟩) (Kd.R_far (p := ⟨gb262, 1, none⟩) (Kd.R_far (p := ⟨gb262, 0, none⟩) (Kd.R_types HO_258000.out BK262.out (by decide)) (fun _ hk => hk.2) (.string t259)) (fun _ hk => hk.2) (.int .i64 t260)) (fun _ hk => hk.2) (.int .i64 t261)) (fun _ h_ => h_.1))) : p := h
theorem au2_6 {p : Prop} (h : p := by (with_reducible repeat (first | apply Kd.S_alloc | apply Kd.S_drewN | apply Kd.S_drew)); exact Kd.S_mono HO_245001.out (fun _ hk => ⟨hk.2.1, ⟨hk.2.2.1, ⟨hk.1, hk.2.2.2⟩⟩⟩)) : p := h
theorem au2_7 {p : Prop} (h : p := by (with_reducible repeat (first | apply Kd.R_alloc | apply Kd.R_drewN | apply Kd.R_drew)); exact Kd.R_mono HO_258000.out (fun _ hk => ⟨hk.2, hk.1⟩)) : p := h
theorem au2_8 {p : Prop} (h : p := by (with_reducible repeat (first | apply Kd.R_alloc | apply Kd.R_drewN | apply Kd.R_drew)); exact Kd.R_mono HO_11.out (fun _ hk => ⟨hk.2, hk.1⟩)) : p := h
theorem au2_9 {p : Prop} (h : p := by first | rfl | (simp [errW_none, errW_some] <;> rfl) | (simp [*, errW_none, errW_some] <;> rfl)) : p := h
theorem au2_10 {p : Prop} (h : p := by exact (by (with_reducible repeat (first | apply Kd.S_alloc | apply Kd.S_drewN | apply Kd.S_drew)); exact Kd.S_mono HO_245001.out (fun k_ hk => ⟨⟨hk.1, ⟨hk.2.1, hk.2.2.2⟩⟩, fun e_ => hk.2.2.1 e_⟩))) : p := h
theorem au2_11 {p : Prop} (h : p := by repeat (first | exact (Kd.R_reads' HO_258000.out).2.2 | (with_reducible refine Kd.C_alloc ?_ _) | (with_reducible refine Kd.C_drewN ?_ _) | (with_reducible refine Kd.C_drew ?_))) : p := h
theorem au2_12 {p : Prop} (h : p := by simp only [putAll, Act.put, List.setIfInBounds_toArray, List.set_cons_zero, List.set_cons_succ]) : p := h
theorem au2_13 {p : Prop} (h : p := by rintro w' ⟨s0, s1, s2, s3, s4⟩; go_simp; with_reducible rfl) : p := h
theorem au2_14 {p : Prop} (h : p := by have := HK1.out; have := HJ9.out; have := HK3.out; have := HJ42.out; have := HK5.out; omega) : p := h
theorem au2_15 {p : Prop} (h : p := by first | exact Kd.S_nil _ _ _ _ _ | exact Kd.N_nil _ _ _ _ _ | exact Kd.V_nil _ _ _ _ _ | exact Kd.Q_nil _ _ _ _ _ | exact Kd.R_nil _ _ _ _ _) : p := h
theorem au2_16 {p : Prop} (h : p := by first | rfl | (simp [errW_none, errW_some] <;> rfl) | (simp only [← hji128]; first | rfl | (simp [errW_none, errW_some] <;> rfl)) | (simp [*, errW_none, errW_some] <;> rfl)) : p := h
theorem au2_17 {p : Prop} (h : p := by rintro w' ⟨s0, s1, s2, s3⟩; go_simp; with_reducible rfl) : p := h
theorem au2_18 {p : Prop} (h : p := by (with_reducible repeat (first | apply Kd.R_alloc | apply Kd.R_drewN | apply Kd.R_drew)); exact Kd.R_mono HO249.out (fun _ hk => hk.2)) : p := h
theorem au2_19 {p : Prop} (h : p := by (with_reducible repeat (first | apply Kd.R_alloc | apply Kd.R_drewN | apply Kd.R_drew)); exact Kd.R_mono HO_7.out (fun _ hk => hk.2)) : p := h
theorem au2_20 {p : Prop} (h : p := by (with_reducible repeat (first | apply Kd.S_alloc | apply Kd.S_drewN | apply Kd.S_drew)); exact HO_245001.out) : p := h
theorem au2_21 {p : Prop} (h : p := by exact (Kd.R_reads' HO_258000.out).2.1) : p := h
theorem au2_22 {p : Prop} (h : p := by have := HK1.out; have := HJ9.out; have := HK3.out; first | omega | exact Nat.le_refl _) : p := h
theorem au2_23 {p : Prop} (h : p := by have := HK1.out; have := HJ9.out; omega) : p := h

/-! ### F87: function 87 -/
mutual
def F87.l0 : Nat → ByteArray → Int → Int → Int → Int → Int → Int → Option (ByteArray × (List (S102)) × Int × Int × Int)
  | 0, _, _, _, _, _, _, _ => none
  | k + 1, x1, x5, x6, x230000, x230001, x230002, x230003 => if x6 < (x1.size : Int) then (F87.j1 k x1 x5 x6 (decide (x5 < 0)) x230000 x230001 x230002 x230003) else (F87.j1 k x1 x5 x6 false x230000 x230001 x230002 x230003)
def F87.j1 : Nat → ByteArray → Int → Int → Bool → Int → Int → Int → Int → Option (ByteArray × (List (S102)) × Int × Int × Int)
  | 0, _, _, _, _, _, _, _, _ => none
  | k + 1, x1, x5, x6, x26, x230000, x230001, x230002, x230003 => if x26 = true then (if 0 ≤ x6 then (if x6 < (x1.size : Int) then (if (wrap64 (bt x1 x6)) = x230003 then (F87.l0 k x1 x5 (wrap64 ((wrap64 (x6 + 1)) + 1)) x230000 x230001 x230002 x230003) else (if (wrap64 (bt x1 x6)) = x230000 then (F87.l0 k x1 x6 (wrap64 (x6 + 1)) x230000 x230001 x230002 x230003) else (F87.l0 k x1 x5 (wrap64 (x6 + 1)) x230000 x230001 x230002 x230003))) else (none)) else (none)) else (if x5 < 0 then (some ((⟨#[]⟩ : ByteArray), ([] : List (S102)), 0, 0, 4)) else (if 0 ≤ x5 then (if x5 ≤ (x1.size : Int) then ((F68.f k x230000 x230001 x230002 x230003 (x1.extract 0 (x5 : Int).toNat) x230001).bind fun t231 => (if 0 < (t231.length : Int) then ((F75.f k (rdOf ByteArray.empty t231 0)).bind fun t235 => (if t235 = true then (F87.l1 k x5 t231 (wrap64 (((rdOf ByteArray.empty t231 0).size : Int) + 1)) 1 x230000 x230001 x230002 x230003 (rdOf ByteArray.empty t231 0) ([] : List (S102))) else ((F114.f 0).bind fun bt236 => (some (bt236.1, bt236.2.1, bt236.2.2.1, bt236.2.2.2.1, bt236.2.2.2.2))))) else (none))) else (none)) else (none)))
def F87.l1 : Nat → Int → List ByteArray → Int → Int → Int → Int → Int → Int → ByteArray → List (S102) → Option (ByteArray × (List (S102)) × Int × Int × Int)
  | 0, _, _, _, _, _, _, _, _, _, _ => none
  | k + 1, x5, x7, x9, x10, x230000, x230001, x230002, x230003, x245000, x245001 => if x10 < (x7.length : Int) then (if 0 ≤ x10 then ((F68.f k x230000 x230001 x230002 x230003 (rdOf ByteArray.empty x7 x10) x230002).bind fun t247 => (if x10 > 10 then (F87.j3 k x5 x7 x9 x10 t247 true x230000 x230001 x230002 x230003 x245000 x245001) else (F87.j3 k x5 x7 x9 x10 t247 (decide ((t247.length : Int) > 4)) x230000 x230001 x230002 x230003 x245000 x245001))) else (none)) else (some (x245000, x245001, wrap64 (x5 + 1), 0, 0))
def F87.j3 : Nat → Int → List ByteArray → Int → Int → List ByteArray → Bool → Int → Int → Int → Int → ByteArray → List (S102) → Option (ByteArray × (List (S102)) × Int × Int × Int)
  | 0, _, _, _, _, _, _, _, _, _, _, _, _ => none
  | k + 1, x5, x7, x9, x10, x11, x91, x230000, x230001, x230002, x230003, x245000, x245001 => if x91 = true then ((F114.f x9).bind fun bt250 => (some (bt250.1, bt250.2.1, bt250.2.2.1, bt250.2.2.2.1, bt250.2.2.2.2))) else (F87.l2 k x5 x7 x9 x10 x11 x9 0 x230000 x230001 x230002 x230003 x245000 x245001 ([] : List ByteArray))
def F87.l2 : Nat → Int → List ByteArray → Int → Int → List ByteArray → Int → Int → Int → Int → Int → Int → ByteArray → List (S102) → List ByteArray → Option (ByteArray × (List (S102)) × Int × Int × Int)
  | 0, _, _, _, _, _, _, _, _, _, _, _, _, _, _ => none
  | k + 1, x5, x7, x9, x10, x11, x13, x14, x230000, x230001, x230002, x230003, x245000, x245001, x258000 => if x14 < (x11.length : Int) then (if 0 ≤ x14 then ((F18.f k x230000 x230001 x230002 x230003 (rdOf ByteArray.empty x11 x14)).bind fun bt259 => (if bt259.2.2 = 0 then ((F76.f k bt259.1).bind fun t270 => (if t270 = true then (if x258000.length < 8796093022208 then (F87.l2 k x5 x7 x9 x10 x11 (wrap64 ((wrap64 (x13 + ((rdOf ByteArray.empty x11 x14).size : Int))) + 1)) (wrap64 (x14 + 1)) x230000 x230001 x230002 x230003 x245000 x245001 (x258000 ++ [bt259.1])) else (none)) else ((F114.f x13).bind fun bt275 => (some (bt275.1, bt275.2.1, bt275.2.2.1, bt275.2.2.2.1, bt275.2.2.2.2))))) else ((F114.f (wrap64 (x13 + bt259.2.1))).bind fun bt263 => (some (bt263.1, bt263.2.1, bt263.2.2.1, bt263.2.2.2.1, bt263.2.2.2.2))))) else (none)) else (if (x11.length : Int) > 1 then (if 0 ≤ (wrap64 ((x11.length : Int) - 1)) then (if (wrap64 ((x11.length : Int) - 1)) < (x11.length : Int) then (if (rdOf ByteArray.empty x11 (wrap64 ((x11.length : Int) - 1))).toList = ([] : List UInt8) then ((F114.f x9).bind fun bt283 => (some (bt283.1, bt283.2.1, bt283.2.2.1, bt283.2.2.2.1, bt283.2.2.2.2))) else (if x10 = (wrap64 ((x7.length : Int) - 1)) then ((F77.f x258000).bind fun t290 => (if t290 = true then ((F114.f x9).bind fun bt291 => (some (bt291.1, bt291.2.1, bt291.2.2.1, bt291.2.2.2.1, bt291.2.2.2.2))) else (if x245001.length < 5864062014805 then (if 0 ≤ x10 then (if x10 < (x7.length : Int) then (F87.l1 k x5 x7 (wrap64 ((wrap64 (x9 + ((rdOf ByteArray.empty x7 x10).size : Int))) + 1)) (wrap64 (x10 + 1)) x230000 x230001 x230002 x230003 x245000 (x245001 ++ [(⟨x258000⟩ : S102)])) else (none)) else (none)) else (none)))) else (if x245001.length < 5864062014805 then (if 0 ≤ x10 then (if x10 < (x7.length : Int) then (F87.l1 k x5 x7 (wrap64 ((wrap64 (x9 + ((rdOf ByteArray.empty x7 x10).size : Int))) + 1)) (wrap64 (x10 + 1)) x230000 x230001 x230002 x230003 x245000 (x245001 ++ [(⟨x258000⟩ : S102)])) else (none)) else (none)) else (none)))) else (none)) else (none)) else (if x10 = (wrap64 ((x7.length : Int) - 1)) then ((F77.f x258000).bind fun t306 => (if t306 = true then ((F114.f x9).bind fun bt307 => (some (bt307.1, bt307.2.1, bt307.2.2.1, bt307.2.2.2.1, bt307.2.2.2.2))) else (if x245001.length < 5864062014805 then (if 0 ≤ x10 then (if x10 < (x7.length : Int) then (F87.l1 k x5 x7 (wrap64 ((wrap64 (x9 + ((rdOf ByteArray.empty x7 x10).size : Int))) + 1)) (wrap64 (x10 + 1)) x230000 x230001 x230002 x230003 x245000 (x245001 ++ [(⟨x258000⟩ : S102)])) else (none)) else (none)) else (none)))) else (if x245001.length < 5864062014805 then (if 0 ≤ x10 then (if x10 < (x7.length : Int) then (F87.l1 k x5 x7 (wrap64 ((wrap64 (x9 + ((rdOf ByteArray.empty x7 x10).size : Int))) + 1)) (wrap64 (x10 + 1)) x230000 x230001 x230002 x230003 x245000 (x245001 ++ [(⟨x258000⟩ : S102)])) else (none)) else (none)) else (none))))
end
def F87.f (k : Nat) (a0_0 : Int) (a0_1 : Int) (a0_2 : Int) (a0_3 : Int) (a1 : ByteArray) : Option (ByteArray × (List (S102)) × Int × Int × Int) := if a1.toList = ([] : List UInt8) then (some ((⟨#[]⟩ : ByteArray), ([] : List (S102)), 0, 0, 6)) else (F87.l0 k a1 (-1) 0 a0_0 a0_1 a0_2 a0_3)
theorem F87.mono_l : ∀ k, (∀ y0 y1 y2 y3 y4 y5 y6, LeO (F87.l0 k y0 y1 y2 y3 y4 y5 y6) (F87.l0 (k + 1) y0 y1 y2 y3 y4 y5 y6)) ∧ (∀ y0 y1 y2 y3 y4 y5 y6 y7, LeO (F87.j1 k y0 y1 y2 y3 y4 y5 y6 y7) (F87.j1 (k + 1) y0 y1 y2 y3 y4 y5 y6 y7)) ∧ (∀ y0 y1 y2 y3 y4 y5 y6 y7 y8 y9, LeO (F87.l1 k y0 y1 y2 y3 y4 y5 y6 y7 y8 y9) (F87.l1 (k + 1) y0 y1 y2 y3 y4 y5 y6 y7 y8 y9)) ∧ (∀ y0 y1 y2 y3 y4 y5 y6 y7 y8 y9 y10 y11, LeO (F87.j3 k y0 y1 y2 y3 y4 y5 y6 y7 y8 y9 y10 y11) (F87.j3 (k + 1) y0 y1 y2 y3 y4 y5 y6 y7 y8 y9 y10 y11)) ∧ (∀ y0 y1 y2 y3 y4 y5 y6 y7 y8 y9 y10 y11 y12 y13, LeO (F87.l2 k y0 y1 y2 y3 y4 y5 y6 y7 y8 y9 y10 y11 y12 y13) (F87.l2 (k + 1) y0 y1 y2 y3 y4 y5 y6 y7 y8 y9 y10 y11 y12 y13))
 | 0 => ⟨fun _ _ _ _ _ _ _ r h => by simp [F87.l0] at h, fun _ _ _ _ _ _ _ _ r h => by simp [F87.j1] at h, fun _ _ _ _ _ _ _ _ _ _ r h => by simp [F87.l1] at h, fun _ _ _ _ _ _ _ _ _ _ _ _ r h => by simp [F87.j3] at h, fun _ _ _ _ _ _ _ _ _ _ _ _ _ _ r h => by simp [F87.l2] at h⟩
 | k + 1 => by
  obtain ⟨ih0, ih1, ih2, ih3, ih4⟩ := F87.mono_l k
  refine ⟨?_, ?_, ?_, ?_, ?_⟩
  rotate_left
  ·intro y0 y1 y2 y3 y4 y5 y6 y7
   unfold F87.j1
   repeat' with_reducible first | exact ih0 _ _ _ _ _ _ _ | exact ih1 _ _ _ _ _ _ _ _ | exact ih2 _ _ _ _ _ _ _ _ _ _ | exact ih3 _ _ _ _ _ _ _ _ _ _ _ _ | exact ih4 _ _ _ _ _ _ _ _ _ _ _ _ _ _ | exact F18.mono _ _ _ _ _ _ | exact F68.mono _ _ _ _ _ _ _ | exact F76.mono _ _ | exact F75.mono _ _ | exact LeO.refl _ | exact LeO.none _ | refine LeO.ite ?_ ?_ | refine LeO.bind ?_ (fun _ => ?_)
  ·intro y0 y1 y2 y3 y4 y5 y6 y7 y8 y9
   unfold F87.l1
   repeat' with_reducible first | exact ih0 _ _ _ _ _ _ _ | exact ih1 _ _ _ _ _ _ _ _ | exact ih2 _ _ _ _ _ _ _ _ _ _ | exact ih3 _ _ _ _ _ _ _ _ _ _ _ _ | exact ih4 _ _ _ _ _ _ _ _ _ _ _ _ _ _ | exact F18.mono _ _ _ _ _ _ | exact F68.mono _ _ _ _ _ _ _ | exact F76.mono _ _ | exact F75.mono _ _ | exact LeO.refl _ | exact LeO.none _ | refine LeO.ite ?_ ?_ | refine LeO.bind ?_ (fun _ => ?_)
  ·intro y0 y1 y2 y3 y4 y5 y6 y7 y8 y9 y10 y11
   unfold F87.j3
   repeat' with_reducible first | exact ih0 _ _ _ _ _ _ _ | exact ih1 _ _ _ _ _ _ _ _ | exact ih2 _ _ _ _ _ _ _ _ _ _ | exact ih3 _ _ _ _ _ _ _ _ _ _ _ _ | exact ih4 _ _ _ _ _ _ _ _ _ _ _ _ _ _ | exact F18.mono _ _ _ _ _ _ | exact F68.mono _ _ _ _ _ _ _ | exact F76.mono _ _ | exact F75.mono _ _ | exact LeO.refl _ | exact LeO.none _ | refine LeO.ite ?_ ?_ | refine LeO.bind ?_ (fun _ => ?_)
  ·intro y0 y1 y2 y3 y4 y5 y6 y7 y8 y9 y10 y11 y12 y13
   unfold F87.l2
   repeat' with_reducible first | exact ih0 _ _ _ _ _ _ _ | exact ih1 _ _ _ _ _ _ _ _ | exact ih2 _ _ _ _ _ _ _ _ _ _ | exact ih3 _ _ _ _ _ _ _ _ _ _ _ _ | exact ih4 _ _ _ _ _ _ _ _ _ _ _ _ _ _ | exact F18.mono _ _ _ _ _ _ | exact F68.mono _ _ _ _ _ _ _ | exact F76.mono _ _ | exact F75.mono _ _ | exact LeO.refl _ | exact LeO.none _ | refine LeO.ite ?_ ?_ | refine LeO.bind ?_ (fun _ => ?_)
  intro y0 y1 y2 y3 y4 y5 y6
  unfold F87.l0
  repeat' with_reducible first | exact ih0 _ _ _ _ _ _ _ | exact ih1 _ _ _ _ _ _ _ _ | exact ih2 _ _ _ _ _ _ _ _ _ _ | exact ih3 _ _ _ _ _ _ _ _ _ _ _ _ | exact ih4 _ _ _ _ _ _ _ _ _ _ _ _ _ _ | exact F18.mono _ _ _ _ _ _ | exact F68.mono _ _ _ _ _ _ _ | exact F76.mono _ _ | exact F75.mono _ _ | exact LeO.refl _ | exact LeO.none _ | refine LeO.ite ?_ ?_ | refine LeO.bind ?_ (fun _ => ?_)
theorem F87.mono : ∀ a0 a1 a2 a3 a4 k, LeO (F87.f k a0 a1 a2 a3 a4) (F87.f (k + 1) a0 a1 a2 a3 a4) := by
 intro a0 a1 a2 a3 a4 k
 obtain ⟨ih0, ih1, ih2, ih3, ih4⟩ := F87.mono_l k
 unfold F87.f
 repeat' with_reducible first | exact ih0 _ _ _ _ _ _ _ | exact ih1 _ _ _ _ _ _ _ _ | exact ih2 _ _ _ _ _ _ _ _ _ _ | exact ih3 _ _ _ _ _ _ _ _ _ _ _ _ | exact ih4 _ _ _ _ _ _ _ _ _ _ _ _ _ _ | exact F18.mono _ _ _ _ _ _ | exact F68.mono _ _ _ _ _ _ _ | exact F76.mono _ _ | exact F75.mono _ _ | exact LeO.refl _ | exact LeO.none _ | refine LeO.ite ?_ ?_ | refine LeO.bind ?_ (fun _ => ?_)
def F87.T13 : Bool × List (List Nat × List Nat) := (true, [([], []), ([], []), ([], []), ([1, 2], [1, 2]), ([], []), ([4], [4]), ([0, 3, 5], [0, 3, 5]), ([6, 6, 0, 1, 2, 3, 4, 5, 6], [6])])
def F87.B13 : List Nat := [0, 0, 0, 6, 0, 16, 63, 127]
theorem F87.tab13 : rtab .any (opsOf Try.f87 13) = F87.T13 := by kernel_rfl
theorem F87.bits13 : waitsOk F87.T13.2 F87.B13 = true := by kernel_rfl
def F87.T21 : Bool × List (List Nat × List Nat) := (true, [([], []), ([], []), ([], []), ([1, 2], [1, 2]), ([3], [3]), ([], []), ([5], [5]), ([0, 4, 6], [0, 4, 6]), ([7, 7, 0, 1, 2, 3, 4, 5, 6, 7], [7])])
def F87.B21 : List Nat := [0, 0, 0, 6, 14, 0, 32, 127, 255]
theorem F87.tab21 : rtab .any (opsOf Try.f87 21) = F87.T21 := by kernel_rfl
theorem F87.bits21 : waitsOk F87.T21.2 F87.B21 = true := by kernel_rfl
def F87.T29 : Bool × List (List Nat × List Nat) := (true, [([], []), ([], []), ([], []), ([1, 2], [1, 2]), ([3], [3]), ([0, 4], [0, 4]), ([], []), ([6, 5, 5, 0, 1, 2, 3, 4, 5, 6], [5, 6])])
def F87.B29 : List Nat := [0, 0, 0, 6, 14, 31, 0, 127]
theorem F87.tab29 : rtab .any (opsOf Try.f87 29) = F87.T29 := by kernel_rfl
theorem F87.bits29 : waitsOk F87.T29.2 F87.B29 = true := by kernel_rfl
theorem F87.calls (k : Nat) (a0_0 : Int) (a0_1 : Int) (a0_2 : Int) (a0_3 : Int) (a1 : ByteArray) (r1 : ByteArray) (r2 : List (S102)) (r3 : Int) (r4 : Int) (r5 : Int) (w : World) (h : F87.f k a0_0 a0_1 a0_2 a0_3 a1 = some (r1, r2, r3, r4, r5)) :
  Calls Try.prog 87 #[.agg #[.int .i64 a0_0, .int .i64 a0_1, .int .i64 a0_2, .int .i64 a0_3], .string a1] w fun e w' => ∃ v1_ : Value, e = .returned (.agg #[.string r1, v1_, .int .i64 r3, .int .i64 r4, .int .i64 r5]) ∧ Kd.S k102 102 w' w.heap.size (fun _ => True) v1_ r2 ∧ Below w.heap.size w w' := by
 have hu23 := Try.underlying23
 have hu66 := Try.underlying66
 have hu59 := Try.underlying59
 have hu102 := Try.underlying102
 have hu31 := Try.underlying31
 have HB := am_ (Below.refl w.heap.size w)
 have H : (if a1.toList = ([] : List UInt8) then (some ((⟨#[]⟩ : ByteArray), ([] : List (S102)), 0, 0, 6)) else (F87.l0 k a1 (-1) 0 a0_0 a0_1 a0_2 a0_3)) = some (r1, r2, r3, r4, r5) := h
 clear h
 by_cases c3 : a1.toList = ([] : List UInt8)
 ·rw [if_pos c3] at H
  have c3b0 : (a1.toList == ([] : List UInt8)) = true := beq_iff_eq.mpr c3
  have c3b1 : (a1.toList != ([] : List UInt8)) = false := bne_eq_false_iff_eq.mpr c3
  clear c3
  simp only [Option.some.injEq, Prod.mk.injEq] at H
  obtain ⟨rfl, rfl, rfl, rfl, rfl⟩ := H
  go_enter Try.func87, Try.ntmps87
  go_wp2_with (first | ((with_reducible refine gate_dst (N := 2) rfl ?_); (try (refine gate_guard (by rfl) ?_; dsimp only)); refine be_ 2 #[.int .i64 a0_0, .int .i64 a0_1, .int .i64 a0_2, .int .i64 a0_3] 23 ?_; intro gb229 hg w4 hbox hb; have BK229 := am_ (hbox); have GW229 := am_ (gw_ hg bl_); have GE229 := GW229; replace HB := hs_ w hb; clear hb hbox hg) | ((with_reducible refine gate_dst (N := 4) rfl ?_); (try (refine gate_guard (by rfl) ?_; dsimp only)); refine be_ 4 #[.string (⟨#[]⟩ : ByteArray), .slice none 0 0, .int .i64 0, .int .i64 0, .int .i64 0] 66 ?_; intro gb230 hg w5 hbox hb; have BK230 := am_ (hbox); have GW230 := am_ (gw_ hg bl_); have GE230 := GW230; replace HB := hs_ w hb; have NB229_230 := am_ (gn_ hg (blkl_ BK229)); have NB230_229 := am_ (gm_ hg (blkl_ BK229)); replace BK229 := bb_ BK229 hb; clear hb hbox hg; have hnb6 := NB230_229.out; have hnc6 := NB229_230.out; obtain ⟨hcz7_0, hcz7_1, hcz7_2, hcz7_3, hcz7_4, hfz7_0, hfz7_1, hfz7_2, hfz7_3, hfz7_4⟩ := cellsF5 BK230.out))
  refine bodyPost_ret (results_cell_row rfl _ _ gb230 66 #[.string (⟨#[]⟩ : ByteArray), .slice none 0 0, .int .i64 0, .int .i64 0, .int .i64 6] (0, 0) _ rfl (bq_ BK230) Try.underlying66 rfl (by kernel_rfl)) rfl ?_
  exact ⟨_, au2_9, au2_15, bl_⟩
 rw [if_neg c3] at H
 have c3b0 : (a1.toList == ([] : List UInt8)) = false := beq_eq_false_iff_ne.mpr c3
 have c3b1 : (a1.toList != ([] : List UInt8)) = true := bne_iff_ne.mpr c3
 have H' := am_ H
 clear H
 go_enter Try.func87, Try.ntmps87
 go_wp2_with (first | ((with_reducible refine gate_dst (N := 2) rfl ?_); (try (refine gate_guard (by rfl) ?_; dsimp only)); refine be_ 2 #[.int .i64 a0_0, .int .i64 a0_1, .int .i64 a0_2, .int .i64 a0_3] 23 ?_; intro gb229 hg w8 hbox hb; have BK229 := am_ (hbox); have GW229 := am_ (gw_ hg bl_); have GE229 := GW229; replace HB := hs_ w hb; clear hb hbox hg) | ((with_reducible refine gate_dst (N := 4) rfl ?_); (try (refine gate_guard (by rfl) ?_; dsimp only)); refine be_ 4 #[.string (⟨#[]⟩ : ByteArray), .slice none 0 0, .int .i64 0, .int .i64 0, .int .i64 0] 66 ?_; intro gb230 hg w9 hbox hb; have BK230 := am_ (hbox); have GW230 := am_ (gw_ hg bl_); have GE230 := GW230; replace HB := hs_ w hb; have NB229_230 := am_ (gn_ hg (blkl_ BK229)); have NB230_229 := am_ (gm_ hg (blkl_ BK229)); replace BK229 := bb_ BK229 hb; clear hb hbox hg))
 go_loopg [5, 6] k (fun kq v5 v6 w' => ∃ (x5_1 : Int) (x6_1 : Int), v5 = .int .i64 x5_1 ∧ v6 = .int .i64 x6_1 ∧ Aside0 (F87.l0 kq a1 x5_1 x6_1 a0_0 a0_1 a0_2 a0_3 = some (r1, r2, r3, r4, r5)) ∧ Aside0 (kq ≤ k) ∧ Aside0 (w'.heap[gb229]? = some (.cells #[.int .i64 a0_0, .int .i64 a0_1, .int .i64 a0_2, .int .i64 a0_3] 23 (0, 0))) ∧ Aside0 (w'.heap[gb230]? = some (.cells #[.string (⟨#[]⟩ : ByteArray), (.slice none 0 0), .int .i64 0, .int .i64 0, .int .i64 0] 66 (0, 0))) ∧ Aside0 (Below w.heap.size w w'))
 case atStart => exact ⟨((-1)), (0), er_, er_, H', ⟨Nat.le_refl _⟩, ⟨bk_ BK229⟩, ⟨bk_ BK230⟩, ⟨bl_⟩⟩
 case round =>
  clear H'
  try clear c3
  try clear c3b0
  try clear c3b1
  try clear hcz7_0 hcz7_1 hcz7_2 hcz7_3 hcz7_4
  try clear hfz7_0 hfz7_1 hfz7_2 hfz7_3 hfz7_4
  obtain ⟨x5_1, x6_1, rfl, rfl, HA, HK1, BK229, BK230, HB⟩ := hrel
  cases gk with
  | zero => exact absurd HA.out (by simp [F87.l0])
  | succ k1 =>
   have H := HA.out
   clear HA
   simp only [F87.l0] at H
   have HC10 := am_ H
   clear H
   go_upto_region 5 with (fail)
   go_cut [26] (fun v26 wc => ∃ (kq : Nat) (x26_9 : Bool), v26 = .bool x26_9 ∧ Aside0 (F87.j1 kq a1 x5_1 x6_1 x26_9 a0_0 a0_1 a0_2 a0_3 = some (r1, r2, r3, r4, r5)) ∧ Aside0 (kq ≤ k1) ∧ Aside0 (wc.heap[gb229]? = some (.cells #[.int .i64 a0_0, .int .i64 a0_1, .int .i64 a0_2, .int .i64 a0_3] 23 (0, 0))) ∧ Aside0 (wc.heap[gb230]? = some (.cells #[.string (⟨#[]⟩ : ByteArray), (.slice none 0 0), .int .i64 0, .int .i64 0, .int .i64 0] 66 (0, 0))) ∧ Aside0 (Below w.heap.size w wc))
   case first =>
    have H := HC10.out
    clear HC10
    replace H := it_ H; rcases H with ⟨c11b0, H⟩ | ⟨c11b0, H⟩
    rotate_left
    ·(first | rw [c11b0] | (simp only [i64_w, i32_w]; rw [c11b0]) | skip)
     have H' := am_ H
     clear H
     go_wp2
     go_meet
     case rel => exact ⟨_, (false), er_, H', ⟨by have := HK1.out; first | omega | exact Nat.le_refl _⟩, ⟨bk_ BK229⟩, ⟨bk_ BK230⟩, ⟨bl_⟩⟩
    (first | rw [c11b0] | (simp only [i64_w, i32_w]; rw [c11b0]) | skip)
    have H' := am_ H
    clear H
    go_wp2
    go_meet
    case rel => exact ⟨_, (decide (x5_1 < 0)), er_, H', ⟨by have := HK1.out; first | omega | exact Nat.le_refl _⟩, ⟨bk_ BK229⟩, ⟨bk_ BK230⟩, ⟨bl_⟩⟩
   case rest =>
    clear HC10
    try clear c3
    try clear c3b0
    try clear c3b1
    try clear c11b0
    try clear hcz7_0 hcz7_1 hcz7_2 hcz7_3 hcz7_4
    try clear hfz7_0 hfz7_1 hfz7_2 hfz7_3 hfz7_4
    obtain ⟨kq, x26_9, rfl, HA, HJ9, BK229, BK230, HB⟩ := hcut
    cases kq with
    | zero => exact absurd HA.out (by simp [F87.j1])
    | succ kj9 =>
     have H := HA.out
     clear HA
     simp only [F87.j1] at H
     replace H := ib_ H; rcases H with ⟨rfl, H⟩ | ⟨rfl, H⟩
     ·replace H := itn_ H; rcases H with ⟨c13b0, H⟩
      replace H := itn_ H; rcases H with ⟨c14b0, H⟩
      by_cases c16 : (wrap64 (bt a1 x6_1)) = a0_3
      ·rw [if_pos c16] at H
       have c16b0 : ((wrap64 (bt a1 x6_1)) == a0_3) = true := beq_iff_eq.mpr c16
       have c16b1 : ((wrap64 (bt a1 x6_1)) != a0_3) = false := bne_eq_false_iff_eq.mpr c16
       clear c16
       have H' := am_ H
       clear H
       try go_wp2
       replace BK229 := bd_ BK229
       replace BK230 := bd_ BK230
       replace HB := am_ (below_drew1 HB.out)
       have p15 : 0 ≤ (x6_1 : Int) := od_
       have q15 : x6_1 < (a1.size : Int) := od_
       have hx15 := bt_at a1 x6_1
       replace p15 := eq_true p15
       replace q15 := eq_true q15
       refine start_ (n := 7) (S := fun w' => w'.cell? ⟨gb229, 0, none⟩ = some (.int .i64 a0_0) ∧ w'.cell? ⟨gb229, 1, none⟩ = some (.int .i64 a0_1) ∧ w'.cell? ⟨gb229, 2, none⟩ = some (.int .i64 a0_2) ∧ w'.cell? ⟨gb229, 3, none⟩ = some (.int .i64 a0_3)) (ds := []) (bs 7 0) (by kernel_rfl) rfl rfl ⟨(blk_cell BK229.out 0).trans rfl, (blk_cell BK229.out 1).trans rfl, (blk_cell BK229.out 2).trans rfl, (blk_cell BK229.out 3).trans rfl⟩ (fun hHeld => ?_)
       generalize wc.drew = w17 at BK229 BK230 HB hHeld ⊢
       refine pk_ 0 29 (bs 7 1) ?_ rfl rfl
       refine pk_ 1 30 (bs 7 3) ?_ rfl rfl
       refine pk_ 4 33 (bs 7 19) ?_ rfl rfl
       refine take_ (i := 2) (N := some 31) (v := ?_) (a' := ?_) (bs 7 23) rfl rfl (by kernel_rfl) (fun _ _ _ h => h) (Or.inl ⟨by rfl, ?_⟩) hHeld ?_ ?_
       rotate_left
       ·rintro w' ⟨s0, s1, s2, s3⟩
        go_simp
        with_reducible rfl
       rotate_left
       ·simp only [Act.put, List.setIfInBounds_toArray, List.set_cons_zero, List.set_cons_succ, i64_w, i32_w]
        rfl
       refine pk_ 3 32 (bs 7 31) ?_ rfl rfl
       refine take_ (i := 5) (N := some 34) (v := ?_) (a' := ?_) (bs 7 63) rfl rfl (by kernel_rfl) (fun _ _ _ h => h) (Or.inl ⟨by rfl, ?_⟩) hHeld ?_ ?_
       rotate_left
       ·rintro w' ⟨s0, s1, s2, s3⟩
        go_simp
        with_reducible rfl
       rotate_left
       ·simp only [Act.put, List.setIfInBounds_toArray, List.set_cons_zero, List.set_cons_succ, i64_w, i32_w]
        rfl
       refine pk_ 6 35 (bs 7 127) ?_ rfl rfl
       refine done_ (by kernel_rfl) ?_
       try go_wp2
       go_roundg kj9
       case measure => have := HK1.out; have := HJ9.out; omega
       case rel => exact ⟨(x5_1), (wrap64 ((wrap64 (x6_1 + 1)) + 1)), er_, er_, H', ⟨au2_23⟩, ⟨bk_ BK229⟩, ⟨bk_ BK230⟩, ⟨bl_⟩⟩
      rw [if_neg c16] at H
      have c16b0 : ((wrap64 (bt a1 x6_1)) == a0_3) = false := beq_eq_false_iff_ne.mpr c16
      have c16b1 : ((wrap64 (bt a1 x6_1)) != a0_3) = true := bne_iff_ne.mpr c16
      by_cases c19 : (wrap64 (bt a1 x6_1)) = a0_0
      rotate_left
      ·rw [if_neg c19] at H
       have c19b0 : ((wrap64 (bt a1 x6_1)) == a0_0) = false := beq_eq_false_iff_ne.mpr c19
       have c19b1 : ((wrap64 (bt a1 x6_1)) != a0_0) = true := bne_iff_ne.mpr c19
       have H' := am_ H
       clear H
       try go_wp2
       replace BK229 := bd_ BK229
       replace BK230 := bd_ BK230
       replace HB := am_ (below_drew1 HB.out)
       have p15 : 0 ≤ (x6_1 : Int) := od_
       have q15 : x6_1 < (a1.size : Int) := od_
       have hx15 := bt_at a1 x6_1
       replace p15 := eq_true p15
       replace q15 := eq_true q15
       refine start_ (n := 7) (S := fun w' => w'.cell? ⟨gb229, 0, none⟩ = some (.int .i64 a0_0) ∧ w'.cell? ⟨gb229, 1, none⟩ = some (.int .i64 a0_1) ∧ w'.cell? ⟨gb229, 2, none⟩ = some (.int .i64 a0_2) ∧ w'.cell? ⟨gb229, 3, none⟩ = some (.int .i64 a0_3)) (ds := []) (bs 7 0) (by kernel_rfl) rfl rfl ⟨(blk_cell BK229.out 0).trans rfl, (blk_cell BK229.out 1).trans rfl, (blk_cell BK229.out 2).trans rfl, (blk_cell BK229.out 3).trans rfl⟩ (fun hHeld => ?_)
       generalize wc.drew = w22 at BK229 BK230 HB hHeld ⊢
       refine pk_ 0 29 (bs 7 1) ?_ rfl rfl
       refine pk_ 1 30 (bs 7 3) ?_ rfl rfl
       refine pk_ 4 33 (bs 7 19) ?_ rfl rfl
       refine take_ (i := 2) (N := some 31) (v := ?_) (a' := ?_) (bs 7 23) rfl rfl (by kernel_rfl) (fun _ _ _ h => h) (Or.inl ⟨by rfl, ?_⟩) hHeld ?_ ?_
       rotate_left
       ·rintro w' ⟨s0, s1, s2, s3⟩
        go_simp
        with_reducible rfl
       rotate_left
       ·simp only [Act.put, List.setIfInBounds_toArray, List.set_cons_zero, List.set_cons_succ, i64_w, i32_w]
        rfl
       refine pk_ 3 32 (bs 7 31) ?_ rfl rfl
       refine take_ (i := 5) (N := some 34) (v := ?_) (a' := ?_) (bs 7 63) rfl rfl (by kernel_rfl) (fun _ _ _ h => h) (Or.inl ⟨by rfl, ?_⟩) hHeld ?_ ?_
       rotate_left
       ·rintro w' ⟨s0, s1, s2, s3⟩
        go_simp
        with_reducible rfl
       rotate_left
       ·simp only [Act.put, List.setIfInBounds_toArray, List.set_cons_zero, List.set_cons_succ, i64_w, i32_w]
        rfl
       refine pk_ 6 35 (bs 7 127) ?_ rfl rfl
       refine done_ (by kernel_rfl) ?_
       try go_wp2
       replace BK229 := bd_ BK229
       replace BK230 := bd_ BK230
       replace HB := am_ (below_drew1 HB.out)
       have p18 : 0 ≤ (x6_1 : Int) := od_
       have q18 : x6_1 < (a1.size : Int) := od_
       have hx18 := bt_at a1 x6_1
       replace p18 := eq_true p18
       replace q18 := eq_true q18
       refine start_ (n := 7) (S := fun w' => w'.cell? ⟨gb229, 0, none⟩ = some (.int .i64 a0_0) ∧ w'.cell? ⟨gb229, 1, none⟩ = some (.int .i64 a0_1) ∧ w'.cell? ⟨gb229, 2, none⟩ = some (.int .i64 a0_2) ∧ w'.cell? ⟨gb229, 3, none⟩ = some (.int .i64 a0_3)) (ds := []) (bs 7 0) (by kernel_rfl) rfl rfl ⟨(blk_cell BK229.out 0).trans rfl, (blk_cell BK229.out 1).trans rfl, (blk_cell BK229.out 2).trans rfl, (blk_cell BK229.out 3).trans rfl⟩ (fun hHeld => ?_)
       generalize w22.drew = w23 at BK229 BK230 HB hHeld ⊢
       refine pk_ 0 38 (bs 7 1) ?_ rfl rfl
       refine pk_ 1 39 (bs 7 3) ?_ rfl rfl
       refine pk_ 4 42 (bs 7 19) ?_ rfl rfl
       refine take_ (i := 2) (N := some 40) (v := ?_) (a' := ?_) (bs 7 23) rfl rfl (by kernel_rfl) (fun _ _ _ h => h) (Or.inl ⟨by rfl, ?_⟩) hHeld ?_ ?_
       rotate_left
       ·rintro w' ⟨s0, s1, s2, s3⟩
        go_simp
        with_reducible rfl
       rotate_left
       ·simp only [Act.put, List.setIfInBounds_toArray, List.set_cons_zero, List.set_cons_succ, i64_w, i32_w]
        rfl
       refine pk_ 3 41 (bs 7 31) ?_ rfl rfl
       refine take_ (i := 5) (N := some 43) (v := ?_) (a' := ?_) (bs 7 63) rfl rfl (by kernel_rfl) (fun _ _ _ h => h) (Or.inl ⟨by rfl, ?_⟩) hHeld ?_ ?_
       rotate_left
       ·rintro w' ⟨s0, s1, s2, s3⟩
        go_simp
        with_reducible rfl
       rotate_left
       ·simp only [Act.put, List.setIfInBounds_toArray, List.set_cons_zero, List.set_cons_succ, i64_w, i32_w]
        rfl
       refine pk_ 6 44 (bs 7 127) ?_ rfl rfl
       refine done_ (by kernel_rfl) ?_
       try go_wp2
       go_roundg kj9
       case measure => have := HK1.out; have := HJ9.out; omega
       case rel => exact ⟨(x5_1), (wrap64 (x6_1 + 1)), er_, er_, H', ⟨au2_23⟩, ⟨bk_ BK229⟩, ⟨bk_ BK230⟩, ⟨bl_⟩⟩
      rw [if_pos c19] at H
      have c19b0 : ((wrap64 (bt a1 x6_1)) == a0_0) = true := beq_iff_eq.mpr c19
      have c19b1 : ((wrap64 (bt a1 x6_1)) != a0_0) = false := bne_eq_false_iff_eq.mpr c19
      clear c19
      have H' := am_ H
      clear H
      try go_wp2
      replace BK229 := bd_ BK229
      replace BK230 := bd_ BK230
      replace HB := am_ (below_drew1 HB.out)
      have p15 : 0 ≤ (x6_1 : Int) := od_
      have q15 : x6_1 < (a1.size : Int) := od_
      have hx15 := bt_at a1 x6_1
      replace p15 := eq_true p15
      replace q15 := eq_true q15
      refine start_ (n := 7) (S := fun w' => w'.cell? ⟨gb229, 0, none⟩ = some (.int .i64 a0_0) ∧ w'.cell? ⟨gb229, 1, none⟩ = some (.int .i64 a0_1) ∧ w'.cell? ⟨gb229, 2, none⟩ = some (.int .i64 a0_2) ∧ w'.cell? ⟨gb229, 3, none⟩ = some (.int .i64 a0_3)) (ds := []) (bs 7 0) (by kernel_rfl) rfl rfl ⟨(blk_cell BK229.out 0).trans rfl, (blk_cell BK229.out 1).trans rfl, (blk_cell BK229.out 2).trans rfl, (blk_cell BK229.out 3).trans rfl⟩ (fun hHeld => ?_)
      generalize wc.drew = w20 at BK229 BK230 HB hHeld ⊢
      refine pk_ 0 29 (bs 7 1) ?_ rfl rfl
      refine pk_ 1 30 (bs 7 3) ?_ rfl rfl
      refine pk_ 4 33 (bs 7 19) ?_ rfl rfl
      refine take_ (i := 2) (N := some 31) (v := ?_) (a' := ?_) (bs 7 23) rfl rfl (by kernel_rfl) (fun _ _ _ h => h) (Or.inl ⟨by rfl, ?_⟩) hHeld ?_ ?_
      rotate_left
      ·rintro w' ⟨s0, s1, s2, s3⟩
       go_simp
       with_reducible rfl
      rotate_left
      ·simp only [Act.put, List.setIfInBounds_toArray, List.set_cons_zero, List.set_cons_succ, i64_w, i32_w]
       rfl
      refine pk_ 3 32 (bs 7 31) ?_ rfl rfl
      refine take_ (i := 5) (N := some 34) (v := ?_) (a' := ?_) (bs 7 63) rfl rfl (by kernel_rfl) (fun _ _ _ h => h) (Or.inl ⟨by rfl, ?_⟩) hHeld ?_ ?_
      rotate_left
      ·rintro w' ⟨s0, s1, s2, s3⟩
       go_simp
       with_reducible rfl
      rotate_left
      ·simp only [Act.put, List.setIfInBounds_toArray, List.set_cons_zero, List.set_cons_succ, i64_w, i32_w]
       rfl
      refine pk_ 6 35 (bs 7 127) ?_ rfl rfl
      refine done_ (by kernel_rfl) ?_
      try go_wp2
      replace BK229 := bd_ BK229
      replace BK230 := bd_ BK230
      replace HB := am_ (below_drew1 HB.out)
      have p18 : 0 ≤ (x6_1 : Int) := od_
      have q18 : x6_1 < (a1.size : Int) := od_
      have hx18 := bt_at a1 x6_1
      replace p18 := eq_true p18
      replace q18 := eq_true q18
      refine start_ (n := 7) (S := fun w' => w'.cell? ⟨gb229, 0, none⟩ = some (.int .i64 a0_0) ∧ w'.cell? ⟨gb229, 1, none⟩ = some (.int .i64 a0_1) ∧ w'.cell? ⟨gb229, 2, none⟩ = some (.int .i64 a0_2) ∧ w'.cell? ⟨gb229, 3, none⟩ = some (.int .i64 a0_3)) (ds := []) (bs 7 0) (by kernel_rfl) rfl rfl ⟨(blk_cell BK229.out 0).trans rfl, (blk_cell BK229.out 1).trans rfl, (blk_cell BK229.out 2).trans rfl, (blk_cell BK229.out 3).trans rfl⟩ (fun hHeld => ?_)
      generalize w20.drew = w21 at BK229 BK230 HB hHeld ⊢
      refine pk_ 0 38 (bs 7 1) ?_ rfl rfl
      refine pk_ 1 39 (bs 7 3) ?_ rfl rfl
      refine pk_ 4 42 (bs 7 19) ?_ rfl rfl
      refine take_ (i := 2) (N := some 40) (v := ?_) (a' := ?_) (bs 7 23) rfl rfl (by kernel_rfl) (fun _ _ _ h => h) (Or.inl ⟨by rfl, ?_⟩) hHeld ?_ ?_
      rotate_left
      ·rintro w' ⟨s0, s1, s2, s3⟩
       go_simp
       with_reducible rfl
      rotate_left
      ·simp only [Act.put, List.setIfInBounds_toArray, List.set_cons_zero, List.set_cons_succ, i64_w, i32_w]
       rfl
      refine pk_ 3 41 (bs 7 31) ?_ rfl rfl
      refine take_ (i := 5) (N := some 43) (v := ?_) (a' := ?_) (bs 7 63) rfl rfl (by kernel_rfl) (fun _ _ _ h => h) (Or.inl ⟨by rfl, ?_⟩) hHeld ?_ ?_
      rotate_left
      ·rintro w' ⟨s0, s1, s2, s3⟩
       go_simp
       with_reducible rfl
      rotate_left
      ·simp only [Act.put, List.setIfInBounds_toArray, List.set_cons_zero, List.set_cons_succ, i64_w, i32_w]
       rfl
      refine pk_ 6 44 (bs 7 127) ?_ rfl rfl
      refine done_ (by kernel_rfl) ?_
      try go_wp2
      go_roundg kj9
      case measure => have := HK1.out; have := HJ9.out; omega
      case rel => exact ⟨(x6_1), (wrap64 (x6_1 + 1)), er_, er_, H', ⟨au2_23⟩, ⟨bk_ BK229⟩, ⟨bk_ BK230⟩, ⟨bl_⟩⟩
     replace H := it_ H; rcases H with ⟨c24b0, H⟩ | ⟨c24b0, H⟩
     ·simp only [Option.some.injEq, Prod.mk.injEq] at H
      obtain ⟨rfl, rfl, rfl, rfl, rfl⟩ := H
      have hnb25 := NB230_229.out
      have hnc25 := NB229_230.out
      obtain ⟨hcz26_0, hcz26_1, hcz26_2, hcz26_3, hcz26_4, hfz26_0, hfz26_1, hfz26_2, hfz26_3, hfz26_4⟩ := cellsF5 BK230.out
      go_wp2
      refine bodyPost_ret (results_cell_row rfl _ _ gb230 66 #[.string (⟨#[]⟩ : ByteArray), .slice none 0 0, .int .i64 0, .int .i64 0, .int .i64 4] (0, 0) _ rfl (bq_ BK230) Try.underlying66 rfl (by kernel_rfl)) rfl ?_
      exact ⟨_, au2_9, au2_15, bl_⟩
     by_cases c27 : 0 ≤ x5_1
     rotate_left
     ·rw [if_neg c27] at H
      exact absurd H (by simp)
     rw [if_pos c27] at H
     have c27b0 := eq_true c27
     have c27b1 : decide (0 ≤ x5_1) = true := decide_eq_true c27
     clear c27
     by_cases c28 : x5_1 ≤ (a1.size : Int)
     rotate_left
     ·rw [if_neg c28] at H
      exact absurd H (by simp)
     rw [if_pos c28] at H
     have c28b0 := eq_true c28
     have c28b1 : decide (x5_1 ≤ (a1.size : Int)) = true := decide_eq_true c28
     clear c28
     replace H := bi_ H; rcases H with ⟨t231, A29, H⟩
     replace H := itn_ H; rcases H with ⟨c30b0, H⟩
     have c30b1 : decide (0 < t231.length) = true := n2_ c30b0
     replace H := bi_ H; rcases H with ⟨t235, A31, H⟩
     replace H := ib_ H; rcases H with ⟨rfl, H⟩ | ⟨rfl, H⟩
     rotate_left
     ·replace H := bi_ H; rcases H with ⟨⟨t236, t237, t240, t241, t242⟩, A242, H⟩
      simp only [Option.some.injEq, Prod.mk.injEq] at H
      obtain ⟨rfl, rfl, rfl, rfl, rfl⟩ := H
      try go_wp2
      replace BK229 := bd_ BK229
      replace BK230 := bd_ BK230
      replace HB := am_ (below_drew1 HB.out)
      refine start_ (n := 8) (S := fun w' => w'.cell? ⟨gb229, 0, none⟩ = some (.int .i64 a0_0) ∧ w'.cell? ⟨gb229, 1, none⟩ = some (.int .i64 a0_1) ∧ w'.cell? ⟨gb229, 2, none⟩ = some (.int .i64 a0_2) ∧ w'.cell? ⟨gb229, 3, none⟩ = some (.int .i64 a0_3)) (ds := []) (bs 8 0) (by kernel_rfl) rfl rfl ⟨(blk_cell BK229.out 0).trans rfl, (blk_cell BK229.out 1).trans rfl, (blk_cell BK229.out 2).trans rfl, (blk_cell BK229.out 3).trans rfl⟩ (fun hHeld => ?_); refine with_tabW F87.tab13 F87.bits13 (fun HT_ HW_ => ?_)
      generalize wc.drew = w243 at BK229 BK230 HB hHeld ⊢
      refine pu_ 1 50 (bs 8 2) HT_ ?_ rfl rfl
      refine pu_ 2 51 (bs 8 6) HT_ ?_ rfl rfl
      refine pu_ 3 52 (bs 8 14) HT_ ?_ rfl rfl
      refine pu_ 4 53 (bs 8 30) HT_ ?_ rfl rfl
      refine tk_ 0 49 (bs 8 31) HT_ HW_ hHeld au2_17 ?_ rfl rfl
      refine tk_ 5 54 (bs 8 63) HT_ HW_ hHeld au2_17 ?_ rfl rfl
      refine one_ (i := 6) (N := some 55) (bs 8 127) rfl rfl (one_of HT_.out (by kernel_rfl)) (by decide) (fun K hK => ?_)
      refine gr_ Try.func68 #[.agg #[.int .i64 a0_0, .int .i64 a0_1, .int .i64 a0_2, .int .i64 a0_3], .string (a1.extract 0 (x5_1 : Int).toNat), .int .i64 a0_1] (by rfl) ?_ rfl rfl rfl
      with_reducible refine (F68.calls kj9 a0_0 a0_1 a0_2 a0_3 (a1.extract 0 (x5_1 : Int).toNat) a0_1 t231 _ A29.out).mono ?_
      rintro e w244 ⟨v232, rfl, ho0, hb⟩
      refine ⟨_, rfl, ?_⟩
      have HO233 := am_ (Kd.R_lower ho0 (below_size bl_))
      replace BK229 := bb_ BK229 hb
      replace BK230 := bb_ BK230 hb
      replace HB := hs_ w hb
      (try clear hb)
      (try clear hb2)
      (try clear hk)
      (try clear hi)
      (try clear ho0)
      refine hK.out _ _ ⟨(blk_cell BK229.out 0).trans rfl, (blk_cell BK229.out 1).trans rfl, (blk_cell BK229.out 2).trans rfl, (blk_cell BK229.out 3).trans rfl⟩ (fun hHeld => ?_)
      clear hK K
      refine no_ 55 ?_
      refine pu_ 7 7 (bs 8 255) HT_ ?_ rfl rfl
      refine done_ (done_of HT_.out (by kernel_rfl)) ?_
      obtain ⟨Ao245, co245, eo245⟩ := Kd.R_slice HO233.out
      subst eo245
      have p234 : 0 ≤ (0 : Int) := (by omega)
      have q234 : 0 < (t231.length : Int) := od_
      obtain ⟨ad234, e234, hx234_0⟩ := Kd.at_string (Kd.R_reads' HO233.out).2.2 0 p234 q234
      cases e234
      have qi234 : (0 < t231.length) = True := eq_true (by omega)
      (try rw [show ((0 : Int)).toNat = 0 from rfl] at hx234_0)
      (try rw [Addr.add_zero'] at hx234_0)
      replace p234 := eq_true p234
      replace q234 := eq_true q234
      try go_wp2_with (first | (go_at_call 75; (with_reducible refine (F75.calls kj9 (rdOf ByteArray.empty t231 0) false _ A31.out).mono ?_); rintro e w' ⟨rfl, ⟨nd, rfl⟩⟩; (try clear A31); (try (rw [drewN_self w244]; generalize hq_ : World.drewN w244 _ = w244; have n0_ : Aside0 (Kd.R Kd.string 9 w244 w.heap.size (fun _ => True) (.slice (some ad234) t231.length co245) t231) := ⟨by rw [← hq_]; exact (rk_ HO233)⟩; have n1_ : Aside0 (w244.heap[gb229]? = some (.cells #[.int .i64 a0_0, .int .i64 a0_1, .int .i64 a0_2, .int .i64 a0_3] 23 (0, 0))) := ⟨by rw [← hq_]; exact (bk_ BK229)⟩; have n2_ : Aside0 (w244.heap[gb230]? = some (.cells #[.string (⟨#[]⟩ : ByteArray), .slice none 0 0, .int .i64 0, .int .i64 0, .int .i64 0] 66 (0, 0))) := ⟨by rw [← hq_]; exact (bk_ BK230)⟩; have n3_ : Aside0 (Below w.heap.size w w244) := ⟨by rw [← hq_]; exact bl_⟩; clear HO233 BK229 BK230 HB hq_; have HO233 := n0_; have BK229 := n1_; have BK230 := n2_; have HB := n3_; clear n0_ n1_ n2_ n3_))) | (go_at_call 114; (with_reducible refine (F114.calls 0 t236 t237 t240 t241 t242 _ A242.out).mono ?_); rintro e w246 ⟨v238, rfl, ho0, hb⟩; (try clear A242); have HO239 := am_ (Kd.S_lower (Kd.S_new' ho0 (Kd.R_lt (rk_ HO233))) (below_size bl_)); replace HO233 := am_ (Kd.R_below (rk_ HO233) hb); replace BK229 := bb_ BK229 hb; replace BK230 := bb_ BK230 hb; replace HB := hs_ w hb; (try clear hb); (try clear ho0); have hnb247 := NB230_229.out; have hnc247 := NB229_230.out; obtain ⟨hcz248_0, hcz248_1, hcz248_2, hcz248_3, hcz248_4, hfz248_0, hfz248_1, hfz248_2, hfz248_3, hfz248_4⟩ := cellsF5 BK230.out; obtain ⟨Ao249, co249, eo249⟩ := Kd.S_slice HO239.out; subst eo249))
      refine bodyPost_ret (results_cell_row rfl _ _ gb230 66 #[.string t236, .slice Ao249 t237.length co249, .int .i64 t240, .int .i64 t241, .int .i64 t242] (0, 0) _ rfl (bq_ BK230) Try.underlying66 rfl (by kernel_rfl)) rfl ?_
      exact ⟨_, au2_9, by (with_reducible repeat (first | apply Kd.S_alloc | apply Kd.S_drewN | apply Kd.S_drew)); exact Kd.S_mono (Kd.S_far (p := ⟨gb230, 4, none⟩) (Kd.S_far (p := ⟨gb230, 3, none⟩) (Kd.S_far (p := ⟨gb230, 2, none⟩) (Kd.S_far (p := ⟨gb230, 1, none⟩) (Kd.S_far (p := ⟨gb230, 0, none⟩) (Kd.S_types HO239.out BK230.out (by decide)) (fun _ hk => hk.2) (.string t236)) (fun _ hk => hk.2) (.slice Ao249 t237.length co249)) (fun _ hk => hk.2) (.int .i64 t240)) (fun _ hk => hk.2) (.int .i64 t241)) (fun _ hk => hk.2) (.int .i64 t242)) (fun _ hk => trivial), bl_⟩
     have H' := am_ H
     clear H
     try go_wp2
     replace BK229 := bd_ BK229
     replace BK230 := bd_ BK230
     replace HB := am_ (below_drew1 HB.out)
     refine start_ (n := 8) (S := fun w' => w'.cell? ⟨gb229, 0, none⟩ = some (.int .i64 a0_0) ∧ w'.cell? ⟨gb229, 1, none⟩ = some (.int .i64 a0_1) ∧ w'.cell? ⟨gb229, 2, none⟩ = some (.int .i64 a0_2) ∧ w'.cell? ⟨gb229, 3, none⟩ = some (.int .i64 a0_3)) (ds := []) (bs 8 0) (by kernel_rfl) rfl rfl ⟨(blk_cell BK229.out 0).trans rfl, (blk_cell BK229.out 1).trans rfl, (blk_cell BK229.out 2).trans rfl, (blk_cell BK229.out 3).trans rfl⟩ (fun hHeld => ?_); refine with_tabW F87.tab13 F87.bits13 (fun HT_ HW_ => ?_)
     generalize wc.drew = w33 at BK229 BK230 HB hHeld ⊢
     refine pu_ 1 50 (bs 8 2) HT_ ?_ rfl rfl
     refine pu_ 2 51 (bs 8 6) HT_ ?_ rfl rfl
     refine pu_ 3 52 (bs 8 14) HT_ ?_ rfl rfl
     refine pu_ 4 53 (bs 8 30) HT_ ?_ rfl rfl
     refine tk_ 0 49 (bs 8 31) HT_ HW_ hHeld au2_17 ?_ rfl rfl
     refine tk_ 5 54 (bs 8 63) HT_ HW_ hHeld au2_17 ?_ rfl rfl
     refine one_ (i := 6) (N := some 55) (bs 8 127) rfl rfl (one_of HT_.out (by kernel_rfl)) (by decide) (fun K hK => ?_)
     refine gr_ Try.func68 #[.agg #[.int .i64 a0_0, .int .i64 a0_1, .int .i64 a0_2, .int .i64 a0_3], .string (a1.extract 0 (x5_1 : Int).toNat), .int .i64 a0_1] (by rfl) ?_ rfl rfl rfl
     with_reducible refine (F68.calls kj9 a0_0 a0_1 a0_2 a0_3 (a1.extract 0 (x5_1 : Int).toNat) a0_1 t231 _ A29.out).mono ?_
     rintro e w34 ⟨v232, rfl, ho0, hb⟩
     refine ⟨_, rfl, ?_⟩
     have HO233 := am_ (Kd.R_lower ho0 (below_size bl_))
     replace BK229 := bb_ BK229 hb
     replace BK230 := bb_ BK230 hb
     replace HB := hs_ w hb
     (try clear hb)
     (try clear hb2)
     (try clear hk)
     (try clear hi)
     (try clear ho0)
     refine hK.out _ _ ⟨(blk_cell BK229.out 0).trans rfl, (blk_cell BK229.out 1).trans rfl, (blk_cell BK229.out 2).trans rfl, (blk_cell BK229.out 3).trans rfl⟩ (fun hHeld => ?_)
     clear hK K
     refine no_ 55 ?_
     refine pu_ 7 7 (bs 8 255) HT_ ?_ rfl rfl
     refine done_ (done_of HT_.out (by kernel_rfl)) ?_
     obtain ⟨Ao35, co35, eo35⟩ := Kd.R_slice HO233.out
     subst eo35
     have p234 : 0 ≤ (0 : Int) := (by omega)
     have q234 : 0 < (t231.length : Int) := od_
     obtain ⟨ad234, e234, hx234_0⟩ := Kd.at_string (Kd.R_reads' HO233.out).2.2 0 p234 q234
     cases e234
     have qi234 : (0 < t231.length) = True := eq_true (by omega)
     (try rw [show ((0 : Int)).toNat = 0 from rfl] at hx234_0)
     (try rw [Addr.add_zero'] at hx234_0)
     replace p234 := eq_true p234
     replace q234 := eq_true q234
     try go_wp2_with (first | (go_at_call 75; (with_reducible refine (F75.calls kj9 (rdOf ByteArray.empty t231 0) true _ A31.out).mono ?_); rintro e w' ⟨rfl, ⟨nd, rfl⟩⟩; (try clear A31); (try (rw [drewN_self w34]; generalize hq_ : World.drewN w34 _ = w34; have n0_ : Aside0 (Kd.R Kd.string 9 w34 w.heap.size (fun _ => True) (.slice (some ad234) t231.length co35) t231) := ⟨by rw [← hq_]; exact (rk_ HO233)⟩; have n1_ : Aside0 (w34.heap[gb229]? = some (.cells #[.int .i64 a0_0, .int .i64 a0_1, .int .i64 a0_2, .int .i64 a0_3] 23 (0, 0))) := ⟨by rw [← hq_]; exact (bk_ BK229)⟩; have n2_ : Aside0 (w34.heap[gb230]? = some (.cells #[.string (⟨#[]⟩ : ByteArray), .slice none 0 0, .int .i64 0, .int .i64 0, .int .i64 0] 66 (0, 0))) := ⟨by rw [← hq_]; exact (bk_ BK230)⟩; have n3_ : Aside0 (Below w.heap.size w w34) := ⟨by rw [← hq_]; exact bl_⟩; clear HO233 BK229 BK230 HB hq_; have HO233 := n0_; have BK229 := n1_; have BK230 := n2_; have HB := n3_; clear n0_ n1_ n2_ n3_)); have p243 : 0 ≤ (0 : Int) := (by omega); have q243 : 0 < (t231.length : Int) := od_; obtain ⟨ad243, e243, hx243_0⟩ := Kd.at_string (Kd.R_reads' HO233.out).2.2 0 p243 q243; obtain rfl : ad234 = ad243 := (by injection e243); have qi243 : (0 < t231.length) = True := eq_true (by omega); (try rw [show ((0 : Int)).toNat = 0 from rfl] at hx243_0); (try rw [Addr.add_zero'] at hx243_0); replace p243 := eq_true p243; replace q243 := eq_true q243) | ((with_reducible refine gate_dst (N := 8) rfl ?_); (try (refine gate_guard (by rfl) ?_; dsimp only)); refine be_ 8 #[.string (⟨#[]⟩ : ByteArray), .slice none 0 0] 59 ?_; intro gb244 hg w36 hbox hb; replace HO233 := am_ (Kd.R_below (rk_ HO233) hb); have BK244 := am_ (hbox); have GW244 := am_ (gw_ hg bl_); have GE244 := GW244; replace HB := hs_ w hb; have NB229_244 := am_ (gn_ hg (blkl_ BK229)); have NB244_229 := am_ (gm_ hg (blkl_ BK229)); replace BK229 := bb_ BK229 hb; have NB230_244 := am_ (gn_ hg (blkl_ BK230)); have NB244_230 := am_ (gm_ hg (blkl_ BK230)); replace BK230 := bb_ BK230 hb; clear hb hbox hg; have hnb37 := NB244_229.out; have hnc37 := NB229_244.out; have hnb38 := NB244_230.out; have hnc38 := NB230_244.out; obtain ⟨hcz39_0, hcz39_1, hfz39_0, hfz39_1⟩ := cellsF2 BK244.out; have p245 : 0 ≤ (0 : Int) := (by omega); have q245 : 0 < (t231.length : Int) := od_; obtain ⟨ad245, e245, hx245_0⟩ := Kd.at_string (Kd.R_reads' HO233.out).2.2 0 p245 q245; obtain rfl : ad234 = ad245 := (by injection e245); have qi245 : (0 < t231.length) = True := eq_true (by omega); (try rw [show ((0 : Int)).toNat = 0 from rfl] at hx245_0); (try rw [Addr.add_zero'] at hx245_0); have hn245_0 : ad234.block ≠ gb244 := Kd.own_blk (Kd.R_ne HO233.out BK244.out (by decide)); have hn245_1 : ad234.block ≠ gb244 := Kd.own_blk (Kd.R_ne HO233.out BK244.out (by decide)); replace hx245_0 := (cell_far (p := ⟨gb244, 0, none⟩) (by first | (rw [add_block]; exact hn245_0) | (show (Addr.add _ _).block ≠ _; rw [add_block]; exact hn245_0) | exact hn245_0) (.string (rdOf ByteArray.empty t231 0))).trans hx245_0; replace hx245_0 := (cell_far (p := ⟨gb244, 1, none⟩) (by first | (rw [add_block]; exact hn245_1) | (show (Addr.add _ _).block ≠ _; rw [add_block]; exact hn245_1) | exact hn245_1) (.slice none 0 0)).trans hx245_0; clear hn245_0; clear hn245_1; replace p245 := eq_true p245; replace q245 := eq_true q245))
     go_loopg [9, 10] kj9 (fun kq v9 v10 w' => ∃ (x9_3 : Int) (x10_3 : Int) (x231000_3 : ByteArray) (x231002_3 : Int) (x231003_3 : Int) (x231004_3 : Int) (x245001_3 : List (S102)) (u245001 : Value), v9 = .int .i64 x9_3 ∧ v10 = .int .i64 x10_3 ∧ Aside0 (F87.l1 kq x5_1 t231 x9_3 x10_3 a0_0 a0_1 a0_2 a0_3 (rdOf ByteArray.empty t231 0) x245001_3 = some (r1, r2, r3, r4, r5)) ∧ Aside0 (kq ≤ kj9) ∧ Aside0 (Kd.R Kd.string 9 w' w.heap.size (fun _ => True) (.slice (some ad234) t231.length co35) t231) ∧ Aside0 (Kd.S k102 102 w' w.heap.size (fun k_ => some k_ ≠ ((.slice (some ad234) t231.length co35) : Value).ownBlock) u245001 x245001_3) ∧ Aside0 (w'.heap[gb229]? = some (.cells #[.int .i64 a0_0, .int .i64 a0_1, .int .i64 a0_2, .int .i64 a0_3] 23 (0, 0))) ∧ Aside0 (w'.heap[gb230]? = some (.cells #[.string x231000_3, (.slice none 0 0), .int .i64 x231002_3, .int .i64 x231003_3, .int .i64 x231004_3] 66 (0, 0))) ∧ Aside0 (w'.heap[gb244]? = some (.cells #[.string (rdOf ByteArray.empty t231 0), u245001] 59 (0, 0))) ∧ Aside0 (Below w.heap.size w w'))
     case atStart => exact ⟨(wrap64 (((rdOf ByteArray.empty t231 0).size : Int) + 1)), (1), ((⟨#[]⟩ : ByteArray)), (0), (0), (0), (([] : List (S102))), (.slice none 0 0), er_, er_, H', ⟨Nat.le_refl _⟩, ⟨by (with_reducible repeat (first | apply Kd.R_alloc | apply Kd.R_drewN | apply Kd.R_drew)); exact Kd.R_mono (Kd.R_far (p := ⟨gb244, 1, none⟩) (Kd.R_far (p := ⟨gb244, 0, none⟩) (Kd.R_types HO233.out BK244.out (by decide)) (fun _ hk => hk.2) (.string (rdOf ByteArray.empty t231 0))) (fun _ hk => hk.2) (.slice none 0 0)) (fun _ hk => trivial)⟩, ⟨au2_15⟩, ⟨bf_ BK229⟩, ⟨bf_ BK230⟩, ⟨bq_ BK244⟩, ⟨bl_⟩⟩
     case round =>
      clear H'
      try clear c3
      try clear c13b0
      try clear c14b0
      try clear p15
      try clear q15
      try clear hx15
      try clear c16
      try clear c16b0
      try clear c16b1
      try clear p18
      try clear q18
      try clear hx18
      try clear c19
      try clear c19b0
      try clear c19b1
      try clear c24b0
      try clear c27
      try clear c27b0
      try clear c27b1
      try clear c28
      try clear c28b0
      try clear c28b1
      try clear c30b0
      try clear c30b1
      try clear hcz26_0 hcz26_1 hcz26_2 hcz26_3 hcz26_4
      try clear hcz39_0 hcz39_1
      try clear hfz26_0 hfz26_1 hfz26_2 hfz26_3 hfz26_4
      try clear hfz39_0 hfz39_1
      try clear hx234_0
      try clear hx243_0
      try clear hx245_0
      try clear p15
      try clear p18
      try clear p234
      try clear p243
      try clear p245
      try clear q15
      try clear q18
      try clear q234
      try clear q243
      try clear q245
      obtain ⟨x9_3, x10_3, x231000_3, x231002_3, x231003_3, x231004_3, x245001_3, u245001, rfl, rfl, HA, HK3, HO_7, HO_245001, BK229, BK230, BK244, HB⟩ := hrel
      cases gk with
      | zero => exact absurd HA.out (by simp [F87.l1])
      | succ k3 =>
       have H := HA.out
       clear HA
       simp only [F87.l1] at H
       replace H := it_ H; rcases H with ⟨c40b0, H⟩ | ⟨c40b0, H⟩
       rotate_left
       ·simp only [Option.some.injEq, Prod.mk.injEq] at H
        obtain ⟨rfl, rfl, rfl, rfl, rfl⟩ := H
        have hnb236 := NB244_229.out
        have hnc236 := NB229_244.out
        have hnb237 := NB244_230.out
        have hnc237 := NB230_244.out
        obtain ⟨hcz238_0, hcz238_1, hfz238_0, hfz238_1⟩ := cellsF2 BK244.out
        obtain ⟨Ao239, co239, eo239⟩ := Kd.S_slice HO_245001.out
        subst eo239
        have hnb240 := NB230_229.out
        have hnc240 := NB229_230.out
        obtain ⟨hcz241_0, hcz241_1, hcz241_2, hcz241_3, hcz241_4, hfz241_0, hfz241_1, hfz241_2, hfz241_3, hfz241_4⟩ := cellsF5 BK230.out
        go_wp2
        refine bodyPost_ret (results_cell_row rfl _ _ gb230 66 #[.string (rdOf ByteArray.empty t231 0), .slice Ao239 x245001_3.length co239, .int .i64 (wrap64 (x5_1 + 1)), .int .i64 0, .int .i64 0] (0, 0) _ rfl (bq_ BK230) Try.underlying66 rfl (by kernel_rfl)) rfl ?_
        exact ⟨_, au2_9, by (with_reducible repeat (first | apply Kd.S_alloc | apply Kd.S_drewN | apply Kd.S_drew)); exact Kd.S_mono (Kd.S_far (p := ⟨gb230, 4, none⟩) (Kd.S_far (p := ⟨gb230, 3, none⟩) (Kd.S_far (p := ⟨gb230, 2, none⟩) (Kd.S_far (p := ⟨gb230, 1, none⟩) (Kd.S_far (p := ⟨gb230, 0, none⟩) (Kd.S_types HO_245001.out BK230.out (by decide)) (fun _ hk => hk.2) (.string (rdOf ByteArray.empty t231 0))) (fun _ hk => hk.2) (.slice Ao239 x245001_3.length co239)) (fun _ hk => hk.2) (.int .i64 (wrap64 (x5_1 + 1)))) (fun _ hk => hk.2) (.int .i64 0)) (fun _ hk => hk.2) (.int .i64 0)) (fun _ hk => trivial), bl_⟩
       replace H := itn_ H; rcases H with ⟨c41b0, H⟩
       replace H := bi_ H; rcases H with ⟨t247, A42, H⟩
       have HC43 := am_ H
       clear H
       try go_wp2
       replace HO_7 := am_ (Kd.R_drew HO_7.out)
       replace HO_245001 := am_ (Kd.S_drew HO_245001.out)
       replace BK229 := bd_ BK229
       replace BK230 := bd_ BK230
       replace BK244 := bd_ BK244
       replace HB := am_ (below_drew1 HB.out)
       have p246 : 0 ≤ (x10_3 : Int) := od_
       have q246 : x10_3 < (t231.length : Int) := od_
       obtain ⟨ad246, e246, hx246_0⟩ := Kd.at_string (Kd.R_reads' HO_7.out).2.2 x10_3 p246 q246
       obtain rfl : ad234 = ad246 := (by injection e246)
       replace p246 := eq_true p246
       replace q246 := eq_true q246
       refine start_ (n := 9) (S := fun w' => w'.cell? ⟨gb229, 0, none⟩ = some (.int .i64 a0_0) ∧ w'.cell? ⟨gb229, 1, none⟩ = some (.int .i64 a0_1) ∧ w'.cell? ⟨gb229, 2, none⟩ = some (.int .i64 a0_2) ∧ w'.cell? ⟨gb229, 3, none⟩ = some (.int .i64 a0_3) ∧ w'.cell? (ad234.add (x10_3).toNat) = some (.string (rdOf ByteArray.empty t231 x10_3))) (ds := []) (bs 9 0) (by kernel_rfl) rfl rfl ⟨(blk_cell BK229.out 0).trans rfl, (blk_cell BK229.out 1).trans rfl, (blk_cell BK229.out 2).trans rfl, (blk_cell BK229.out 3).trans rfl, hx246_0⟩ (fun hHeld => ?_); refine with_tabW F87.tab21 F87.bits21 (fun HT_ HW_ => ?_)
       generalize wr.drew = w44 at HO_7 HO_245001 BK229 BK230 BK244 HB hx246_0 hHeld ⊢
       refine pu_ 1 78 (bs 9 2) HT_ ?_ rfl rfl
       refine pu_ 2 79 (bs 9 6) HT_ ?_ rfl rfl
       refine pu_ 3 80 (bs 9 14) HT_ ?_ rfl rfl
       refine pu_ 5 82 (bs 9 46) HT_ ?_ rfl rfl
       refine tk_ 0 77 (bs 9 47) HT_ HW_ hHeld au2_13 ?_ rfl rfl
       refine tk_ 4 81 (bs 9 63) HT_ HW_ hHeld au2_13 ?_ rfl rfl
       refine tk_ 6 83 (bs 9 127) HT_ HW_ hHeld au2_13 ?_ rfl rfl
       refine one_ (i := 7) (N := some 84) (bs 9 255) rfl rfl (one_of HT_.out (by kernel_rfl)) (by decide) (fun K hK => ?_)
       refine gr_ Try.func68 #[.agg #[.int .i64 a0_0, .int .i64 a0_1, .int .i64 a0_2, .int .i64 a0_3], .string (rdOf ByteArray.empty t231 x10_3), .int .i64 a0_2] (by rfl) ?_ rfl rfl rfl
       with_reducible refine (F68.calls k3 a0_0 a0_1 a0_2 a0_3 (rdOf ByteArray.empty t231 x10_3) a0_2 t247 _ A42.out).mono ?_
       rintro e w45 ⟨v248, rfl, ho0, hb⟩
       have HS4_ := (hb.cell (World.block_lt_of_cell? _ _ (hHeld.2.2.2.2))).trans (hHeld.2.2.2.2)
       refine ⟨_, rfl, ?_⟩
       replace HO_245001 := am_ (Kd.S_elder' au2_0 (Kd.R_base ho0) hb)
       have HO249 := am_ (Kd.R_lower (Kd.R_new' ho0 (Kd.R_lt (rk_ HO_7))) (below_size bl_))
       replace HO_7 := am_ (Kd.R_elder' (rk_ HO_7) (Kd.R_base ho0) hb)
       replace BK229 := bb_ BK229 hb
       replace BK230 := bb_ BK230 hb
       replace BK244 := bb_ BK244 hb
       replace HB := hs_ w hb
       (try clear hb)
       (try clear hb2)
       (try clear hk)
       (try clear hi)
       (try clear ho0)
       refine hK.out _ _ ⟨(blk_cell BK229.out 0).trans rfl, (blk_cell BK229.out 1).trans rfl, (blk_cell BK229.out 2).trans rfl, (blk_cell BK229.out 3).trans rfl, HS4_⟩ (fun hHeld => ?_)
       clear hK K
       refine no_ 84 ?_
       refine pu_ 8 11 (bs 9 511) HT_ ?_ rfl rfl
       refine done_ (done_of HT_.out (by kernel_rfl)) ?_
       go_upto_region 22 with (fail)
       go_cut [91] (fun v91 wc => ∃ (kq : Nat) (x91_42 : Bool), v91 = .bool x91_42 ∧ Aside0 (F87.j3 kq x5_1 t231 x9_3 x10_3 t247 x91_42 a0_0 a0_1 a0_2 a0_3 (rdOf ByteArray.empty t231 0) x245001_3 = some (r1, r2, r3, r4, r5)) ∧ Aside0 (kq ≤ k3) ∧ Aside0 (Kd.R Kd.string 9 wc w.heap.size (fun k_ => some k_ ≠ (v248 : Value).ownBlock) (.slice (some ad234) t231.length co35) t231) ∧ Aside0 (Kd.R Kd.string 9 wc w.heap.size (fun k_ => some k_ ≠ ((.slice (some ad234) t231.length co35) : Value).ownBlock) v248 t247) ∧ Aside0 (Kd.S k102 102 wc w.heap.size (fun k_ => some k_ ≠ ((.slice (some ad234) t231.length co35) : Value).ownBlock ∧ some k_ ≠ (v248 : Value).ownBlock) u245001 x245001_3) ∧ Aside0 (wc.heap[gb229]? = some (.cells #[.int .i64 a0_0, .int .i64 a0_1, .int .i64 a0_2, .int .i64 a0_3] 23 (0, 0))) ∧ Aside0 (wc.heap[gb230]? = some (.cells #[.string x231000_3, (.slice none 0 0), .int .i64 x231002_3, .int .i64 x231003_3, .int .i64 x231004_3] 66 (0, 0))) ∧ Aside0 (wc.heap[gb244]? = some (.cells #[.string (rdOf ByteArray.empty t231 0), u245001] 59 (0, 0))) ∧ Aside0 (Below w.heap.size w wc))
       case first =>
        have H := HC43.out
        clear HC43
        replace H := it_ H; rcases H with ⟨(c46b0 : decide (10 < x10_3) = true), H⟩ | ⟨(c46b0 : decide (10 < x10_3) = false), H⟩
        ·(first | rw [c46b0] | (simp only [i64_w, i32_w]; rw [c46b0]) | skip)
         have H' := am_ H
         clear H
         go_wp2
         go_meet
         case rel => exact ⟨_, (true), er_, H', ⟨au2_22⟩, ⟨au2_19⟩, ⟨au2_18⟩, ⟨au2_20⟩, ⟨bk_ BK229⟩, ⟨bk_ BK230⟩, ⟨bk_ BK244⟩, ⟨bl_⟩⟩
        (first | rw [c46b0] | (simp only [i64_w, i32_w]; rw [c46b0]) | skip)
        have H' := am_ H
        clear H
        obtain ⟨Ao47, co47, eo47⟩ := Kd.R_slice HO249.out
        subst eo47
        go_wp2
        go_meet
        case rel => exact ⟨_, (decide ((t247.length : Int) > 4)), er_, H', ⟨au2_22⟩, ⟨au2_19⟩, ⟨au2_18⟩, ⟨au2_20⟩, ⟨bk_ BK229⟩, ⟨bk_ BK230⟩, ⟨bk_ BK244⟩, ⟨bl_⟩⟩
       case rest =>
        clear HC43
        try clear c3
        try clear c13b0
        try clear c14b0
        try clear p15
        try clear q15
        try clear hx15
        try clear c16
        try clear c16b0
        try clear c16b1
        try clear p18
        try clear q18
        try clear hx18
        try clear c19
        try clear c19b0
        try clear c19b1
        try clear c24b0
        try clear c27
        try clear c27b0
        try clear c27b1
        try clear c28
        try clear c28b0
        try clear c28b1
        try clear c30b0
        try clear c30b1
        try clear c40b0
        try clear c41b0
        try clear c46b0
        try clear hcz26_0 hcz26_1 hcz26_2 hcz26_3 hcz26_4
        try clear hcz39_0 hcz39_1
        try clear hfz26_0 hfz26_1 hfz26_2 hfz26_3 hfz26_4
        try clear hfz39_0 hfz39_1
        try clear hx234_0
        try clear hx243_0
        try clear hx245_0
        try clear hx246_0
        try clear p15
        try clear p18
        try clear p234
        try clear p243
        try clear p245
        try clear p246
        try clear q15
        try clear q18
        try clear q234
        try clear q243
        try clear q245
        try clear q246
        obtain ⟨kq, x91_42, rfl, HA, HJ42, HO_7, HO_11, HO_245001, BK229, BK230, BK244, HB⟩ := hcut
        cases kq with
        | zero => exact absurd HA.out (by simp [F87.j3])
        | succ kj42 =>
         have H := HA.out
         clear HA
         simp only [F87.j3] at H
         replace H := ib_ H; rcases H with ⟨rfl, H⟩ | ⟨rfl, H⟩
         ·replace H := bi_ H; rcases H with ⟨⟨t250, t251, t254, t255, t256⟩, A49, H⟩
          simp only [Option.some.injEq, Prod.mk.injEq] at H
          obtain ⟨rfl, rfl, rfl, rfl, rfl⟩ := H
          go_wp2_with (first | (go_at_call 114; (with_reducible refine (F114.calls x9_3 t250 t251 t254 t255 t256 _ A49.out).mono ?_); rintro e w50 ⟨v252, rfl, ho0, hb⟩; (try clear A49); have HO253 := am_ (Kd.S_lower (Kd.S_new' (Kd.S_new' (Kd.S_new' ho0 (Kd.R_lt (rk_ HO_7))) (Kd.R_lt (rk_ HO_11))) (Kd.S_lt au2_0)) (below_size bl_)); replace HO_7 := am_ (Kd.R_below (rk_ HO_7) hb); replace HO_11 := am_ (Kd.R_below (rk_ HO_11) hb); replace HO_245001 := am_ (Kd.S_elder' au2_0 (Kd.S_base ho0) hb); replace BK229 := bb_ BK229 hb; replace BK230 := bb_ BK230 hb; replace BK244 := bb_ BK244 hb; replace HB := hs_ w hb; (try clear hb); (try clear hb2); (try clear hk); (try clear hi); (try clear ho0); have hnb51 := NB230_229.out; have hnc51 := NB229_230.out; have hnb52 := NB230_244.out; have hnc52 := NB244_230.out; obtain ⟨hcz53_0, hcz53_1, hcz53_2, hcz53_3, hcz53_4, hfz53_0, hfz53_1, hfz53_2, hfz53_3, hfz53_4⟩ := cellsF5 BK230.out; obtain ⟨Ao54, co54, eo54⟩ := Kd.S_slice HO253.out; subst eo54))
          refine bodyPost_ret (results_cell_row rfl _ _ gb230 66 #[.string t250, .slice Ao54 t251.length co54, .int .i64 t254, .int .i64 t255, .int .i64 t256] (0, 0) _ rfl (bq_ BK230) Try.underlying66 rfl (by kernel_rfl)) rfl ?_
          exact ⟨_, au2_9, by (with_reducible repeat (first | apply Kd.S_alloc | apply Kd.S_drewN | apply Kd.S_drew)); exact Kd.S_mono (Kd.S_far (p := ⟨gb230, 4, none⟩) (Kd.S_far (p := ⟨gb230, 3, none⟩) (Kd.S_far (p := ⟨gb230, 2, none⟩) (Kd.S_far (p := ⟨gb230, 1, none⟩) (Kd.S_far (p := ⟨gb230, 0, none⟩) (Kd.S_types HO253.out BK230.out (by decide)) (fun _ hk => hk.2) (.string t250)) (fun _ hk => hk.2) (.slice Ao54 t251.length co54)) (fun _ hk => hk.2) (.int .i64 t254)) (fun _ hk => hk.2) (.int .i64 t255)) (fun _ hk => hk.2) (.int .i64 t256)) (fun _ hk => trivial), bl_⟩
         have H' := am_ H
         clear H
         go_wp2_with (first | ((with_reducible refine gate_dst (N := 12) rfl ?_); (try (refine gate_guard (by rfl) ?_; dsimp only)); refine be_ 12 #[.slice none 0 0] 102 ?_; intro gb257 hg w55 hbox hb; replace HO_7 := am_ (Kd.R_below (rk_ HO_7) hb); replace HO_11 := am_ (Kd.R_below (rk_ HO_11) hb); replace HO_245001 := am_ (Kd.S_below (Kd.S_elderB au2_0 gb257 (Nat.le_of_eq hg.symm)) hb); have BK257 := am_ (hbox); have GW257 := am_ (gw_ hg bl_); have GE257 := GW257; replace HB := hs_ w hb; have NB229_257 := am_ (gn_ hg (blkl_ BK229)); have NB257_229 := am_ (gm_ hg (blkl_ BK229)); replace BK229 := bb_ BK229 hb; have NB230_257 := am_ (gn_ hg (blkl_ BK230)); have NB257_230 := am_ (gm_ hg (blkl_ BK230)); replace BK230 := bb_ BK230 hb; have NB244_257 := am_ (gn_ hg (blkl_ BK244)); have NB257_244 := am_ (gm_ hg (blkl_ BK244)); replace BK244 := bb_ BK244 hb; clear hb hbox hg; have hnb56 := NB257_229.out; have hnc56 := NB229_257.out; have hnb57 := NB257_230.out; have hnc57 := NB230_257.out; have hnb58 := NB257_244.out; have hnc58 := NB244_257.out; have hcz59_0 : w55.cell? ⟨gb257, 0, none⟩ = some (.slice none 0 0) := (blk_cell BK257.out 0).trans rfl; have hfz59_0 := blk_frozen BK257.out 0))
         go_loopg [13, 14] kj42 (fun kq v13 v14 w' => ∃ (x13_5 : Int) (x14_5 : Int) (x231000_5 : ByteArray) (x231002_5 : Int) (x231003_5 : Int) (x231004_5 : Int) (x258000_5 : List ByteArray) (u258000 : Value), v13 = .int .i64 x13_5 ∧ v14 = .int .i64 x14_5 ∧ Aside0 (F87.l2 kq x5_1 t231 x9_3 x10_3 t247 x13_5 x14_5 a0_0 a0_1 a0_2 a0_3 (rdOf ByteArray.empty t231 0) x245001_3 x258000_5 = some (r1, r2, r3, r4, r5)) ∧ Aside0 (kq ≤ kj42) ∧ Aside0 (Kd.R Kd.string 9 w' w.heap.size (fun k_ => some k_ ≠ (v248 : Value).ownBlock ∧ some k_ ≠ (u258000 : Value).ownBlock) (.slice (some ad234) t231.length co35) t231) ∧ Aside0 (Kd.R Kd.string 9 w' w.heap.size (fun k_ => some k_ ≠ ((.slice (some ad234) t231.length co35) : Value).ownBlock ∧ some k_ ≠ (u258000 : Value).ownBlock) v248 t247) ∧ Aside0 (Kd.S k102 102 w' w.heap.size (fun k_ => some k_ ≠ ((.slice (some ad234) t231.length co35) : Value).ownBlock ∧ some k_ ≠ (v248 : Value).ownBlock ∧ some k_ ≠ (u258000 : Value).ownBlock ∧ k_ ≠ gb257) u245001 x245001_3) ∧ Aside0 (Kd.R Kd.string 9 w' w.heap.size (fun k_ => some k_ ≠ ((.slice (some ad234) t231.length co35) : Value).ownBlock ∧ some k_ ≠ (v248 : Value).ownBlock) u258000 x258000_5) ∧ Aside0 (w'.heap[gb229]? = some (.cells #[.int .i64 a0_0, .int .i64 a0_1, .int .i64 a0_2, .int .i64 a0_3] 23 (0, 0))) ∧ Aside0 (w'.heap[gb230]? = some (.cells #[.string x231000_5, (.slice none 0 0), .int .i64 x231002_5, .int .i64 x231003_5, .int .i64 x231004_5] 66 (0, 0))) ∧ Aside0 (w'.heap[gb244]? = some (.cells #[.string (rdOf ByteArray.empty t231 0), u245001] 59 (0, 0))) ∧ Aside0 (w'.heap[gb257]? = some (.cells #[u258000] 102 (0, 0))) ∧ Aside0 (Below w.heap.size w w'))
         case atStart => exact ⟨(x9_3), (0), (x231000_3), (x231002_3), (x231003_3), (x231004_3), (([] : List ByteArray)), (.slice none 0 0), er_, er_, H', ⟨Nat.le_refl _⟩, ⟨by (with_reducible repeat (first | apply Kd.R_alloc | apply Kd.R_drewN | apply Kd.R_drew)); exact Kd.R_mono (Kd.R_far (p := ⟨gb257, 0, none⟩) (Kd.R_types HO_7.out BK257.out (by decide)) (fun _ hk => hk.2) (.slice none 0 0)) (fun _ hk => ⟨hk.1, (by simp [Value.ownBlock])⟩)⟩, ⟨by (with_reducible repeat (first | apply Kd.R_alloc | apply Kd.R_drewN | apply Kd.R_drew)); exact Kd.R_mono (Kd.R_far (p := ⟨gb257, 0, none⟩) (Kd.R_types HO_11.out BK257.out (by decide)) (fun _ hk => hk.2) (.slice none 0 0)) (fun _ hk => ⟨hk.1, (by simp [Value.ownBlock])⟩)⟩, ⟨by (with_reducible repeat (first | apply Kd.S_alloc | apply Kd.S_drewN | apply Kd.S_drew)); exact Kd.S_mono (Kd.S_far (p := ⟨gb257, 0, none⟩) (Kd.S_mono HO_245001.out (fun k_ hk => (⟨hk, hk.2⟩ : _ ∧ k_ ≠ gb257))) (fun _ hk => hk.2) (.slice none 0 0)) (fun _ hk => ⟨hk.1.1.1, ⟨hk.1.1.2, ⟨(by simp [Value.ownBlock]), hk.1.2⟩⟩⟩)⟩, ⟨by first | exact Kd.R_nil _ _ _ _ _ | exact Kd.N_nil _ _ _ _ _ | exact Kd.V_nil _ _ _ _ _ | exact Kd.Q_nil _ _ _ _ _ | exact Kd.S_nil _ _ _ _ _⟩, ⟨bf_ BK229⟩, ⟨bf_ BK230⟩, ⟨bf_ BK244⟩, ⟨bq_ BK257⟩, ⟨bl_⟩⟩
         case round =>
          clear H'
          try clear c3
          try clear c13b0
          try clear c14b0
          try clear p15
          try clear q15
          try clear hx15
          try clear c16
          try clear c16b0
          try clear c16b1
          try clear p18
          try clear q18
          try clear hx18
          try clear c19
          try clear c19b0
          try clear c19b1
          try clear c24b0
          try clear c27
          try clear c27b0
          try clear c27b1
          try clear c28
          try clear c28b0
          try clear c28b1
          try clear c30b0
          try clear c30b1
          try clear c40b0
          try clear c41b0
          try clear c46b0
          try clear hcz26_0 hcz26_1 hcz26_2 hcz26_3 hcz26_4
          try clear hcz39_0 hcz39_1
          try clear hcz53_0 hcz53_1 hcz53_2 hcz53_3 hcz53_4
          try clear hcz59_0
          try clear hfz26_0 hfz26_1 hfz26_2 hfz26_3 hfz26_4
          try clear hfz39_0 hfz39_1
          try clear hfz53_0 hfz53_1 hfz53_2 hfz53_3 hfz53_4
          try clear hfz59_0
          try clear hx234_0
          try clear hx243_0
          try clear hx245_0
          try clear hx246_0
          try clear p15
          try clear p18
          try clear p234
          try clear p243
          try clear p245
          try clear p246
          try clear q15
          try clear q18
          try clear q234
          try clear q243
          try clear q245
          try clear q246
          obtain ⟨x13_5, x14_5, x231000_5, x231002_5, x231003_5, x231004_5, x258000_5, u258000, rfl, rfl, HA, HK5, HO_7, HO_11, HO_245001, HO_258000, BK229, BK230, BK244, BK257, HB⟩ := hrel
          cases gk with
          | zero => exact absurd HA.out (by simp [F87.l2])
          | succ k5 =>
           have H := HA.out
           clear HA
           simp only [F87.l2] at H
           replace H := it_ H; rcases H with ⟨c60b0, H⟩ | ⟨c60b0, H⟩
           rotate_left
           ·replace H := it_ H; rcases H with ⟨(c127b0 : decide (1 < (t247.length : Int)) = true), H⟩ | ⟨(c127b0 : decide (1 < (t247.length : Int)) = false), H⟩
            rotate_left
            ·have c127b1 : decide (1 < t247.length) = false := n2_ c127b0
             by_cases c188 : x10_3 = (wrap64 ((t231.length : Int) - 1))
             rotate_left
             ·rw [if_neg c188] at H
              have c188b0 : (x10_3 == (wrap64 ((t231.length : Int) - 1))) = false := beq_eq_false_iff_ne.mpr c188
              have c188b1 : (x10_3 != (wrap64 ((t231.length : Int) - 1))) = true := bne_iff_ne.mpr c188
              replace H := iln_ H; rcases H with ⟨LMc221, H⟩
              obtain ⟨y318, hy318⟩ : ∃ y_ : List (S102), y_ = (x245001_3 ++ [(⟨x258000_5⟩ : S102)]) := ⟨_, rfl⟩
              replace H : (if 0 ≤ x10_3 then (if x10_3 < (t231.length : Int) then (F87.l1 k5 x5_1 t231 (wrap64 ((wrap64 (x9_3 + ((rdOf ByteArray.empty t231 x10_3).size : Int))) + 1)) (wrap64 (x10_3 + 1)) a0_0 a0_1 a0_2 a0_3 (rdOf ByteArray.empty t231 0) y318) else (none)) else (none)) = some (r1, r2, r3, r4, r5) := by first | (rw [hy318]; exact H) | exact H
              have Ny318 := am_ hy318
              clear hy318
              replace H := itn_ H; rcases H with ⟨c222b0, H⟩
              replace H := itn_ H; rcases H with ⟨c223b0, H⟩
              have H' := am_ H
              clear H
              obtain ⟨Ao224, co224, eo224⟩ := Kd.R_slice HO_11.out
              subst eo224
              have hnb225 := NB244_229.out
              have hnc225 := NB229_244.out
              have hnb226 := NB244_230.out
              have hnc226 := NB230_244.out
              have hnb227 := NB244_257.out
              have hnc227 := NB257_244.out
              obtain ⟨hcz228_0, hcz228_1, hfz228_0, hfz228_1⟩ := cellsF2 BK244.out
              have hnb229 := NB257_229.out
              have hnc229 := NB229_257.out
              have hnb230 := NB257_230.out
              have hnc230 := NB230_257.out
              have hcz231_0 : wr.cell? ⟨gb257, 0, none⟩ = some (u258000) := (blk_cell BK257.out 0).trans rfl
              have hfz231_0 := blk_frozen BK257.out 0
              obtain ⟨Ao233, co233, eo233⟩ := Kd.R_slice HO_258000.out
              subst eo233
              go_wp2_with (first | ((with_reducible refine gate_builtin (b := .append) (xs := #[.tmp 163, .tmp 165]) rfl ?_); (try (refine gate_guard (by rfl) ?_; dsimp only)); at_builtin; refine Kd.S_append k102 (w0 := w) w.heap.size rfl (.tmp 163) (.tmp 165) 57 102 (.agg #[(.slice none 0 0)]) 24 rfl Try.underlying57 info102 rfl (by decide) (by omega) u245001 x245001_3 (⟨x258000_5⟩ : S102) [.slice Ao233 x258000_5.length co233] (fun k_ => some k_ ≠ (.slice (some ad234) t231.length co35 : Value).ownBlock ∧ some k_ ≠ (.slice Ao224 t247.length co224 : Value).ownBlock ∧ k_ ≠ gb257) (fun k_ => some k_ = (.slice Ao233 x258000_5.length co233 : Value).ownBlock) rfl rfl ?aP (fun k_ hk_ => ((Kd.R_mono (ok' := fun k_ => ((fun k_ => some k_ ≠ (.slice (some ad234) t231.length co35 : Value).ownBlock ∧ some k_ ≠ (.slice Ao224 t247.length co224 : Value).ownBlock ∧ k_ ≠ gb257)) k_ ∧ some k_ ≠ (u245001 : Value).ownBlock) (Kd.R_types (Kd.R_apart' (HO_258000.out) (Kd.S_typed HO_245001.out) (by decide)) BK257.out (by decide)) (fun k_ hk => ⟨⟨hk.1.1.1, ⟨hk.1.1.2, hk.2⟩⟩, hk.1.2⟩))).1 k_ hk_.symm) ?aF ?aO ?aB ?aS ?aL ?_; (case aP => exact k102_mkM _ _ _ (⟨x258000_5⟩ : S102) (Kd.R_mono (Kd.R_tight rfl (Kd.R_mono (ok' := fun k_ => ((fun k_ => some k_ ≠ (.slice (some ad234) t231.length co35 : Value).ownBlock ∧ some k_ ≠ (.slice Ao224 t247.length co224 : Value).ownBlock ∧ k_ ≠ gb257)) k_ ∧ some k_ ≠ (u245001 : Value).ownBlock) (Kd.R_types (Kd.R_apart' (HO_258000.out) (Kd.S_typed HO_245001.out) (by decide)) BK257.out (by decide)) (fun k_ hk => ⟨⟨hk.1.1.1, ⟨hk.1.1.2, hk.2⟩⟩, hk.1.2⟩))) (fun _ h_ => h_))); (case aB => exact bl_); (case aF => exact (fun k_ hk => ⟨Kd.fresh' (Kd.R_lt (rk_ HO_7)) k_ hk, Kd.fresh' (Kd.R_lt (rk_ HO_11)) k_ hk, Kd.freshB (g := gb257) (o := .cells #[.slice Ao233 x258000_5.length co233] 102 (0, 0)) (bk_ BK257) k_ hk⟩)); (case aO => exact au2_10); (case aS => exact (below_size bl_)); (case aL => have := LMc221.out; omega); intro v319 w232 ho hb hg hat; rw [← Ny318.out] at ho; have n0_ := am_ (Kd.R_over' (rk_ HO_7) (Kd.S_typed au2_0) (by decide) hg); have n1_ := am_ (Kd.R_over' (rk_ HO_11) (Kd.S_typed au2_0) (by decide) hg); have n2_ := am_ (bg_ BK229 hg (Kd.S_ne HO_245001.out BK229.out (by decide))); have n3_ := am_ (bg_ BK230 hg (Kd.S_ne HO_245001.out BK230.out (by decide))); have n4_ := am_ (bg_ BK244 hg (Kd.S_ne HO_245001.out BK244.out (by decide))); have n5_ := am_ (bg_ BK257 hg (Kd.S_away HO_245001.out (fun _ hk => hk.2.2.2))); have n6_ := am_ (hb); have n7_ := am_ (ho); clear HO_7; clear HO_11; clear BK229; clear BK230; clear BK244; clear BK257; clear HB; clear HO_245001; clear HO_258000; have HO_7 := n0_; have HO_11 := n1_; have BK229 := n2_; have BK230 := n3_; have BK244 := n4_; have BK257 := n5_; have HB := n6_; have HO320 := n7_; clear n0_ n1_ n2_ n3_ n4_ n5_ n6_ n7_; clear ho hb hg hat; obtain ⟨Ao234, co234, eo234⟩ := Kd.S_slice HO320.out; subst eo234; obtain ⟨hcz235_0, hcz235_1, hfz235_0, hfz235_1⟩ := cellsF2 BK244.out; have p321 : 0 ≤ (x10_3 : Int) := od_; have q321 : x10_3 < (t231.length : Int) := od_; obtain ⟨ad321, e321, hx321_0⟩ := Kd.at_string (Kd.R_reads' HO_7.out).2.2 x10_3 p321 q321; obtain rfl : ad234 = ad321 := (by injection e321); have hn321_0 : ad234.block ≠ gb244 := Kd.own_blk (Kd.R_ne HO_7.out BK244.out (by decide)); replace hx321_0 := (cell_far (p := ⟨gb244, 1, none⟩) (by first | (rw [add_block]; exact hn321_0) | (show (Addr.add _ _).block ≠ _; rw [add_block]; exact hn321_0) | exact hn321_0) (.slice Ao234 y318.length co234)).trans hx321_0; clear hn321_0; replace p321 := eq_true p321; replace q321 := eq_true q321))
              go_roundg k5
              case measure => have := HK1.out; have := HJ9.out; have := HK3.out; have := HJ42.out; have := HK5.out; omega
              case rel => exact ⟨(wrap64 ((wrap64 (x9_3 + ((rdOf ByteArray.empty t231 x10_3).size : Int))) + 1)), (wrap64 (x10_3 + 1)), (x231000_5), (x231002_5), (x231003_5), (x231004_5), (y318), (.slice Ao234 y318.length co234), er_, er_, H', ⟨au2_14⟩, ⟨by (with_reducible repeat (first | apply Kd.R_alloc | apply Kd.R_drewN | apply Kd.R_drew)); exact Kd.R_mono (Kd.R_far (p := ⟨gb244, 1, none⟩) (Kd.R_types HO_7.out BK244.out (by decide)) (fun _ hk => hk.2) (.slice Ao234 y318.length co234)) (fun _ hk => trivial)⟩, ⟨by (with_reducible repeat (first | apply Kd.S_alloc | apply Kd.S_drewN | apply Kd.S_drew)); exact Kd.S_mono (Kd.S_far (p := ⟨gb244, 1, none⟩) (Kd.S_types HO320.out BK244.out (by decide)) (fun _ hk => hk.2) (.slice Ao234 y318.length co234)) (fun _ hk => hk.1.1)⟩, ⟨bf_ BK229⟩, ⟨bf_ BK230⟩, ⟨bq_ BK244⟩, ⟨bl_⟩⟩
             rw [if_pos c188] at H
             have c188b0 : (x10_3 == (wrap64 ((t231.length : Int) - 1))) = true := beq_iff_eq.mpr c188
             have c188b1 : (x10_3 != (wrap64 ((t231.length : Int) - 1))) = false := bne_eq_false_iff_eq.mpr c188
             clear c188
             replace H := bi_ H; rcases H with ⟨t306, A189, H⟩
             replace H := ib_ H; rcases H with ⟨rfl, H⟩ | ⟨rfl, H⟩
             ·replace H := bi_ H; rcases H with ⟨⟨t307, t308, t311, t312, t313⟩, A191, H⟩
              simp only [Option.some.injEq, Prod.mk.injEq] at H
              obtain ⟨rfl, rfl, rfl, rfl, rfl⟩ := H
              obtain ⟨Ao192, co192, eo192⟩ := Kd.R_slice HO_11.out
              subst eo192
              have hnb193 := NB257_229.out
              have hnc193 := NB229_257.out
              have hnb194 := NB257_230.out
              have hnc194 := NB230_257.out
              have hnb195 := NB257_244.out
              have hnc195 := NB244_257.out
              have hcz196_0 : wr.cell? ⟨gb257, 0, none⟩ = some (u258000) := (blk_cell BK257.out 0).trans rfl
              have hfz196_0 := blk_frozen BK257.out 0
              obtain ⟨Ao197, co197, eo197⟩ := Kd.R_slice HO_258000.out
              subst eo197
              go_wp2_with (first | (go_at_call 77; (with_reducible refine (F77.calls _ _ x258000_5 true _ ?s1 ?s2 A189.out).mono ?_); (case s1 => exact au2_11); (case s2 => exact au2_21); rintro e w198 ⟨rfl, hb⟩; (try clear A189); replace HO_7 := am_ (Kd.R_below (rk_ HO_7) hb); replace HO_11 := am_ (Kd.R_below (rk_ HO_11) hb); replace HO_245001 := am_ (Kd.S_below au2_0 hb); replace HO_258000 := am_ (Kd.R_below (rk_ HO_258000) hb); replace BK229 := bb_ BK229 hb; replace BK230 := bb_ BK230 hb; replace BK244 := bb_ BK244 hb; replace BK257 := bb_ BK257 hb; replace HB := hs_ w hb; (try clear hb); (try clear hb2); (try clear hk); (try clear hi)) | (go_at_call 114; (with_reducible refine (F114.calls x9_3 t307 t308 t311 t312 t313 _ A191.out).mono ?_); rintro e w199 ⟨v309, rfl, ho0, hb⟩; (try clear A191); have HO310 := am_ (Kd.S_lower (Kd.S_newB (Kd.S_new' (Kd.S_new' (Kd.S_new' (Kd.S_new' ho0 (Kd.R_lt (rk_ HO_7))) (Kd.R_lt (rk_ HO_11))) (Kd.S_lt au2_0)) (Kd.R_lt (rk_ HO_258000))) (g := gb257) (o := .cells #[.slice Ao197 x258000_5.length co197] 102 (0, 0)) (bk_ BK257)) (below_size bl_)); replace HO_7 := am_ (Kd.R_below (rk_ HO_7) hb); replace HO_11 := am_ (Kd.R_below (rk_ HO_11) hb); replace HO_245001 := am_ (Kd.S_elder' au2_0 (Kd.S_base ho0) hb); replace HO_258000 := am_ (Kd.R_below (rk_ HO_258000) hb); replace BK229 := bb_ BK229 hb; replace BK230 := bb_ BK230 hb; replace BK244 := bb_ BK244 hb; replace BK257 := bb_ BK257 hb; replace HB := hs_ w hb; (try clear hb); (try clear hb2); (try clear hk); (try clear hi); (try clear ho0); have hnb200 := NB230_229.out; have hnc200 := NB229_230.out; have hnb201 := NB230_244.out; have hnc201 := NB244_230.out; obtain ⟨hcz202_0, hcz202_1, hcz202_2, hcz202_3, hcz202_4, hfz202_0, hfz202_1, hfz202_2, hfz202_3, hfz202_4⟩ := cellsF5 BK230.out; obtain ⟨Ao203, co203, eo203⟩ := Kd.S_slice HO310.out; subst eo203))
              refine bodyPost_ret (results_cell_row rfl _ _ gb230 66 #[.string t307, .slice Ao203 t308.length co203, .int .i64 t311, .int .i64 t312, .int .i64 t313] (0, 0) _ rfl (bq_ BK230) Try.underlying66 rfl (by kernel_rfl)) rfl ?_
              exact ⟨_, au2_9, by (with_reducible repeat (first | apply Kd.S_alloc | apply Kd.S_drewN | apply Kd.S_drew)); exact Kd.S_mono (Kd.S_far (p := ⟨gb230, 4, none⟩) (Kd.S_far (p := ⟨gb230, 3, none⟩) (Kd.S_far (p := ⟨gb230, 2, none⟩) (Kd.S_far (p := ⟨gb230, 1, none⟩) (Kd.S_far (p := ⟨gb230, 0, none⟩) (Kd.S_types HO310.out BK230.out (by decide)) (fun _ hk => hk.2) (.string t307)) (fun _ hk => hk.2) (.slice Ao203 t308.length co203)) (fun _ hk => hk.2) (.int .i64 t311)) (fun _ hk => hk.2) (.int .i64 t312)) (fun _ hk => hk.2) (.int .i64 t313)) (fun _ hk => trivial), bl_⟩
             replace H := iln_ H; rcases H with ⟨LMc204, H⟩
             obtain ⟨y314, hy314⟩ : ∃ y_ : List (S102), y_ = (x245001_3 ++ [(⟨x258000_5⟩ : S102)]) := ⟨_, rfl⟩
             replace H : (if 0 ≤ x10_3 then (if x10_3 < (t231.length : Int) then (F87.l1 k5 x5_1 t231 (wrap64 ((wrap64 (x9_3 + ((rdOf ByteArray.empty t231 x10_3).size : Int))) + 1)) (wrap64 (x10_3 + 1)) a0_0 a0_1 a0_2 a0_3 (rdOf ByteArray.empty t231 0) y314) else (none)) else (none)) = some (r1, r2, r3, r4, r5) := by first | (rw [hy314]; exact H) | exact H
             have Ny314 := am_ hy314
             clear hy314
             replace H := itn_ H; rcases H with ⟨c205b0, H⟩
             replace H := itn_ H; rcases H with ⟨c206b0, H⟩
             have H' := am_ H
             clear H
             obtain ⟨Ao207, co207, eo207⟩ := Kd.R_slice HO_11.out
             subst eo207
             have hnb208 := NB257_229.out
             have hnc208 := NB229_257.out
             have hnb209 := NB257_230.out
             have hnc209 := NB230_257.out
             have hnb210 := NB257_244.out
             have hnc210 := NB244_257.out
             have hcz211_0 : wr.cell? ⟨gb257, 0, none⟩ = some (u258000) := (blk_cell BK257.out 0).trans rfl
             have hfz211_0 := blk_frozen BK257.out 0
             obtain ⟨Ao212, co212, eo212⟩ := Kd.R_slice HO_258000.out
             subst eo212
             go_wp2_with (first | (go_at_call 77; (with_reducible refine (F77.calls _ _ x258000_5 false _ ?s1 ?s2 A189.out).mono ?_); (case s1 => exact au2_11); (case s2 => exact au2_21); rintro e w213 ⟨rfl, hb⟩; (try clear A189); replace HO_7 := am_ (Kd.R_below (rk_ HO_7) hb); replace HO_11 := am_ (Kd.R_below (rk_ HO_11) hb); replace HO_245001 := am_ (Kd.S_below au2_0 hb); replace HO_258000 := am_ (Kd.R_below (rk_ HO_258000) hb); replace BK229 := bb_ BK229 hb; replace BK230 := bb_ BK230 hb; replace BK244 := bb_ BK244 hb; replace BK257 := bb_ BK257 hb; replace HB := hs_ w hb; (try clear hb); (try clear hb2); (try clear hk); (try clear hi); have hnb214 := NB244_229.out; have hnc214 := NB229_244.out; have hnb215 := NB244_230.out; have hnc215 := NB230_244.out; obtain ⟨hcz216_0, hcz216_1, hfz216_0, hfz216_1⟩ := cellsF2 BK244.out; have hcz217_0 : w213.cell? ⟨gb257, 0, none⟩ = some (.slice Ao212 x258000_5.length co212) := (blk_cell BK257.out 0).trans rfl; have hfz217_0 := blk_frozen BK257.out 0) | ((with_reducible refine gate_builtin (b := .append) (xs := #[.tmp 163, .tmp 165]) rfl ?_); (try (refine gate_guard (by rfl) ?_; dsimp only)); at_builtin; refine Kd.S_append k102 (w0 := w) w.heap.size rfl (.tmp 163) (.tmp 165) 57 102 (.agg #[(.slice none 0 0)]) 24 rfl Try.underlying57 info102 rfl (by decide) (by omega) u245001 x245001_3 (⟨x258000_5⟩ : S102) [.slice Ao212 x258000_5.length co212] (fun k_ => some k_ ≠ (.slice (some ad234) t231.length co35 : Value).ownBlock ∧ some k_ ≠ (.slice Ao207 t247.length co207 : Value).ownBlock ∧ k_ ≠ gb257) (fun k_ => some k_ = (.slice Ao212 x258000_5.length co212 : Value).ownBlock) rfl rfl ?aP (fun k_ hk_ => ((Kd.R_mono (ok' := fun k_ => ((fun k_ => some k_ ≠ (.slice (some ad234) t231.length co35 : Value).ownBlock ∧ some k_ ≠ (.slice Ao207 t247.length co207 : Value).ownBlock ∧ k_ ≠ gb257)) k_ ∧ some k_ ≠ (u245001 : Value).ownBlock) (Kd.R_types (Kd.R_apart' (HO_258000.out) (Kd.S_typed HO_245001.out) (by decide)) BK257.out (by decide)) (fun k_ hk => ⟨⟨hk.1.1.1, ⟨hk.1.1.2, hk.2⟩⟩, hk.1.2⟩))).1 k_ hk_.symm) ?aF ?aO ?aB ?aS ?aL ?_; (case aP => exact k102_mkM _ _ _ (⟨x258000_5⟩ : S102) (Kd.R_mono (Kd.R_tight rfl (Kd.R_mono (ok' := fun k_ => ((fun k_ => some k_ ≠ (.slice (some ad234) t231.length co35 : Value).ownBlock ∧ some k_ ≠ (.slice Ao207 t247.length co207 : Value).ownBlock ∧ k_ ≠ gb257)) k_ ∧ some k_ ≠ (u245001 : Value).ownBlock) (Kd.R_types (Kd.R_apart' (HO_258000.out) (Kd.S_typed HO_245001.out) (by decide)) BK257.out (by decide)) (fun k_ hk => ⟨⟨hk.1.1.1, ⟨hk.1.1.2, hk.2⟩⟩, hk.1.2⟩))) (fun _ h_ => h_))); (case aB => exact bl_); (case aF => exact (fun k_ hk => ⟨Kd.fresh' (Kd.R_lt (rk_ HO_7)) k_ hk, Kd.fresh' (Kd.R_lt (rk_ HO_11)) k_ hk, Kd.freshB (g := gb257) (o := .cells #[.slice Ao212 x258000_5.length co212] 102 (0, 0)) (bk_ BK257) k_ hk⟩)); (case aO => exact au2_10); (case aS => exact (below_size bl_)); (case aL => have := LMc204.out; omega); intro v315 w218 ho hb hg hat; rw [← Ny314.out] at ho; have n0_ := am_ (Kd.R_over' (rk_ HO_7) (Kd.S_typed au2_0) (by decide) hg); have n1_ := am_ (Kd.R_over' (rk_ HO_11) (Kd.S_typed au2_0) (by decide) hg); have n2_ := am_ (bg_ BK229 hg (Kd.S_ne HO_245001.out BK229.out (by decide))); have n3_ := am_ (bg_ BK230 hg (Kd.S_ne HO_245001.out BK230.out (by decide))); have n4_ := am_ (bg_ BK244 hg (Kd.S_ne HO_245001.out BK244.out (by decide))); have n5_ := am_ (bg_ BK257 hg (Kd.S_away HO_245001.out (fun _ hk => hk.2.2.2))); have n6_ := am_ (hb); have n7_ := am_ (ho); clear HO_7; clear HO_11; clear BK229; clear BK230; clear BK244; clear BK257; clear HB; clear HO_245001; clear HO_258000; have HO_7 := n0_; have HO_11 := n1_; have BK229 := n2_; have BK230 := n3_; have BK244 := n4_; have BK257 := n5_; have HB := n6_; have HO316 := n7_; clear n0_ n1_ n2_ n3_ n4_ n5_ n6_ n7_; clear ho hb hg hat; obtain ⟨Ao219, co219, eo219⟩ := Kd.S_slice HO316.out; subst eo219; obtain ⟨hcz220_0, hcz220_1, hfz220_0, hfz220_1⟩ := cellsF2 BK244.out; have p317 : 0 ≤ (x10_3 : Int) := od_; have q317 : x10_3 < (t231.length : Int) := od_; obtain ⟨ad317, e317, hx317_0⟩ := Kd.at_string (Kd.R_reads' HO_7.out).2.2 x10_3 p317 q317; obtain rfl : ad234 = ad317 := (by injection e317); have hn317_0 : ad234.block ≠ gb244 := Kd.own_blk (Kd.R_ne HO_7.out BK244.out (by decide)); replace hx317_0 := (cell_far (p := ⟨gb244, 1, none⟩) (by first | (rw [add_block]; exact hn317_0) | (show (Addr.add _ _).block ≠ _; rw [add_block]; exact hn317_0) | exact hn317_0) (.slice Ao219 y314.length co219)).trans hx317_0; clear hn317_0; replace p317 := eq_true p317; replace q317 := eq_true q317))
             go_roundg k5
             case measure => have := HK1.out; have := HJ9.out; have := HK3.out; have := HJ42.out; have := HK5.out; omega
             case rel => exact ⟨(wrap64 ((wrap64 (x9_3 + ((rdOf ByteArray.empty t231 x10_3).size : Int))) + 1)), (wrap64 (x10_3 + 1)), (x231000_5), (x231002_5), (x231003_5), (x231004_5), (y314), (.slice Ao219 y314.length co219), er_, er_, H', ⟨au2_14⟩, ⟨by (with_reducible repeat (first | apply Kd.R_alloc | apply Kd.R_drewN | apply Kd.R_drew)); exact Kd.R_mono (Kd.R_far (p := ⟨gb244, 1, none⟩) (Kd.R_types HO_7.out BK244.out (by decide)) (fun _ hk => hk.2) (.slice Ao219 y314.length co219)) (fun _ hk => trivial)⟩, ⟨by (with_reducible repeat (first | apply Kd.S_alloc | apply Kd.S_drewN | apply Kd.S_drew)); exact Kd.S_mono (Kd.S_far (p := ⟨gb244, 1, none⟩) (Kd.S_types HO316.out BK244.out (by decide)) (fun _ hk => hk.2) (.slice Ao219 y314.length co219)) (fun _ hk => hk.1.1)⟩, ⟨bf_ BK229⟩, ⟨bf_ BK230⟩, ⟨bq_ BK244⟩, ⟨bl_⟩⟩
            have c127b1 : decide (1 < t247.length) = true := n2_ c127b0
            obtain ⟨ji128, hji128⟩ : ∃ j_ : Int, (wrap64 ((t247.length : Int) - 1)) = j_ := ⟨_, rfl⟩
            replace H : (if 0 ≤ (ji128) then (if (ji128) < (t247.length : Int) then (if (rdOf ByteArray.empty t247 (ji128)).toList = ([] : List UInt8) then ((F114.f x9_3).bind fun bt283 => (some (bt283.1, bt283.2.1, bt283.2.2.1, bt283.2.2.2.1, bt283.2.2.2.2))) else (if x10_3 = (wrap64 ((t231.length : Int) - 1)) then ((F77.f x258000_5).bind fun t290 => (if t290 = true then ((F114.f x9_3).bind fun bt291 => (some (bt291.1, bt291.2.1, bt291.2.2.1, bt291.2.2.2.1, bt291.2.2.2.2))) else (if x245001_3.length < 5864062014805 then (if 0 ≤ x10_3 then (if x10_3 < (t231.length : Int) then (F87.l1 k5 x5_1 t231 (wrap64 ((wrap64 (x9_3 + ((rdOf ByteArray.empty t231 x10_3).size : Int))) + 1)) (wrap64 (x10_3 + 1)) a0_0 a0_1 a0_2 a0_3 (rdOf ByteArray.empty t231 0) (x245001_3 ++ [(⟨x258000_5⟩ : S102)])) else (none)) else (none)) else (none)))) else (if x245001_3.length < 5864062014805 then (if 0 ≤ x10_3 then (if x10_3 < (t231.length : Int) then (F87.l1 k5 x5_1 t231 (wrap64 ((wrap64 (x9_3 + ((rdOf ByteArray.empty t231 x10_3).size : Int))) + 1)) (wrap64 (x10_3 + 1)) a0_0 a0_1 a0_2 a0_3 (rdOf ByteArray.empty t231 0) (x245001_3 ++ [(⟨x258000_5⟩ : S102)])) else (none)) else (none)) else (none)))) else (none)) else (none)) = some (r1, r2, r3, r4, r5) := by first | (rw [hji128] at H; exact H) | (simp only [hji128] at H ⊢; exact H)
            have hji128w : (IntKind.i64.wrap ((t247.length : Int) - 1)) = ji128 := (i64_w _).trans hji128
            replace H := itn_ H; rcases H with ⟨c129b0, H⟩
            replace H := itn_ H; rcases H with ⟨c130b0, H⟩
            by_cases c131 : (rdOf ByteArray.empty t247 (ji128)).toList = ([] : List UInt8)
            ·rw [if_pos c131] at H
             have c131b0 : ((rdOf ByteArray.empty t247 (ji128)).toList == ([] : List UInt8)) = true := beq_iff_eq.mpr c131
             have c131b1 : ((rdOf ByteArray.empty t247 (ji128)).toList != ([] : List UInt8)) = false := bne_eq_false_iff_eq.mpr c131
             clear c131
             replace H := bi_ H; rcases H with ⟨⟨t283, t284, t287, t288, t289⟩, A132, H⟩
             simp only [Option.some.injEq, Prod.mk.injEq] at H
             obtain ⟨rfl, rfl, rfl, rfl, rfl⟩ := H
             obtain ⟨Ao133, co133, eo133⟩ := Kd.R_slice HO_11.out
             subst eo133
             have p282 : 0 ≤ ((ji128) : Int) := od_
             have q282 : (ji128) < (t247.length : Int) := od_
             obtain ⟨ad282, e282, hx282_0⟩ := Kd.at_string (Kd.R_reads' HO_11.out).2.2 (ji128) p282 q282
             cases e282
             replace p282 := eq_true p282
             replace q282 := eq_true q282
             go_wp2_with (first | (go_at_call 114; (with_reducible refine (F114.calls x9_3 t283 t284 t287 t288 t289 _ A132.out).mono ?_); rintro e w134 ⟨v285, rfl, ho0, hb⟩; (try clear A132); have HO286 := am_ (Kd.S_lower (Kd.S_newB (Kd.S_new' (Kd.S_new' (Kd.S_new' (Kd.S_new' ho0 (Kd.R_lt (rk_ HO_7))) (Kd.R_lt (rk_ HO_11))) (Kd.S_lt au2_0)) (Kd.R_lt (rk_ HO_258000))) (g := gb257) (o := .cells #[u258000] 102 (0, 0)) (bk_ BK257)) (below_size bl_)); replace HO_7 := am_ (Kd.R_below (rk_ HO_7) hb); replace HO_11 := am_ (Kd.R_below (rk_ HO_11) hb); replace HO_245001 := am_ (Kd.S_elder' au2_0 (Kd.S_base ho0) hb); replace HO_258000 := am_ (Kd.R_below (rk_ HO_258000) hb); replace BK229 := bb_ BK229 hb; replace BK230 := bb_ BK230 hb; replace BK244 := bb_ BK244 hb; replace BK257 := bb_ BK257 hb; replace HB := hs_ w hb; (try clear hb); (try clear hb2); (try clear hk); (try clear hi); (try clear ho0); have hnb135 := NB230_229.out; have hnc135 := NB229_230.out; have hnb136 := NB230_244.out; have hnc136 := NB244_230.out; have hnb137 := NB230_257.out; have hnc137 := NB257_230.out; obtain ⟨hcz138_0, hcz138_1, hcz138_2, hcz138_3, hcz138_4, hfz138_0, hfz138_1, hfz138_2, hfz138_3, hfz138_4⟩ := cellsF5 BK230.out; obtain ⟨Ao139, co139, eo139⟩ := Kd.S_slice HO286.out; subst eo139))
             refine bodyPost_ret (results_cell_row rfl _ _ gb230 66 #[.string t283, .slice Ao139 t284.length co139, .int .i64 t287, .int .i64 t288, .int .i64 t289] (0, 0) _ rfl (bq_ BK230) Try.underlying66 rfl (by kernel_rfl)) rfl ?_
             exact ⟨_, au2_16, by (with_reducible repeat (first | apply Kd.S_alloc | apply Kd.S_drewN | apply Kd.S_drew)); exact Kd.S_mono (Kd.S_far (p := ⟨gb230, 4, none⟩) (Kd.S_far (p := ⟨gb230, 3, none⟩) (Kd.S_far (p := ⟨gb230, 2, none⟩) (Kd.S_far (p := ⟨gb230, 1, none⟩) (Kd.S_far (p := ⟨gb230, 0, none⟩) (Kd.S_types HO286.out BK230.out (by decide)) (fun _ hk => hk.2) (.string t283)) (fun _ hk => hk.2) (.slice Ao139 t284.length co139)) (fun _ hk => hk.2) (.int .i64 t287)) (fun _ hk => hk.2) (.int .i64 t288)) (fun _ hk => hk.2) (.int .i64 t289)) (fun _ hk => trivial), bl_⟩
            rw [if_neg c131] at H
            have c131b0 : ((rdOf ByteArray.empty t247 (ji128)).toList == ([] : List UInt8)) = false := beq_eq_false_iff_ne.mpr c131
            have c131b1 : ((rdOf ByteArray.empty t247 (ji128)).toList != ([] : List UInt8)) = true := bne_iff_ne.mpr c131
            by_cases c140 : x10_3 = (wrap64 ((t231.length : Int) - 1))
            rotate_left
            ·rw [if_neg c140] at H
             have c140b0 : (x10_3 == (wrap64 ((t231.length : Int) - 1))) = false := beq_eq_false_iff_ne.mpr c140
             have c140b1 : (x10_3 != (wrap64 ((t231.length : Int) - 1))) = true := bne_iff_ne.mpr c140
             replace H := iln_ H; rcases H with ⟨LMc173, H⟩
             obtain ⟨y302, hy302⟩ : ∃ y_ : List (S102), y_ = (x245001_3 ++ [(⟨x258000_5⟩ : S102)]) := ⟨_, rfl⟩
             replace H : (if 0 ≤ x10_3 then (if x10_3 < (t231.length : Int) then (F87.l1 k5 x5_1 t231 (wrap64 ((wrap64 (x9_3 + ((rdOf ByteArray.empty t231 x10_3).size : Int))) + 1)) (wrap64 (x10_3 + 1)) a0_0 a0_1 a0_2 a0_3 (rdOf ByteArray.empty t231 0) y302) else (none)) else (none)) = some (r1, r2, r3, r4, r5) := by first | (rw [hy302]; exact H) | exact H
             have Ny302 := am_ hy302
             clear hy302
             replace H := itn_ H; rcases H with ⟨c174b0, H⟩
             replace H := itn_ H; rcases H with ⟨c175b0, H⟩
             have H' := am_ H
             clear H
             obtain ⟨Ao176, co176, eo176⟩ := Kd.R_slice HO_11.out
             subst eo176
             have p282 : 0 ≤ ((ji128) : Int) := od_
             have q282 : (ji128) < (t247.length : Int) := od_
             obtain ⟨ad282, e282, hx282_0⟩ := Kd.at_string (Kd.R_reads' HO_11.out).2.2 (ji128) p282 q282
             cases e282
             replace p282 := eq_true p282
             replace q282 := eq_true q282
             have hnb177 := NB244_229.out
             have hnc177 := NB229_244.out
             have hnb178 := NB244_230.out
             have hnc178 := NB230_244.out
             have hnb179 := NB244_257.out
             have hnc179 := NB257_244.out
             obtain ⟨hcz180_0, hcz180_1, hfz180_0, hfz180_1⟩ := cellsF2 BK244.out
             have hnb181 := NB257_229.out
             have hnc181 := NB229_257.out
             have hnb182 := NB257_230.out
             have hnc182 := NB230_257.out
             have hcz183_0 : wr.cell? ⟨gb257, 0, none⟩ = some (u258000) := (blk_cell BK257.out 0).trans rfl
             have hfz183_0 := blk_frozen BK257.out 0
             obtain ⟨Ao185, co185, eo185⟩ := Kd.R_slice HO_258000.out
             subst eo185
             go_wp2_with (first | ((with_reducible refine gate_builtin (b := .append) (xs := #[.tmp 163, .tmp 165]) rfl ?_); (try (refine gate_guard (by rfl) ?_; dsimp only)); at_builtin; refine Kd.S_append k102 (w0 := w) w.heap.size rfl (.tmp 163) (.tmp 165) 57 102 (.agg #[(.slice none 0 0)]) 24 rfl Try.underlying57 info102 rfl (by decide) (by omega) u245001 x245001_3 (⟨x258000_5⟩ : S102) [.slice Ao185 x258000_5.length co185] (fun k_ => some k_ ≠ (.slice (some ad234) t231.length co35 : Value).ownBlock ∧ some k_ ≠ (.slice (some ad282) t247.length co176 : Value).ownBlock ∧ k_ ≠ gb257) (fun k_ => some k_ = (.slice Ao185 x258000_5.length co185 : Value).ownBlock) rfl rfl ?aP (fun k_ hk_ => ((Kd.R_mono (ok' := fun k_ => ((fun k_ => some k_ ≠ (.slice (some ad234) t231.length co35 : Value).ownBlock ∧ some k_ ≠ (.slice (some ad282) t247.length co176 : Value).ownBlock ∧ k_ ≠ gb257)) k_ ∧ some k_ ≠ (u245001 : Value).ownBlock) (Kd.R_types (Kd.R_apart' (HO_258000.out) (Kd.S_typed HO_245001.out) (by decide)) BK257.out (by decide)) (fun k_ hk => ⟨⟨hk.1.1.1, ⟨hk.1.1.2, hk.2⟩⟩, hk.1.2⟩))).1 k_ hk_.symm) ?aF ?aO ?aB ?aS ?aL ?_; (case aP => exact k102_mkM _ _ _ (⟨x258000_5⟩ : S102) (Kd.R_mono (Kd.R_tight rfl (Kd.R_mono (ok' := fun k_ => ((fun k_ => some k_ ≠ (.slice (some ad234) t231.length co35 : Value).ownBlock ∧ some k_ ≠ (.slice (some ad282) t247.length co176 : Value).ownBlock ∧ k_ ≠ gb257)) k_ ∧ some k_ ≠ (u245001 : Value).ownBlock) (Kd.R_types (Kd.R_apart' (HO_258000.out) (Kd.S_typed HO_245001.out) (by decide)) BK257.out (by decide)) (fun k_ hk => ⟨⟨hk.1.1.1, ⟨hk.1.1.2, hk.2⟩⟩, hk.1.2⟩))) (fun _ h_ => h_))); (case aB => exact bl_); (case aF => exact (fun k_ hk => ⟨Kd.fresh' (Kd.R_lt (rk_ HO_7)) k_ hk, Kd.fresh' (Kd.R_lt (rk_ HO_11)) k_ hk, Kd.freshB (g := gb257) (o := .cells #[.slice Ao185 x258000_5.length co185] 102 (0, 0)) (bk_ BK257) k_ hk⟩)); (case aO => exact au2_10); (case aS => exact (below_size bl_)); (case aL => have := LMc173.out; omega); intro v303 w184 ho hb hg hat; rw [← Ny302.out] at ho; have n0_ := am_ (Kd.R_over' (rk_ HO_7) (Kd.S_typed au2_0) (by decide) hg); have n1_ := am_ (Kd.R_over' (rk_ HO_11) (Kd.S_typed au2_0) (by decide) hg); have n2_ := am_ (bg_ BK229 hg (Kd.S_ne HO_245001.out BK229.out (by decide))); have n3_ := am_ (bg_ BK230 hg (Kd.S_ne HO_245001.out BK230.out (by decide))); have n4_ := am_ (bg_ BK244 hg (Kd.S_ne HO_245001.out BK244.out (by decide))); have n5_ := am_ (bg_ BK257 hg (Kd.S_away HO_245001.out (fun _ hk => hk.2.2.2))); have n6_ := am_ (hb); have n7_ := am_ (ho); clear HO_7; clear HO_11; clear BK229; clear BK230; clear BK244; clear BK257; clear HB; clear HO_245001; clear HO_258000; have HO_7 := n0_; have HO_11 := n1_; have BK229 := n2_; have BK230 := n3_; have BK244 := n4_; have BK257 := n5_; have HB := n6_; have HO304 := n7_; clear n0_ n1_ n2_ n3_ n4_ n5_ n6_ n7_; clear ho hb hg hat; obtain ⟨Ao186, co186, eo186⟩ := Kd.S_slice HO304.out; subst eo186; obtain ⟨hcz187_0, hcz187_1, hfz187_0, hfz187_1⟩ := cellsF2 BK244.out; have p305 : 0 ≤ (x10_3 : Int) := od_; have q305 : x10_3 < (t231.length : Int) := od_; obtain ⟨ad305, e305, hx305_0⟩ := Kd.at_string (Kd.R_reads' HO_7.out).2.2 x10_3 p305 q305; obtain rfl : ad234 = ad305 := (by injection e305); have hn305_0 : ad234.block ≠ gb244 := Kd.own_blk (Kd.R_ne HO_7.out BK244.out (by decide)); replace hx305_0 := (cell_far (p := ⟨gb244, 1, none⟩) (by first | (rw [add_block]; exact hn305_0) | (show (Addr.add _ _).block ≠ _; rw [add_block]; exact hn305_0) | exact hn305_0) (.slice Ao186 y302.length co186)).trans hx305_0; clear hn305_0; replace p305 := eq_true p305; replace q305 := eq_true q305))
             go_roundg k5
             case measure => have := HK1.out; have := HJ9.out; have := HK3.out; have := HJ42.out; have := HK5.out; omega
             case rel => exact ⟨(wrap64 ((wrap64 (x9_3 + ((rdOf ByteArray.empty t231 x10_3).size : Int))) + 1)), (wrap64 (x10_3 + 1)), (x231000_5), (x231002_5), (x231003_5), (x231004_5), (y302), (.slice Ao186 y302.length co186), er_, er_, H', ⟨au2_14⟩, ⟨by (with_reducible repeat (first | apply Kd.R_alloc | apply Kd.R_drewN | apply Kd.R_drew)); exact Kd.R_mono (Kd.R_far (p := ⟨gb244, 1, none⟩) (Kd.R_types HO_7.out BK244.out (by decide)) (fun _ hk => hk.2) (.slice Ao186 y302.length co186)) (fun _ hk => trivial)⟩, ⟨by (with_reducible repeat (first | apply Kd.S_alloc | apply Kd.S_drewN | apply Kd.S_drew)); exact Kd.S_mono (Kd.S_far (p := ⟨gb244, 1, none⟩) (Kd.S_types HO304.out BK244.out (by decide)) (fun _ hk => hk.2) (.slice Ao186 y302.length co186)) (fun _ hk => hk.1.1)⟩, ⟨bf_ BK229⟩, ⟨bf_ BK230⟩, ⟨bq_ BK244⟩, ⟨bl_⟩⟩
            rw [if_pos c140] at H
            have c140b0 : (x10_3 == (wrap64 ((t231.length : Int) - 1))) = true := beq_iff_eq.mpr c140
            have c140b1 : (x10_3 != (wrap64 ((t231.length : Int) - 1))) = false := bne_eq_false_iff_eq.mpr c140
            clear c140
            replace H := bi_ H; rcases H with ⟨t290, A141, H⟩
            replace H := ib_ H; rcases H with ⟨rfl, H⟩ | ⟨rfl, H⟩
            ·replace H := bi_ H; rcases H with ⟨⟨t291, t292, t295, t296, t297⟩, A143, H⟩
             simp only [Option.some.injEq, Prod.mk.injEq] at H
             obtain ⟨rfl, rfl, rfl, rfl, rfl⟩ := H
             obtain ⟨Ao144, co144, eo144⟩ := Kd.R_slice HO_11.out
             subst eo144
             have p282 : 0 ≤ ((ji128) : Int) := od_
             have q282 : (ji128) < (t247.length : Int) := od_
             obtain ⟨ad282, e282, hx282_0⟩ := Kd.at_string (Kd.R_reads' HO_11.out).2.2 (ji128) p282 q282
             cases e282
             replace p282 := eq_true p282
             replace q282 := eq_true q282
             have hnb145 := NB257_229.out
             have hnc145 := NB229_257.out
             have hnb146 := NB257_230.out
             have hnc146 := NB230_257.out
             have hnb147 := NB257_244.out
             have hnc147 := NB244_257.out
             have hcz148_0 : wr.cell? ⟨gb257, 0, none⟩ = some (u258000) := (blk_cell BK257.out 0).trans rfl
             have hfz148_0 := blk_frozen BK257.out 0
             obtain ⟨Ao149, co149, eo149⟩ := Kd.R_slice HO_258000.out
             subst eo149
             go_wp2_with (first | (go_at_call 77; (with_reducible refine (F77.calls _ _ x258000_5 true _ ?s1 ?s2 A141.out).mono ?_); (case s1 => exact au2_11); (case s2 => exact au2_21); rintro e w150 ⟨rfl, hb⟩; (try clear A141); replace HO_7 := am_ (Kd.R_below (rk_ HO_7) hb); replace HO_11 := am_ (Kd.R_below (rk_ HO_11) hb); replace HO_245001 := am_ (Kd.S_below au2_0 hb); replace HO_258000 := am_ (Kd.R_below (rk_ HO_258000) hb); replace BK229 := bb_ BK229 hb; replace BK230 := bb_ BK230 hb; replace BK244 := bb_ BK244 hb; replace BK257 := bb_ BK257 hb; replace HB := hs_ w hb; (try clear hb); (try clear hb2); (try clear hk); (try clear hi)) | (go_at_call 114; (with_reducible refine (F114.calls x9_3 t291 t292 t295 t296 t297 _ A143.out).mono ?_); rintro e w151 ⟨v293, rfl, ho0, hb⟩; (try clear A143); have HO294 := am_ (Kd.S_lower (Kd.S_newB (Kd.S_new' (Kd.S_new' (Kd.S_new' (Kd.S_new' ho0 (Kd.R_lt (rk_ HO_7))) (Kd.R_lt (rk_ HO_11))) (Kd.S_lt au2_0)) (Kd.R_lt (rk_ HO_258000))) (g := gb257) (o := .cells #[.slice Ao149 x258000_5.length co149] 102 (0, 0)) (bk_ BK257)) (below_size bl_)); replace HO_7 := am_ (Kd.R_below (rk_ HO_7) hb); replace HO_11 := am_ (Kd.R_below (rk_ HO_11) hb); replace HO_245001 := am_ (Kd.S_elder' au2_0 (Kd.S_base ho0) hb); replace HO_258000 := am_ (Kd.R_below (rk_ HO_258000) hb); replace BK229 := bb_ BK229 hb; replace BK230 := bb_ BK230 hb; replace BK244 := bb_ BK244 hb; replace BK257 := bb_ BK257 hb; replace HB := hs_ w hb; (try clear hb); (try clear hb2); (try clear hk); (try clear hi); (try clear ho0); have hnb152 := NB230_229.out; have hnc152 := NB229_230.out; have hnb153 := NB230_244.out; have hnc153 := NB244_230.out; obtain ⟨hcz154_0, hcz154_1, hcz154_2, hcz154_3, hcz154_4, hfz154_0, hfz154_1, hfz154_2, hfz154_3, hfz154_4⟩ := cellsF5 BK230.out; obtain ⟨Ao155, co155, eo155⟩ := Kd.S_slice HO294.out; subst eo155))
             refine bodyPost_ret (results_cell_row rfl _ _ gb230 66 #[.string t291, .slice Ao155 t292.length co155, .int .i64 t295, .int .i64 t296, .int .i64 t297] (0, 0) _ rfl (bq_ BK230) Try.underlying66 rfl (by kernel_rfl)) rfl ?_
             exact ⟨_, au2_16, by (with_reducible repeat (first | apply Kd.S_alloc | apply Kd.S_drewN | apply Kd.S_drew)); exact Kd.S_mono (Kd.S_far (p := ⟨gb230, 4, none⟩) (Kd.S_far (p := ⟨gb230, 3, none⟩) (Kd.S_far (p := ⟨gb230, 2, none⟩) (Kd.S_far (p := ⟨gb230, 1, none⟩) (Kd.S_far (p := ⟨gb230, 0, none⟩) (Kd.S_types HO294.out BK230.out (by decide)) (fun _ hk => hk.2) (.string t291)) (fun _ hk => hk.2) (.slice Ao155 t292.length co155)) (fun _ hk => hk.2) (.int .i64 t295)) (fun _ hk => hk.2) (.int .i64 t296)) (fun _ hk => hk.2) (.int .i64 t297)) (fun _ hk => trivial), bl_⟩
            replace H := iln_ H; rcases H with ⟨LMc156, H⟩
            obtain ⟨y298, hy298⟩ : ∃ y_ : List (S102), y_ = (x245001_3 ++ [(⟨x258000_5⟩ : S102)]) := ⟨_, rfl⟩
            replace H : (if 0 ≤ x10_3 then (if x10_3 < (t231.length : Int) then (F87.l1 k5 x5_1 t231 (wrap64 ((wrap64 (x9_3 + ((rdOf ByteArray.empty t231 x10_3).size : Int))) + 1)) (wrap64 (x10_3 + 1)) a0_0 a0_1 a0_2 a0_3 (rdOf ByteArray.empty t231 0) y298) else (none)) else (none)) = some (r1, r2, r3, r4, r5) := by first | (rw [hy298]; exact H) | exact H
            have Ny298 := am_ hy298
            clear hy298
            replace H := itn_ H; rcases H with ⟨c157b0, H⟩
            replace H := itn_ H; rcases H with ⟨c158b0, H⟩
            have H' := am_ H
            clear H
            obtain ⟨Ao159, co159, eo159⟩ := Kd.R_slice HO_11.out
            subst eo159
            have p282 : 0 ≤ ((ji128) : Int) := od_
            have q282 : (ji128) < (t247.length : Int) := od_
            obtain ⟨ad282, e282, hx282_0⟩ := Kd.at_string (Kd.R_reads' HO_11.out).2.2 (ji128) p282 q282
            cases e282
            replace p282 := eq_true p282
            replace q282 := eq_true q282
            have hnb160 := NB257_229.out
            have hnc160 := NB229_257.out
            have hnb161 := NB257_230.out
            have hnc161 := NB230_257.out
            have hnb162 := NB257_244.out
            have hnc162 := NB244_257.out
            have hcz163_0 : wr.cell? ⟨gb257, 0, none⟩ = some (u258000) := (blk_cell BK257.out 0).trans rfl
            have hfz163_0 := blk_frozen BK257.out 0
            obtain ⟨Ao164, co164, eo164⟩ := Kd.R_slice HO_258000.out
            subst eo164
            go_wp2_with (first | (go_at_call 77; (with_reducible refine (F77.calls _ _ x258000_5 false _ ?s1 ?s2 A141.out).mono ?_); (case s1 => exact au2_11); (case s2 => exact au2_21); rintro e w165 ⟨rfl, hb⟩; (try clear A141); replace HO_7 := am_ (Kd.R_below (rk_ HO_7) hb); replace HO_11 := am_ (Kd.R_below (rk_ HO_11) hb); replace HO_245001 := am_ (Kd.S_below au2_0 hb); replace HO_258000 := am_ (Kd.R_below (rk_ HO_258000) hb); replace BK229 := bb_ BK229 hb; replace BK230 := bb_ BK230 hb; replace BK244 := bb_ BK244 hb; replace BK257 := bb_ BK257 hb; replace HB := hs_ w hb; (try clear hb); (try clear hb2); (try clear hk); (try clear hi); have hnb166 := NB244_229.out; have hnc166 := NB229_244.out; have hnb167 := NB244_230.out; have hnc167 := NB230_244.out; obtain ⟨hcz168_0, hcz168_1, hfz168_0, hfz168_1⟩ := cellsF2 BK244.out; have hcz169_0 : w165.cell? ⟨gb257, 0, none⟩ = some (.slice Ao164 x258000_5.length co164) := (blk_cell BK257.out 0).trans rfl; have hfz169_0 := blk_frozen BK257.out 0) | ((with_reducible refine gate_builtin (b := .append) (xs := #[.tmp 163, .tmp 165]) rfl ?_); (try (refine gate_guard (by rfl) ?_; dsimp only)); at_builtin; refine Kd.S_append k102 (w0 := w) w.heap.size rfl (.tmp 163) (.tmp 165) 57 102 (.agg #[(.slice none 0 0)]) 24 rfl Try.underlying57 info102 rfl (by decide) (by omega) u245001 x245001_3 (⟨x258000_5⟩ : S102) [.slice Ao164 x258000_5.length co164] (fun k_ => some k_ ≠ (.slice (some ad234) t231.length co35 : Value).ownBlock ∧ some k_ ≠ (.slice (some ad282) t247.length co159 : Value).ownBlock ∧ k_ ≠ gb257) (fun k_ => some k_ = (.slice Ao164 x258000_5.length co164 : Value).ownBlock) rfl rfl ?aP (fun k_ hk_ => ((Kd.R_mono (ok' := fun k_ => ((fun k_ => some k_ ≠ (.slice (some ad234) t231.length co35 : Value).ownBlock ∧ some k_ ≠ (.slice (some ad282) t247.length co159 : Value).ownBlock ∧ k_ ≠ gb257)) k_ ∧ some k_ ≠ (u245001 : Value).ownBlock) (Kd.R_types (Kd.R_apart' (HO_258000.out) (Kd.S_typed HO_245001.out) (by decide)) BK257.out (by decide)) (fun k_ hk => ⟨⟨hk.1.1.1, ⟨hk.1.1.2, hk.2⟩⟩, hk.1.2⟩))).1 k_ hk_.symm) ?aF ?aO ?aB ?aS ?aL ?_; (case aP => exact k102_mkM _ _ _ (⟨x258000_5⟩ : S102) (Kd.R_mono (Kd.R_tight rfl (Kd.R_mono (ok' := fun k_ => ((fun k_ => some k_ ≠ (.slice (some ad234) t231.length co35 : Value).ownBlock ∧ some k_ ≠ (.slice (some ad282) t247.length co159 : Value).ownBlock ∧ k_ ≠ gb257)) k_ ∧ some k_ ≠ (u245001 : Value).ownBlock) (Kd.R_types (Kd.R_apart' (HO_258000.out) (Kd.S_typed HO_245001.out) (by decide)) BK257.out (by decide)) (fun k_ hk => ⟨⟨hk.1.1.1, ⟨hk.1.1.2, hk.2⟩⟩, hk.1.2⟩))) (fun _ h_ => h_))); (case aB => exact bl_); (case aF => exact (fun k_ hk => ⟨Kd.fresh' (Kd.R_lt (rk_ HO_7)) k_ hk, Kd.fresh' (Kd.R_lt (rk_ HO_11)) k_ hk, Kd.freshB (g := gb257) (o := .cells #[.slice Ao164 x258000_5.length co164] 102 (0, 0)) (bk_ BK257) k_ hk⟩)); (case aO => exact au2_10); (case aS => exact (below_size bl_)); (case aL => have := LMc156.out; omega); intro v299 w170 ho hb hg hat; rw [← Ny298.out] at ho; have n0_ := am_ (Kd.R_over' (rk_ HO_7) (Kd.S_typed au2_0) (by decide) hg); have n1_ := am_ (Kd.R_over' (rk_ HO_11) (Kd.S_typed au2_0) (by decide) hg); have n2_ := am_ (bg_ BK229 hg (Kd.S_ne HO_245001.out BK229.out (by decide))); have n3_ := am_ (bg_ BK230 hg (Kd.S_ne HO_245001.out BK230.out (by decide))); have n4_ := am_ (bg_ BK244 hg (Kd.S_ne HO_245001.out BK244.out (by decide))); have n5_ := am_ (bg_ BK257 hg (Kd.S_away HO_245001.out (fun _ hk => hk.2.2.2))); have n6_ := am_ (hb); have n7_ := am_ (ho); clear HO_7; clear HO_11; clear BK229; clear BK230; clear BK244; clear BK257; clear HB; clear HO_245001; clear HO_258000; have HO_7 := n0_; have HO_11 := n1_; have BK229 := n2_; have BK230 := n3_; have BK244 := n4_; have BK257 := n5_; have HB := n6_; have HO300 := n7_; clear n0_ n1_ n2_ n3_ n4_ n5_ n6_ n7_; clear ho hb hg hat; obtain ⟨Ao171, co171, eo171⟩ := Kd.S_slice HO300.out; subst eo171; obtain ⟨hcz172_0, hcz172_1, hfz172_0, hfz172_1⟩ := cellsF2 BK244.out; have p301 : 0 ≤ (x10_3 : Int) := od_; have q301 : x10_3 < (t231.length : Int) := od_; obtain ⟨ad301, e301, hx301_0⟩ := Kd.at_string (Kd.R_reads' HO_7.out).2.2 x10_3 p301 q301; obtain rfl : ad234 = ad301 := (by injection e301); have hn301_0 : ad234.block ≠ gb244 := Kd.own_blk (Kd.R_ne HO_7.out BK244.out (by decide)); replace hx301_0 := (cell_far (p := ⟨gb244, 1, none⟩) (by first | (rw [add_block]; exact hn301_0) | (show (Addr.add _ _).block ≠ _; rw [add_block]; exact hn301_0) | exact hn301_0) (.slice Ao171 y298.length co171)).trans hx301_0; clear hn301_0; replace p301 := eq_true p301; replace q301 := eq_true q301))
            go_roundg k5
            case measure => have := HK1.out; have := HJ9.out; have := HK3.out; have := HJ42.out; have := HK5.out; omega
            case rel => exact ⟨(wrap64 ((wrap64 (x9_3 + ((rdOf ByteArray.empty t231 x10_3).size : Int))) + 1)), (wrap64 (x10_3 + 1)), (x231000_5), (x231002_5), (x231003_5), (x231004_5), (y298), (.slice Ao171 y298.length co171), er_, er_, H', ⟨au2_14⟩, ⟨by (with_reducible repeat (first | apply Kd.R_alloc | apply Kd.R_drewN | apply Kd.R_drew)); exact Kd.R_mono (Kd.R_far (p := ⟨gb244, 1, none⟩) (Kd.R_types HO_7.out BK244.out (by decide)) (fun _ hk => hk.2) (.slice Ao171 y298.length co171)) (fun _ hk => trivial)⟩, ⟨by (with_reducible repeat (first | apply Kd.S_alloc | apply Kd.S_drewN | apply Kd.S_drew)); exact Kd.S_mono (Kd.S_far (p := ⟨gb244, 1, none⟩) (Kd.S_types HO300.out BK244.out (by decide)) (fun _ hk => hk.2) (.slice Ao171 y298.length co171)) (fun _ hk => hk.1.1)⟩, ⟨bf_ BK229⟩, ⟨bf_ BK230⟩, ⟨bq_ BK244⟩, ⟨bl_⟩⟩
           replace H := itn_ H; rcases H with ⟨c61b0, H⟩
           replace H := bi_ H; rcases H with ⟨⟨t259, t260, t261⟩, A62, H⟩
           by_cases c63 : t261 = 0
           rotate_left
           ·rw [if_neg c63] at H
            have c63b0 : (t261 == 0) = false := beq_eq_false_iff_ne.mpr c63
            have c63b1 : (t261 != 0) = true := bne_iff_ne.mpr c63
            replace H := bi_ H; rcases H with ⟨⟨t263, t264, t267, t268, t269⟩, A107, H⟩
            simp only [Option.some.injEq, Prod.mk.injEq] at H
            obtain ⟨rfl, rfl, rfl, rfl, rfl⟩ := H
            obtain ⟨Ao108, co108, eo108⟩ := Kd.R_slice HO_11.out
            subst eo108
            try go_wp2
            replace HO_7 := am_ (Kd.R_drew HO_7.out)
            replace HO_11 := am_ (Kd.R_drew HO_11.out)
            replace HO_245001 := am_ (Kd.S_drew HO_245001.out)
            replace HO_258000 := am_ (Kd.R_drew HO_258000.out)
            replace BK229 := bd_ BK229
            replace BK230 := bd_ BK230
            replace BK244 := bd_ BK244
            replace BK257 := bd_ BK257
            replace HB := am_ (below_drew1 HB.out)
            have p258 : 0 ≤ (x14_5 : Int) := od_
            have q258 : x14_5 < (t247.length : Int) := od_
            obtain ⟨ad258, e258, hx258_0⟩ := Kd.at_string (Kd.R_reads' HO_11.out).2.2 x14_5 p258 q258
            cases e258
            replace p258 := eq_true p258
            replace q258 := eq_true q258
            refine start_ (n := 8) (S := fun w' => w'.cell? ⟨gb229, 0, none⟩ = some (.int .i64 a0_0) ∧ w'.cell? ⟨gb229, 1, none⟩ = some (.int .i64 a0_1) ∧ w'.cell? ⟨gb229, 2, none⟩ = some (.int .i64 a0_2) ∧ w'.cell? ⟨gb229, 3, none⟩ = some (.int .i64 a0_3) ∧ w'.cell? (ad258.add (x14_5).toNat) = some (.string (rdOf ByteArray.empty t247 x14_5))) (ds := []) (bs 8 0) (by kernel_rfl) rfl rfl ⟨(blk_cell BK229.out 0).trans rfl, (blk_cell BK229.out 1).trans rfl, (blk_cell BK229.out 2).trans rfl, (blk_cell BK229.out 3).trans rfl, hx258_0⟩ (fun hHeld => ?_); refine with_tabW F87.tab29 F87.bits29 (fun HT_ HW_ => ?_)
            generalize wr.drew = w109 at HO_7 HO_11 HO_245001 HO_258000 BK229 BK230 BK244 BK257 HB hx258_0 hHeld ⊢
            refine pu_ 1 103 (bs 8 2) HT_ ?_ rfl rfl
            refine pu_ 2 104 (bs 8 6) HT_ ?_ rfl rfl
            refine pu_ 3 105 (bs 8 14) HT_ ?_ rfl rfl
            refine tk_ 0 102 (bs 8 15) HT_ HW_ hHeld au2_13 ?_ rfl rfl
            refine tk_ 4 106 (bs 8 31) HT_ HW_ hHeld au2_13 ?_ rfl rfl
            refine join_ (σ := Nat) 1 (bs 8 127) (fun s_ => [(107, .agg #[.string t259, .int .i64 t260, .int .i64 t261]), (15, .pointer (some ⟨s_, 0, none⟩))]) (fun s_ w' => (w'.cell? ⟨gb229, 0, none⟩ = some (.int .i64 a0_0) ∧ w'.cell? ⟨gb229, 1, none⟩ = some (.int .i64 a0_1) ∧ w'.cell? ⟨gb229, 2, none⟩ = some (.int .i64 a0_2) ∧ w'.cell? ⟨gb229, 3, none⟩ = some (.int .i64 a0_3) ∧ w'.cell? (ad258.add (x14_5).toNat) = some (.string (rdOf ByteArray.empty t247 x14_5))) ∧ (Kd.R Kd.string 9 w' w.heap.size (fun k_ => some k_ ≠ (u258000 : Value).ownBlock ∧ some k_ ≠ (.slice (some ad234) t231.length co35 : Value).ownBlock) (.slice (some ad258) t247.length co108) t247) ∧ (Kd.S k102 102 w' w.heap.size (fun k_ => some k_ ≠ (.slice (some ad258) t247.length co108 : Value).ownBlock ∧ some k_ ≠ (u258000 : Value).ownBlock ∧ some k_ ≠ (.slice (some ad234) t231.length co35 : Value).ownBlock ∧ k_ ≠ gb257) u245001 x245001_3) ∧ (Kd.R Kd.string 9 w' w.heap.size (fun k_ => some k_ ≠ (.slice (some ad258) t247.length co108 : Value).ownBlock ∧ some k_ ≠ (.slice (some ad234) t231.length co35 : Value).ownBlock) u258000 x258000_5) ∧ (Kd.R Kd.string 9 w' w.heap.size (fun k_ => some k_ ≠ (.slice (some ad258) t247.length co108 : Value).ownBlock ∧ some k_ ≠ (u258000 : Value).ownBlock) (.slice (some ad234) t231.length co35) t231) ∧ (w'.heap[gb229]? = some (.cells #[.int .i64 a0_0, .int .i64 a0_1, .int .i64 a0_2, .int .i64 a0_3] 23 (0, 0))) ∧ (w'.heap[gb230]? = some (.cells #[.string x231000_5, .slice none 0 0, .int .i64 x231002_5, .int .i64 x231003_5, .int .i64 x231004_5] 66 (0, 0))) ∧ (w'.heap[gb244]? = some (.cells #[.string (rdOf ByteArray.empty t231 0), u245001] 59 (0, 0))) ∧ (w'.heap[gb257]? = some (.cells #[u258000] 102 (0, 0))) ∧ (w'.heap[s_]? = some (.cells #[.string (⟨#[]⟩ : ByteArray), .int .i64 0, .int .i64 0] 31 (0, 0))) ∧ (w.heap.size ≤ s_) ∧ (w.heap.size ≤ s_) ∧ (gb229 ≠ s_) ∧ (s_ ≠ gb229) ∧ (gb230 ≠ s_) ∧ (s_ ≠ gb230) ∧ (gb244 ≠ s_) ∧ (s_ ≠ gb244) ∧ (gb257 ≠ s_) ∧ (s_ ≠ gb257) ∧ (Below w.heap.size w w')) ?_ ?_
            rotate_left
            ·intro hCont
             refine two_ (i := 5) (j := 6) (Ni := some 107) (Nj := some 15) (bs 8 63) (bs 8 95) rfl rfl rfl rfl (two_of HT_.out (by kernel_rfl)) (by decide) (by decide) (fun K hK => ?_) (fun K hK => ?_)
             ·skip
              refine gr_ Try.func18 #[.agg #[.int .i64 a0_0, .int .i64 a0_1, .int .i64 a0_2, .int .i64 a0_3], .string (rdOf ByteArray.empty t247 x14_5)] (by rfl) ?_ rfl rfl rfl
              with_reducible refine (F18.calls k5 a0_0 a0_1 a0_2 a0_3 (rdOf ByteArray.empty t247 x14_5) t259 t260 t261 _ A62.out).mono ?_
              rintro e w110 ⟨rfl, hb⟩
              have HS4_ := (hb.cell (World.block_lt_of_cell? _ _ (hHeld.2.2.2.2))).trans (hHeld.2.2.2.2)
              refine ⟨_, rfl, ?_⟩
              replace HO_7 := am_ (Kd.R_below (rk_ HO_7) hb)
              replace HO_11 := am_ (Kd.R_below (rk_ HO_11) hb)
              replace HO_245001 := am_ (Kd.S_below au2_0 hb)
              replace HO_258000 := am_ (Kd.R_below (rk_ HO_258000) hb)
              replace BK229 := bb_ BK229 hb
              replace BK230 := bb_ BK230 hb
              replace BK244 := bb_ BK244 hb
              replace BK257 := bb_ BK257 hb
              replace HB := hs_ w hb
              (try clear hb)
              (try clear hb2)
              (try clear hk)
              (try clear hi)
              refine hK.out _ _ ⟨(blk_cell BK229.out 0).trans rfl, (blk_cell BK229.out 1).trans rfl, (blk_cell BK229.out 2).trans rfl, (blk_cell BK229.out 3).trans rfl, HS4_⟩ (fun hHeld => ?_)
              clear hK K
              refine no_ 107 ?_
              refine one_ (i := 6) (N := some 15) (bs 8 127) rfl rfl (one_of HT_.out (by kernel_rfl)) (by decide) (fun K hK => ?_)
              refine box_step ?hg (N := 15) ?hd (cs := #[.string (⟨#[]⟩ : ByteArray), .int .i64 0, .int .i64 0]) (t := 31) ?hr ?_; (case hd => rfl); (case hg => rfl); (case hr => exact hr_)
              intro gb262 hg w111 hbox hb
              have HS4_ := (hb.cell (World.block_lt_of_cell? _ _ (hHeld.2.2.2.2))).trans (hHeld.2.2.2.2)
              replace HO_7 := am_ (Kd.R_below (rk_ HO_7) hb)
              replace HO_11 := am_ (Kd.R_below (rk_ HO_11) hb)
              replace HO_245001 := am_ (Kd.S_below au2_0 hb)
              replace HO_258000 := am_ (Kd.R_below (rk_ HO_258000) hb)
              have BK262 := am_ (hbox)
              have GW262 := am_ (gw_ hg bl_)
              have GE262 := am_ (gw_ hg bl_)
              replace HB := hs_ w hb
              have NB229_262 := am_ (gn_ hg (blkl_ BK229))
              have NB262_229 := am_ (gm_ hg (blkl_ BK229))
              replace BK229 := bb_ BK229 hb
              have NB230_262 := am_ (gn_ hg (blkl_ BK230))
              have NB262_230 := am_ (gm_ hg (blkl_ BK230))
              replace BK230 := bb_ BK230 hb
              have NB244_262 := am_ (gn_ hg (blkl_ BK244))
              have NB262_244 := am_ (gm_ hg (blkl_ BK244))
              replace BK244 := bb_ BK244 hb
              have NB257_262 := am_ (gn_ hg (blkl_ BK257))
              have NB262_257 := am_ (gm_ hg (blkl_ BK257))
              replace BK257 := bb_ BK257 hb
              clear hb hbox hg
              refine hK.out _ _ ⟨(blk_cell BK229.out 0).trans rfl, (blk_cell BK229.out 1).trans rfl, (blk_cell BK229.out 2).trans rfl, (blk_cell BK229.out 3).trans rfl, HS4_⟩ (fun hHeld => ?_)
              clear hK K
              refine no_ 15 ?_
              exact norm_ au2_12 (hCont (gb262) _ ⟨hHeld, au2_8, au2_6, au2_7, (rk_ HO_7), (bk_ BK229), (bk_ BK230), (bk_ BK244), (bk_ BK257), (bk_ BK262), GW262.out, GE262.out, NB229_262.out, NB262_229.out, NB230_262.out, NB262_230.out, NB244_262.out, NB262_244.out, NB257_262.out, NB262_257.out, bl_⟩)
             skip
             refine box_step ?hg (N := 15) ?hd (cs := #[.string (⟨#[]⟩ : ByteArray), .int .i64 0, .int .i64 0]) (t := 31) ?hr ?_; (case hd => rfl); (case hg => rfl); (case hr => exact hr_)
             intro gb262 hg w110 hbox hb
             have HS4_ := (hb.cell (World.block_lt_of_cell? _ _ (hHeld.2.2.2.2))).trans (hHeld.2.2.2.2)
             replace HO_7 := am_ (Kd.R_below (rk_ HO_7) hb)
             replace HO_11 := am_ (Kd.R_below (rk_ HO_11) hb)
             replace HO_245001 := am_ (Kd.S_below au2_0 hb)
             replace HO_258000 := am_ (Kd.R_below (rk_ HO_258000) hb)
             have BK262 := am_ (hbox)
             have GW262 := am_ (gw_ hg bl_)
             have GE262 := am_ (gw_ hg bl_)
             replace HB := hs_ w hb
             have NB229_262 := am_ (gn_ hg (blkl_ BK229))
             have NB262_229 := am_ (gm_ hg (blkl_ BK229))
             replace BK229 := bb_ BK229 hb
             have NB230_262 := am_ (gn_ hg (blkl_ BK230))
             have NB262_230 := am_ (gm_ hg (blkl_ BK230))
             replace BK230 := bb_ BK230 hb
             have NB244_262 := am_ (gn_ hg (blkl_ BK244))
             have NB262_244 := am_ (gm_ hg (blkl_ BK244))
             replace BK244 := bb_ BK244 hb
             have NB257_262 := am_ (gn_ hg (blkl_ BK257))
             have NB262_257 := am_ (gm_ hg (blkl_ BK257))
             replace BK257 := bb_ BK257 hb
             clear hb hbox hg
             refine hK.out _ _ ⟨(blk_cell BK229.out 0).trans rfl, (blk_cell BK229.out 1).trans rfl, (blk_cell BK229.out 2).trans rfl, (blk_cell BK229.out 3).trans rfl, HS4_⟩ (fun hHeld => ?_)
             clear hK K
             refine no_ 15 ?_
             refine one_ (i := 5) (N := some 107) (bs 8 127) rfl rfl (one_of HT_.out (by kernel_rfl)) (by decide) (fun K hK => ?_)
             refine gr_ Try.func18 #[.agg #[.int .i64 a0_0, .int .i64 a0_1, .int .i64 a0_2, .int .i64 a0_3], .string (rdOf ByteArray.empty t247 x14_5)] (by rfl) ?_ rfl rfl rfl
             with_reducible refine (F18.calls k5 a0_0 a0_1 a0_2 a0_3 (rdOf ByteArray.empty t247 x14_5) t259 t260 t261 _ A62.out).mono ?_
             rintro e w111 ⟨rfl, hb⟩
             have HS4_ := (hb.cell (World.block_lt_of_cell? _ _ (hHeld.2.2.2.2))).trans (hHeld.2.2.2.2)
             refine ⟨_, rfl, ?_⟩
             replace HO_7 := am_ (Kd.R_below (rk_ HO_7) hb)
             replace HO_11 := am_ (Kd.R_below (rk_ HO_11) hb)
             replace HO_245001 := am_ (Kd.S_below au2_0 hb)
             replace HO_258000 := am_ (Kd.R_below (rk_ HO_258000) hb)
             replace BK229 := bb_ BK229 hb
             replace BK230 := bb_ BK230 hb
             replace BK244 := bb_ BK244 hb
             replace BK257 := bb_ BK257 hb
             replace BK262 := bb_ BK262 hb
             replace HB := hs_ w hb
             (try clear hb)
             (try clear hb2)
             (try clear hk)
             (try clear hi)
             refine hK.out _ _ ⟨(blk_cell BK229.out 0).trans rfl, (blk_cell BK229.out 1).trans rfl, (blk_cell BK229.out 2).trans rfl, (blk_cell BK229.out 3).trans rfl, HS4_⟩ (fun hHeld => ?_)
             clear hK K
             refine no_ 107 ?_
             exact norm_ au2_12 (hCont (gb262) _ ⟨hHeld, au2_8, au2_6, au2_7, (rk_ HO_7), (bk_ BK229), (bk_ BK230), (bk_ BK244), (bk_ BK257), (bk_ BK262), GW262.out, GE262.out, NB229_262.out, NB262_229.out, NB230_262.out, NB262_230.out, NB244_262.out, NB262_244.out, NB257_262.out, NB262_257.out, bl_⟩)
            rintro gb262 w112 ⟨hS_, h0_, h1_, h2_, h3_, h4_, h5_, h6_, h7_, h8_, h9_, h10_, h11_, h12_, h13_, h14_, h15_, h16_, h17_, h18_, h19_⟩
            have n0_ : Aside0 (Kd.R Kd.string 9 w112 w.heap.size (fun k_ => some k_ ≠ (u258000 : Value).ownBlock ∧ some k_ ≠ (.slice (some ad234) t231.length co35 : Value).ownBlock) (.slice (some ad258) t247.length co108) t247) := ⟨h0_⟩
            have n1_ : Aside0 (Kd.S k102 102 w112 w.heap.size (fun k_ => some k_ ≠ (.slice (some ad258) t247.length co108 : Value).ownBlock ∧ some k_ ≠ (u258000 : Value).ownBlock ∧ some k_ ≠ (.slice (some ad234) t231.length co35 : Value).ownBlock ∧ k_ ≠ gb257) u245001 x245001_3) := ⟨h1_⟩
            have n2_ : Aside0 (Kd.R Kd.string 9 w112 w.heap.size (fun k_ => some k_ ≠ (.slice (some ad258) t247.length co108 : Value).ownBlock ∧ some k_ ≠ (.slice (some ad234) t231.length co35 : Value).ownBlock) u258000 x258000_5) := ⟨h2_⟩
            have n3_ : Aside0 (Kd.R Kd.string 9 w112 w.heap.size (fun k_ => some k_ ≠ (.slice (some ad258) t247.length co108 : Value).ownBlock ∧ some k_ ≠ (u258000 : Value).ownBlock) (.slice (some ad234) t231.length co35) t231) := ⟨h3_⟩
            have n4_ : Aside0 (w112.heap[gb229]? = some (.cells #[.int .i64 a0_0, .int .i64 a0_1, .int .i64 a0_2, .int .i64 a0_3] 23 (0, 0))) := ⟨h4_⟩
            have n5_ : Aside0 (w112.heap[gb230]? = some (.cells #[.string x231000_5, .slice none 0 0, .int .i64 x231002_5, .int .i64 x231003_5, .int .i64 x231004_5] 66 (0, 0))) := ⟨h5_⟩
            have n6_ : Aside0 (w112.heap[gb244]? = some (.cells #[.string (rdOf ByteArray.empty t231 0), u245001] 59 (0, 0))) := ⟨h6_⟩
            have n7_ : Aside0 (w112.heap[gb257]? = some (.cells #[u258000] 102 (0, 0))) := ⟨h7_⟩
            have n8_ : Aside0 (w112.heap[gb262]? = some (.cells #[.string (⟨#[]⟩ : ByteArray), .int .i64 0, .int .i64 0] 31 (0, 0))) := ⟨h8_⟩
            have n9_ : Aside0 (w.heap.size ≤ gb262) := ⟨h9_⟩
            have n10_ : Aside0 (w.heap.size ≤ gb262) := ⟨h10_⟩
            have n11_ : Aside0 (gb229 ≠ gb262) := ⟨h11_⟩
            have n12_ : Aside0 (gb262 ≠ gb229) := ⟨h12_⟩
            have n13_ : Aside0 (gb230 ≠ gb262) := ⟨h13_⟩
            have n14_ : Aside0 (gb262 ≠ gb230) := ⟨h14_⟩
            have n15_ : Aside0 (gb244 ≠ gb262) := ⟨h15_⟩
            have n16_ : Aside0 (gb262 ≠ gb244) := ⟨h16_⟩
            have n17_ : Aside0 (gb257 ≠ gb262) := ⟨h17_⟩
            have n18_ : Aside0 (gb262 ≠ gb257) := ⟨h18_⟩
            have n19_ : Aside0 (Below w.heap.size w w112) := ⟨h19_⟩
            clear HO_7
            clear HO_11
            clear HO_245001
            clear HO_258000
            clear BK229
            clear BK230
            clear BK244
            clear BK257
            clear HB
            clear h0_ h1_ h2_ h3_ h4_ h5_ h6_ h7_ h8_ h9_ h10_ h11_ h12_ h13_ h14_ h15_ h16_ h17_ h18_ h19_
            have HO_11 := n0_
            have HO_245001 := n1_
            have HO_258000 := n2_
            have HO_7 := n3_
            have BK229 := n4_
            have BK230 := n5_
            have BK244 := n6_
            have BK257 := n7_
            have BK262 := n8_
            have GW262 := n9_
            have GE262 := n10_
            have NB229_262 := n11_
            have NB262_229 := n12_
            have NB230_262 := n13_
            have NB262_230 := n14_
            have NB244_262 := n15_
            have NB262_244 := n16_
            have NB257_262 := n17_
            have NB262_257 := n18_
            have HB := n19_
            clear n0_ n1_ n2_ n3_ n4_ n5_ n6_ n7_ n8_ n9_ n10_ n11_ n12_ n13_ n14_ n15_ n16_ n17_ n18_ n19_
            have hHeld : w112.cell? ⟨gb229, 0, none⟩ = some (.int .i64 a0_0) ∧ w112.cell? ⟨gb229, 1, none⟩ = some (.int .i64 a0_1) ∧ w112.cell? ⟨gb229, 2, none⟩ = some (.int .i64 a0_2) ∧ w112.cell? ⟨gb229, 3, none⟩ = some (.int .i64 a0_3) ∧ w112.cell? (ad258.add (x14_5).toNat) = some (.string (rdOf ByteArray.empty t247 x14_5)) := hS_
            refine norm_ (a' := ?_) ?_ ?_
            rotate_left
            ·simp only [putAll, Act.put, List.setIfInBounds_toArray, List.set_cons_zero, List.set_cons_succ]
             rfl
            refine one_ (i := 7) (N := none) (bs 8 255) rfl rfl (one_of HT_.out (by kernel_rfl)) (by decide) (fun K hK => ?_)
            have hs113 : w112.cell? ⟨gb262, 0, none⟩ = some (.string (⟨#[]⟩ : ByteArray)) := (blk_cell BK262.out 0).trans rfl
            have hfs113 := blk_frozen BK262.out 0
            have hns113_0 := NB229_262.out
            have hns113_1 := NB230_262.out
            have hns113_2 := NB244_262.out
            have hns113_3 := NB257_262.out
            have hms113_0 := NB262_229.out
            have hms113_1 := NB262_230.out
            have hms113_2 := NB262_244.out
            have hms113_3 := NB262_257.out
            have hs114 : w112.cell? ⟨gb262, 1, none⟩ = some (.int .i64 0) := (blk_cell BK262.out 1).trans rfl
            have hfs114 := blk_frozen BK262.out 1
            have hns114_0 := NB229_262.out
            have hns114_1 := NB230_262.out
            have hns114_2 := NB244_262.out
            have hns114_3 := NB257_262.out
            have hms114_0 := NB262_229.out
            have hms114_1 := NB262_230.out
            have hms114_2 := NB262_244.out
            have hms114_3 := NB262_257.out
            have hs115 : w112.cell? ⟨gb262, 2, none⟩ = some (.int .i64 0) := (blk_cell BK262.out 2).trans rfl
            have hfs115 := blk_frozen BK262.out 2
            have hns115_0 := NB229_262.out
            have hns115_1 := NB230_262.out
            have hns115_2 := NB244_262.out
            have hns115_3 := NB257_262.out
            have hms115_0 := NB262_229.out
            have hms115_1 := NB262_230.out
            have hms115_2 := NB262_244.out
            have hms115_3 := NB262_257.out
            refine skip_ (w1 := ?_) (by rfl) rfl ?_ ?_
            rotate_left
            ·go_simp
             rfl
            refine hK.out _ _ ⟨((cell_far (p := ⟨gb262, _, none⟩) NB229_262.out _).trans (((cell_far (p := ⟨gb262, _, none⟩) NB229_262.out _).trans (((cell_far (p := ⟨gb262, _, none⟩) NB229_262.out _).trans (hHeld.1)))))), ((cell_far (p := ⟨gb262, _, none⟩) NB229_262.out _).trans (((cell_far (p := ⟨gb262, _, none⟩) NB229_262.out _).trans (((cell_far (p := ⟨gb262, _, none⟩) NB229_262.out _).trans (hHeld.2.1)))))), ((cell_far (p := ⟨gb262, _, none⟩) NB229_262.out _).trans (((cell_far (p := ⟨gb262, _, none⟩) NB229_262.out _).trans (((cell_far (p := ⟨gb262, _, none⟩) NB229_262.out _).trans (hHeld.2.2.1)))))), ((cell_far (p := ⟨gb262, _, none⟩) NB229_262.out _).trans (((cell_far (p := ⟨gb262, _, none⟩) NB229_262.out _).trans (((cell_far (p := ⟨gb262, _, none⟩) NB229_262.out _).trans (hHeld.2.2.2.1)))))), ((cell_far (p := ⟨gb262, _, none⟩) au2_1 _).trans (((cell_far (p := ⟨gb262, _, none⟩) au2_1 _).trans (((cell_far (p := ⟨gb262, _, none⟩) au2_1 _).trans (hHeld.2.2.2.2))))))⟩ (fun hHeld => ?_)
            clear hK K
            refine done_ (done_of HT_.out (by kernel_rfl)) ?_
            have hnb116 := NB262_229.out
            have hnc116 := NB229_262.out
            have hnb117 := NB262_230.out
            have hnc117 := NB230_262.out
            have hnb118 := NB262_244.out
            have hnc118 := NB244_262.out
            have hnb119 := NB262_257.out
            have hnc119 := NB257_262.out
            obtain ⟨hcz120_0, hcz120_1, hcz120_2, hfz120_0, hfz120_1, hfz120_2⟩ := cellsF3 BK262.out
            try go_wp2_with (first | (go_at_call 114; (with_reducible refine (F114.calls (wrap64 (x13_5 + t260)) t263 t264 t267 t268 t269 _ A107.out).mono ?_); rintro e w121 ⟨v265, rfl, ho0, hb⟩; (try clear A107); have HO266 := am_ (Kd.S_lower (Kd.S_newB (Kd.S_new' (Kd.S_new' (Kd.S_new' (Kd.S_new' ho0 (Kd.R_lt au2_3)) (Kd.R_lt au2_2)) (Kd.S_lt au2_4)) (Kd.R_lt au2_5)) (g := gb257) (o := .cells #[u258000] 102 (0, 0)) (bf_ BK257)) (below_size bl_)); replace HO_7 := am_ (Kd.R_below au2_3 hb); replace HO_11 := am_ (Kd.R_below au2_2 hb); replace HO_245001 := am_ (Kd.S_elder' au2_4 (Kd.S_base ho0) hb); replace HO_258000 := am_ (Kd.R_below au2_5 hb); replace BK229 := am_ (blk_below (g := gb229) (o := .cells #[.int .i64 a0_0, .int .i64 a0_1, .int .i64 a0_2, .int .i64 a0_3] 23 (0, 0)) (bf_ BK229) hb); replace BK230 := am_ (blk_below (g := gb230) (o := .cells #[.string x231000_5, .slice none 0 0, .int .i64 x231002_5, .int .i64 x231003_5, .int .i64 x231004_5] 66 (0, 0)) (bf_ BK230) hb); replace BK244 := am_ (blk_below (g := gb244) (o := .cells #[.string (rdOf ByteArray.empty t231 0), u245001] 59 (0, 0)) (bf_ BK244) hb); replace BK257 := am_ (blk_below (g := gb257) (o := .cells #[u258000] 102 (0, 0)) (bf_ BK257) hb); replace BK262 := am_ (blk_below (g := gb262) (o := .cells #[.string t259, .int .i64 t260, .int .i64 t261] 31 (0, 0)) (bq_ BK262) hb); replace HB := hs_ w hb; (try clear hb); (try clear hb2); (try clear hk); (try clear hi); (try clear ho0); have hnb122 := NB230_229.out; have hnc122 := NB229_230.out; have hnb123 := NB230_244.out; have hnc123 := NB244_230.out; have hnb124 := NB230_257.out; have hnc124 := NB257_230.out; obtain ⟨hcz125_0, hcz125_1, hcz125_2, hcz125_3, hcz125_4, hfz125_0, hfz125_1, hfz125_2, hfz125_3, hfz125_4⟩ := cellsF5 BK230.out; obtain ⟨Ao126, co126, eo126⟩ := Kd.S_slice HO266.out; subst eo126))
            refine bodyPost_ret (results_cell_row rfl _ _ gb230 66 #[.string t263, .slice Ao126 t264.length co126, .int .i64 t267, .int .i64 t268, .int .i64 t269] (0, 0) _ rfl (bq_ BK230) Try.underlying66 rfl (by kernel_rfl)) rfl ?_
            exact ⟨_, au2_9, by (with_reducible repeat (first | apply Kd.S_alloc | apply Kd.S_drewN | apply Kd.S_drew)); exact Kd.S_mono (Kd.S_far (p := ⟨gb230, 4, none⟩) (Kd.S_far (p := ⟨gb230, 3, none⟩) (Kd.S_far (p := ⟨gb230, 2, none⟩) (Kd.S_far (p := ⟨gb230, 1, none⟩) (Kd.S_far (p := ⟨gb230, 0, none⟩) (Kd.S_types HO266.out BK230.out (by decide)) (fun _ hk => hk.2) (.string t263)) (fun _ hk => hk.2) (.slice Ao126 t264.length co126)) (fun _ hk => hk.2) (.int .i64 t267)) (fun _ hk => hk.2) (.int .i64 t268)) (fun _ hk => hk.2) (.int .i64 t269)) (fun _ hk => trivial), bl_⟩
           rw [if_pos c63] at H
           have c63b0 : (t261 == 0) = true := beq_iff_eq.mpr c63
           have c63b1 : (t261 != 0) = false := bne_eq_false_iff_eq.mpr c63
           clear c63
           replace H := bi_ H; rcases H with ⟨t270, A64, H⟩
           replace H := ib_ H; rcases H with ⟨rfl, H⟩ | ⟨rfl, H⟩
           rotate_left
           ·replace H := bi_ H; rcases H with ⟨⟨t275, t276, t279, t280, t281⟩, A87, H⟩
            simp only [Option.some.injEq, Prod.mk.injEq] at H
            obtain ⟨rfl, rfl, rfl, rfl, rfl⟩ := H
            obtain ⟨Ao88, co88, eo88⟩ := Kd.R_slice HO_11.out
            subst eo88
            try go_wp2
            replace HO_7 := am_ (Kd.R_drew HO_7.out)
            replace HO_11 := am_ (Kd.R_drew HO_11.out)
            replace HO_245001 := am_ (Kd.S_drew HO_245001.out)
            replace HO_258000 := am_ (Kd.R_drew HO_258000.out)
            replace BK229 := bd_ BK229
            replace BK230 := bd_ BK230
            replace BK244 := bd_ BK244
            replace BK257 := bd_ BK257
            replace HB := am_ (below_drew1 HB.out)
            have p258 : 0 ≤ (x14_5 : Int) := od_
            have q258 : x14_5 < (t247.length : Int) := od_
            obtain ⟨ad258, e258, hx258_0⟩ := Kd.at_string (Kd.R_reads' HO_11.out).2.2 x14_5 p258 q258
            cases e258
            replace p258 := eq_true p258
            replace q258 := eq_true q258
            refine start_ (n := 8) (S := fun w' => w'.cell? ⟨gb229, 0, none⟩ = some (.int .i64 a0_0) ∧ w'.cell? ⟨gb229, 1, none⟩ = some (.int .i64 a0_1) ∧ w'.cell? ⟨gb229, 2, none⟩ = some (.int .i64 a0_2) ∧ w'.cell? ⟨gb229, 3, none⟩ = some (.int .i64 a0_3) ∧ w'.cell? (ad258.add (x14_5).toNat) = some (.string (rdOf ByteArray.empty t247 x14_5))) (ds := []) (bs 8 0) (by kernel_rfl) rfl rfl ⟨(blk_cell BK229.out 0).trans rfl, (blk_cell BK229.out 1).trans rfl, (blk_cell BK229.out 2).trans rfl, (blk_cell BK229.out 3).trans rfl, hx258_0⟩ (fun hHeld => ?_); refine with_tabW F87.tab29 F87.bits29 (fun HT_ HW_ => ?_)
            generalize wr.drew = w89 at HO_7 HO_11 HO_245001 HO_258000 BK229 BK230 BK244 BK257 HB hx258_0 hHeld ⊢
            refine pu_ 1 103 (bs 8 2) HT_ ?_ rfl rfl
            refine pu_ 2 104 (bs 8 6) HT_ ?_ rfl rfl
            refine pu_ 3 105 (bs 8 14) HT_ ?_ rfl rfl
            refine tk_ 0 102 (bs 8 15) HT_ HW_ hHeld au2_13 ?_ rfl rfl
            refine tk_ 4 106 (bs 8 31) HT_ HW_ hHeld au2_13 ?_ rfl rfl
            refine join_ (σ := Nat) 1 (bs 8 127) (fun s_ => [(107, .agg #[.string t259, .int .i64 t260, .int .i64 t261]), (15, .pointer (some ⟨s_, 0, none⟩))]) (fun s_ w' => (w'.cell? ⟨gb229, 0, none⟩ = some (.int .i64 a0_0) ∧ w'.cell? ⟨gb229, 1, none⟩ = some (.int .i64 a0_1) ∧ w'.cell? ⟨gb229, 2, none⟩ = some (.int .i64 a0_2) ∧ w'.cell? ⟨gb229, 3, none⟩ = some (.int .i64 a0_3) ∧ w'.cell? (ad258.add (x14_5).toNat) = some (.string (rdOf ByteArray.empty t247 x14_5))) ∧ (Kd.R Kd.string 9 w' w.heap.size (fun k_ => some k_ ≠ (u258000 : Value).ownBlock ∧ some k_ ≠ (.slice (some ad234) t231.length co35 : Value).ownBlock) (.slice (some ad258) t247.length co88) t247) ∧ (Kd.S k102 102 w' w.heap.size (fun k_ => some k_ ≠ (.slice (some ad258) t247.length co88 : Value).ownBlock ∧ some k_ ≠ (u258000 : Value).ownBlock ∧ some k_ ≠ (.slice (some ad234) t231.length co35 : Value).ownBlock ∧ k_ ≠ gb257) u245001 x245001_3) ∧ (Kd.R Kd.string 9 w' w.heap.size (fun k_ => some k_ ≠ (.slice (some ad258) t247.length co88 : Value).ownBlock ∧ some k_ ≠ (.slice (some ad234) t231.length co35 : Value).ownBlock) u258000 x258000_5) ∧ (Kd.R Kd.string 9 w' w.heap.size (fun k_ => some k_ ≠ (.slice (some ad258) t247.length co88 : Value).ownBlock ∧ some k_ ≠ (u258000 : Value).ownBlock) (.slice (some ad234) t231.length co35) t231) ∧ (w'.heap[gb229]? = some (.cells #[.int .i64 a0_0, .int .i64 a0_1, .int .i64 a0_2, .int .i64 a0_3] 23 (0, 0))) ∧ (w'.heap[gb230]? = some (.cells #[.string x231000_5, .slice none 0 0, .int .i64 x231002_5, .int .i64 x231003_5, .int .i64 x231004_5] 66 (0, 0))) ∧ (w'.heap[gb244]? = some (.cells #[.string (rdOf ByteArray.empty t231 0), u245001] 59 (0, 0))) ∧ (w'.heap[gb257]? = some (.cells #[u258000] 102 (0, 0))) ∧ (w'.heap[s_]? = some (.cells #[.string (⟨#[]⟩ : ByteArray), .int .i64 0, .int .i64 0] 31 (0, 0))) ∧ (w.heap.size ≤ s_) ∧ (w.heap.size ≤ s_) ∧ (gb229 ≠ s_) ∧ (s_ ≠ gb229) ∧ (gb230 ≠ s_) ∧ (s_ ≠ gb230) ∧ (gb244 ≠ s_) ∧ (s_ ≠ gb244) ∧ (gb257 ≠ s_) ∧ (s_ ≠ gb257) ∧ (Below w.heap.size w w')) ?_ ?_
            rotate_left
            ·intro hCont
             refine two_ (i := 5) (j := 6) (Ni := some 107) (Nj := some 15) (bs 8 63) (bs 8 95) rfl rfl rfl rfl (two_of HT_.out (by kernel_rfl)) (by decide) (by decide) (fun K hK => ?_) (fun K hK => ?_)
             ·skip
              refine gr_ Try.func18 #[.agg #[.int .i64 a0_0, .int .i64 a0_1, .int .i64 a0_2, .int .i64 a0_3], .string (rdOf ByteArray.empty t247 x14_5)] (by rfl) ?_ rfl rfl rfl
              with_reducible refine (F18.calls k5 a0_0 a0_1 a0_2 a0_3 (rdOf ByteArray.empty t247 x14_5) t259 t260 t261 _ A62.out).mono ?_
              rintro e w90 ⟨rfl, hb⟩
              have HS4_ := (hb.cell (World.block_lt_of_cell? _ _ (hHeld.2.2.2.2))).trans (hHeld.2.2.2.2)
              refine ⟨_, rfl, ?_⟩
              replace HO_7 := am_ (Kd.R_below (rk_ HO_7) hb)
              replace HO_11 := am_ (Kd.R_below (rk_ HO_11) hb)
              replace HO_245001 := am_ (Kd.S_below au2_0 hb)
              replace HO_258000 := am_ (Kd.R_below (rk_ HO_258000) hb)
              replace BK229 := bb_ BK229 hb
              replace BK230 := bb_ BK230 hb
              replace BK244 := bb_ BK244 hb
              replace BK257 := bb_ BK257 hb
              replace HB := hs_ w hb
              (try clear hb)
              (try clear hb2)
              (try clear hk)
              (try clear hi)
              refine hK.out _ _ ⟨(blk_cell BK229.out 0).trans rfl, (blk_cell BK229.out 1).trans rfl, (blk_cell BK229.out 2).trans rfl, (blk_cell BK229.out 3).trans rfl, HS4_⟩ (fun hHeld => ?_)
              clear hK K
              refine no_ 107 ?_
              refine one_ (i := 6) (N := some 15) (bs 8 127) rfl rfl (one_of HT_.out (by kernel_rfl)) (by decide) (fun K hK => ?_)
              refine box_step ?hg (N := 15) ?hd (cs := #[.string (⟨#[]⟩ : ByteArray), .int .i64 0, .int .i64 0]) (t := 31) ?hr ?_; (case hd => rfl); (case hg => rfl); (case hr => exact hr_)
              intro gb262 hg w91 hbox hb
              have HS4_ := (hb.cell (World.block_lt_of_cell? _ _ (hHeld.2.2.2.2))).trans (hHeld.2.2.2.2)
              replace HO_7 := am_ (Kd.R_below (rk_ HO_7) hb)
              replace HO_11 := am_ (Kd.R_below (rk_ HO_11) hb)
              replace HO_245001 := am_ (Kd.S_below au2_0 hb)
              replace HO_258000 := am_ (Kd.R_below (rk_ HO_258000) hb)
              have BK262 := am_ (hbox)
              have GW262 := am_ (gw_ hg bl_)
              have GE262 := am_ (gw_ hg bl_)
              replace HB := hs_ w hb
              have NB229_262 := am_ (gn_ hg (blkl_ BK229))
              have NB262_229 := am_ (gm_ hg (blkl_ BK229))
              replace BK229 := bb_ BK229 hb
              have NB230_262 := am_ (gn_ hg (blkl_ BK230))
              have NB262_230 := am_ (gm_ hg (blkl_ BK230))
              replace BK230 := bb_ BK230 hb
              have NB244_262 := am_ (gn_ hg (blkl_ BK244))
              have NB262_244 := am_ (gm_ hg (blkl_ BK244))
              replace BK244 := bb_ BK244 hb
              have NB257_262 := am_ (gn_ hg (blkl_ BK257))
              have NB262_257 := am_ (gm_ hg (blkl_ BK257))
              replace BK257 := bb_ BK257 hb
              clear hb hbox hg
              refine hK.out _ _ ⟨(blk_cell BK229.out 0).trans rfl, (blk_cell BK229.out 1).trans rfl, (blk_cell BK229.out 2).trans rfl, (blk_cell BK229.out 3).trans rfl, HS4_⟩ (fun hHeld => ?_)
              clear hK K
              refine no_ 15 ?_
              exact norm_ au2_12 (hCont (gb262) _ ⟨hHeld, au2_8, au2_6, au2_7, (rk_ HO_7), (bk_ BK229), (bk_ BK230), (bk_ BK244), (bk_ BK257), (bk_ BK262), GW262.out, GE262.out, NB229_262.out, NB262_229.out, NB230_262.out, NB262_230.out, NB244_262.out, NB262_244.out, NB257_262.out, NB262_257.out, bl_⟩)
             skip
             refine box_step ?hg (N := 15) ?hd (cs := #[.string (⟨#[]⟩ : ByteArray), .int .i64 0, .int .i64 0]) (t := 31) ?hr ?_; (case hd => rfl); (case hg => rfl); (case hr => exact hr_)
             intro gb262 hg w90 hbox hb
             have HS4_ := (hb.cell (World.block_lt_of_cell? _ _ (hHeld.2.2.2.2))).trans (hHeld.2.2.2.2)
             replace HO_7 := am_ (Kd.R_below (rk_ HO_7) hb)
             replace HO_11 := am_ (Kd.R_below (rk_ HO_11) hb)
             replace HO_245001 := am_ (Kd.S_below au2_0 hb)
             replace HO_258000 := am_ (Kd.R_below (rk_ HO_258000) hb)
             have BK262 := am_ (hbox)
             have GW262 := am_ (gw_ hg bl_)
             have GE262 := am_ (gw_ hg bl_)
             replace HB := hs_ w hb
             have NB229_262 := am_ (gn_ hg (blkl_ BK229))
             have NB262_229 := am_ (gm_ hg (blkl_ BK229))
             replace BK229 := bb_ BK229 hb
             have NB230_262 := am_ (gn_ hg (blkl_ BK230))
             have NB262_230 := am_ (gm_ hg (blkl_ BK230))
             replace BK230 := bb_ BK230 hb
             have NB244_262 := am_ (gn_ hg (blkl_ BK244))
             have NB262_244 := am_ (gm_ hg (blkl_ BK244))
             replace BK244 := bb_ BK244 hb
             have NB257_262 := am_ (gn_ hg (blkl_ BK257))
             have NB262_257 := am_ (gm_ hg (blkl_ BK257))
             replace BK257 := bb_ BK257 hb
             clear hb hbox hg
             refine hK.out _ _ ⟨(blk_cell BK229.out 0).trans rfl, (blk_cell BK229.out 1).trans rfl, (blk_cell BK229.out 2).trans rfl, (blk_cell BK229.out 3).trans rfl, HS4_⟩ (fun hHeld => ?_)
             clear hK K
             refine no_ 15 ?_
             refine one_ (i := 5) (N := some 107) (bs 8 127) rfl rfl (one_of HT_.out (by kernel_rfl)) (by decide) (fun K hK => ?_)
             refine gr_ Try.func18 #[.agg #[.int .i64 a0_0, .int .i64 a0_1, .int .i64 a0_2, .int .i64 a0_3], .string (rdOf ByteArray.empty t247 x14_5)] (by rfl) ?_ rfl rfl rfl
             with_reducible refine (F18.calls k5 a0_0 a0_1 a0_2 a0_3 (rdOf ByteArray.empty t247 x14_5) t259 t260 t261 _ A62.out).mono ?_
             rintro e w91 ⟨rfl, hb⟩
             have HS4_ := (hb.cell (World.block_lt_of_cell? _ _ (hHeld.2.2.2.2))).trans (hHeld.2.2.2.2)
             refine ⟨_, rfl, ?_⟩
             replace HO_7 := am_ (Kd.R_below (rk_ HO_7) hb)
             replace HO_11 := am_ (Kd.R_below (rk_ HO_11) hb)
             replace HO_245001 := am_ (Kd.S_below au2_0 hb)
             replace HO_258000 := am_ (Kd.R_below (rk_ HO_258000) hb)
             replace BK229 := bb_ BK229 hb
             replace BK230 := bb_ BK230 hb
             replace BK244 := bb_ BK244 hb
             replace BK257 := bb_ BK257 hb
             replace BK262 := bb_ BK262 hb
             replace HB := hs_ w hb
             (try clear hb)
             (try clear hb2)
             (try clear hk)
             (try clear hi)
             refine hK.out _ _ ⟨(blk_cell BK229.out 0).trans rfl, (blk_cell BK229.out 1).trans rfl, (blk_cell BK229.out 2).trans rfl, (blk_cell BK229.out 3).trans rfl, HS4_⟩ (fun hHeld => ?_)
             clear hK K
             refine no_ 107 ?_
             exact norm_ au2_12 (hCont (gb262) _ ⟨hHeld, au2_8, au2_6, au2_7, (rk_ HO_7), (bk_ BK229), (bk_ BK230), (bk_ BK244), (bk_ BK257), (bk_ BK262), GW262.out, GE262.out, NB229_262.out, NB262_229.out, NB230_262.out, NB262_230.out, NB244_262.out, NB262_244.out, NB257_262.out, NB262_257.out, bl_⟩)
            rintro gb262 w92 ⟨hS_, h0_, h1_, h2_, h3_, h4_, h5_, h6_, h7_, h8_, h9_, h10_, h11_, h12_, h13_, h14_, h15_, h16_, h17_, h18_, h19_⟩
            have n0_ : Aside0 (Kd.R Kd.string 9 w92 w.heap.size (fun k_ => some k_ ≠ (u258000 : Value).ownBlock ∧ some k_ ≠ (.slice (some ad234) t231.length co35 : Value).ownBlock) (.slice (some ad258) t247.length co88) t247) := ⟨h0_⟩
            have n1_ : Aside0 (Kd.S k102 102 w92 w.heap.size (fun k_ => some k_ ≠ (.slice (some ad258) t247.length co88 : Value).ownBlock ∧ some k_ ≠ (u258000 : Value).ownBlock ∧ some k_ ≠ (.slice (some ad234) t231.length co35 : Value).ownBlock ∧ k_ ≠ gb257) u245001 x245001_3) := ⟨h1_⟩
            have n2_ : Aside0 (Kd.R Kd.string 9 w92 w.heap.size (fun k_ => some k_ ≠ (.slice (some ad258) t247.length co88 : Value).ownBlock ∧ some k_ ≠ (.slice (some ad234) t231.length co35 : Value).ownBlock) u258000 x258000_5) := ⟨h2_⟩
            have n3_ : Aside0 (Kd.R Kd.string 9 w92 w.heap.size (fun k_ => some k_ ≠ (.slice (some ad258) t247.length co88 : Value).ownBlock ∧ some k_ ≠ (u258000 : Value).ownBlock) (.slice (some ad234) t231.length co35) t231) := ⟨h3_⟩
            have n4_ : Aside0 (w92.heap[gb229]? = some (.cells #[.int .i64 a0_0, .int .i64 a0_1, .int .i64 a0_2, .int .i64 a0_3] 23 (0, 0))) := ⟨h4_⟩
            have n5_ : Aside0 (w92.heap[gb230]? = some (.cells #[.string x231000_5, .slice none 0 0, .int .i64 x231002_5, .int .i64 x231003_5, .int .i64 x231004_5] 66 (0, 0))) := ⟨h5_⟩
            have n6_ : Aside0 (w92.heap[gb244]? = some (.cells #[.string (rdOf ByteArray.empty t231 0), u245001] 59 (0, 0))) := ⟨h6_⟩
            have n7_ : Aside0 (w92.heap[gb257]? = some (.cells #[u258000] 102 (0, 0))) := ⟨h7_⟩
            have n8_ : Aside0 (w92.heap[gb262]? = some (.cells #[.string (⟨#[]⟩ : ByteArray), .int .i64 0, .int .i64 0] 31 (0, 0))) := ⟨h8_⟩
            have n9_ : Aside0 (w.heap.size ≤ gb262) := ⟨h9_⟩
            have n10_ : Aside0 (w.heap.size ≤ gb262) := ⟨h10_⟩
            have n11_ : Aside0 (gb229 ≠ gb262) := ⟨h11_⟩
            have n12_ : Aside0 (gb262 ≠ gb229) := ⟨h12_⟩
            have n13_ : Aside0 (gb230 ≠ gb262) := ⟨h13_⟩
            have n14_ : Aside0 (gb262 ≠ gb230) := ⟨h14_⟩
            have n15_ : Aside0 (gb244 ≠ gb262) := ⟨h15_⟩
            have n16_ : Aside0 (gb262 ≠ gb244) := ⟨h16_⟩
            have n17_ : Aside0 (gb257 ≠ gb262) := ⟨h17_⟩
            have n18_ : Aside0 (gb262 ≠ gb257) := ⟨h18_⟩
            have n19_ : Aside0 (Below w.heap.size w w92) := ⟨h19_⟩
            clear HO_7
            clear HO_11
            clear HO_245001
            clear HO_258000
            clear BK229
            clear BK230
            clear BK244
            clear BK257
            clear HB
            clear h0_ h1_ h2_ h3_ h4_ h5_ h6_ h7_ h8_ h9_ h10_ h11_ h12_ h13_ h14_ h15_ h16_ h17_ h18_ h19_
            have HO_11 := n0_
            have HO_245001 := n1_
            have HO_258000 := n2_
            have HO_7 := n3_
            have BK229 := n4_
            have BK230 := n5_
            have BK244 := n6_
            have BK257 := n7_
            have BK262 := n8_
            have GW262 := n9_
            have GE262 := n10_
            have NB229_262 := n11_
            have NB262_229 := n12_
            have NB230_262 := n13_
            have NB262_230 := n14_
            have NB244_262 := n15_
            have NB262_244 := n16_
            have NB257_262 := n17_
            have NB262_257 := n18_
            have HB := n19_
            clear n0_ n1_ n2_ n3_ n4_ n5_ n6_ n7_ n8_ n9_ n10_ n11_ n12_ n13_ n14_ n15_ n16_ n17_ n18_ n19_
            have hHeld : w92.cell? ⟨gb229, 0, none⟩ = some (.int .i64 a0_0) ∧ w92.cell? ⟨gb229, 1, none⟩ = some (.int .i64 a0_1) ∧ w92.cell? ⟨gb229, 2, none⟩ = some (.int .i64 a0_2) ∧ w92.cell? ⟨gb229, 3, none⟩ = some (.int .i64 a0_3) ∧ w92.cell? (ad258.add (x14_5).toNat) = some (.string (rdOf ByteArray.empty t247 x14_5)) := hS_
            refine norm_ (a' := ?_) ?_ ?_
            rotate_left
            ·simp only [putAll, Act.put, List.setIfInBounds_toArray, List.set_cons_zero, List.set_cons_succ]
             rfl
            refine one_ (i := 7) (N := none) (bs 8 255) rfl rfl (one_of HT_.out (by kernel_rfl)) (by decide) (fun K hK => ?_)
            have hs93 : w92.cell? ⟨gb262, 0, none⟩ = some (.string (⟨#[]⟩ : ByteArray)) := (blk_cell BK262.out 0).trans rfl
            have hfs93 := blk_frozen BK262.out 0
            have hns93_0 := NB229_262.out
            have hns93_1 := NB230_262.out
            have hns93_2 := NB244_262.out
            have hns93_3 := NB257_262.out
            have hms93_0 := NB262_229.out
            have hms93_1 := NB262_230.out
            have hms93_2 := NB262_244.out
            have hms93_3 := NB262_257.out
            have hs94 : w92.cell? ⟨gb262, 1, none⟩ = some (.int .i64 0) := (blk_cell BK262.out 1).trans rfl
            have hfs94 := blk_frozen BK262.out 1
            have hns94_0 := NB229_262.out
            have hns94_1 := NB230_262.out
            have hns94_2 := NB244_262.out
            have hns94_3 := NB257_262.out
            have hms94_0 := NB262_229.out
            have hms94_1 := NB262_230.out
            have hms94_2 := NB262_244.out
            have hms94_3 := NB262_257.out
            have hs95 : w92.cell? ⟨gb262, 2, none⟩ = some (.int .i64 0) := (blk_cell BK262.out 2).trans rfl
            have hfs95 := blk_frozen BK262.out 2
            have hns95_0 := NB229_262.out
            have hns95_1 := NB230_262.out
            have hns95_2 := NB244_262.out
            have hns95_3 := NB257_262.out
            have hms95_0 := NB262_229.out
            have hms95_1 := NB262_230.out
            have hms95_2 := NB262_244.out
            have hms95_3 := NB262_257.out
            refine skip_ (w1 := ?_) (by rfl) rfl ?_ ?_
            rotate_left
            ·go_simp
             rfl
            refine hK.out _ _ ⟨((cell_far (p := ⟨gb262, _, none⟩) NB229_262.out _).trans (((cell_far (p := ⟨gb262, _, none⟩) NB229_262.out _).trans (((cell_far (p := ⟨gb262, _, none⟩) NB229_262.out _).trans (hHeld.1)))))), ((cell_far (p := ⟨gb262, _, none⟩) NB229_262.out _).trans (((cell_far (p := ⟨gb262, _, none⟩) NB229_262.out _).trans (((cell_far (p := ⟨gb262, _, none⟩) NB229_262.out _).trans (hHeld.2.1)))))), ((cell_far (p := ⟨gb262, _, none⟩) NB229_262.out _).trans (((cell_far (p := ⟨gb262, _, none⟩) NB229_262.out _).trans (((cell_far (p := ⟨gb262, _, none⟩) NB229_262.out _).trans (hHeld.2.2.1)))))), ((cell_far (p := ⟨gb262, _, none⟩) NB229_262.out _).trans (((cell_far (p := ⟨gb262, _, none⟩) NB229_262.out _).trans (((cell_far (p := ⟨gb262, _, none⟩) NB229_262.out _).trans (hHeld.2.2.2.1)))))), ((cell_far (p := ⟨gb262, _, none⟩) au2_1 _).trans (((cell_far (p := ⟨gb262, _, none⟩) au2_1 _).trans (((cell_far (p := ⟨gb262, _, none⟩) au2_1 _).trans (hHeld.2.2.2.2))))))⟩ (fun hHeld => ?_)
            clear hK K
            refine done_ (done_of HT_.out (by kernel_rfl)) ?_
            have hnb96 := NB262_229.out
            have hnc96 := NB229_262.out
            have hnb97 := NB262_230.out
            have hnc97 := NB230_262.out
            have hnb98 := NB262_244.out
            have hnc98 := NB244_262.out
            have hnb99 := NB262_257.out
            have hnc99 := NB257_262.out
            obtain ⟨hcz100_0, hcz100_1, hcz100_2, hfz100_0, hfz100_1, hfz100_2⟩ := cellsF3 BK262.out
            try go_wp2_with (first | (go_at_call 76; (with_reducible refine (F76.calls k5 t259 false _ A64.out).mono ?_); rintro e w' ⟨rfl, ⟨nd, rfl⟩⟩; (try clear A64)) | (go_at_call 114; (with_reducible refine (F114.calls x13_5 t275 t276 t279 t280 t281 _ A87.out).mono ?_); rintro e w101 ⟨v277, rfl, ho0, hb⟩; (try clear A87); have HO278 := am_ (Kd.S_lower (Kd.S_newB (Kd.S_new' (Kd.S_new' (Kd.S_new' (Kd.S_new' ho0 (Kd.R_lt au2_3)) (Kd.R_lt au2_2)) (Kd.S_lt au2_4)) (Kd.R_lt au2_5)) (g := gb257) (o := .cells #[u258000] 102 (0, 0)) (bf_ BK257)) (below_size bl_)); replace HO_7 := am_ (Kd.R_below au2_3 hb); replace HO_11 := am_ (Kd.R_below au2_2 hb); replace HO_245001 := am_ (Kd.S_elder' au2_4 (Kd.S_base ho0) hb); replace HO_258000 := am_ (Kd.R_below au2_5 hb); replace BK229 := am_ (blk_below (g := gb229) (o := .cells #[.int .i64 a0_0, .int .i64 a0_1, .int .i64 a0_2, .int .i64 a0_3] 23 (0, 0)) (bf_ BK229) hb); replace BK230 := am_ (blk_below (g := gb230) (o := .cells #[.string x231000_5, .slice none 0 0, .int .i64 x231002_5, .int .i64 x231003_5, .int .i64 x231004_5] 66 (0, 0)) (bf_ BK230) hb); replace BK244 := am_ (blk_below (g := gb244) (o := .cells #[.string (rdOf ByteArray.empty t231 0), u245001] 59 (0, 0)) (bf_ BK244) hb); replace BK257 := am_ (blk_below (g := gb257) (o := .cells #[u258000] 102 (0, 0)) (bf_ BK257) hb); replace BK262 := am_ (blk_below (g := gb262) (o := .cells #[.string t259, .int .i64 t260, .int .i64 t261] 31 (0, 0)) (bq_ BK262) hb); replace HB := hs_ w hb; (try clear hb); (try clear hb2); (try clear hk); (try clear hi); (try clear ho0); have hnb102 := NB230_229.out; have hnc102 := NB229_230.out; have hnb103 := NB230_244.out; have hnc103 := NB244_230.out; have hnb104 := NB230_257.out; have hnc104 := NB257_230.out; obtain ⟨hcz105_0, hcz105_1, hcz105_2, hcz105_3, hcz105_4, hfz105_0, hfz105_1, hfz105_2, hfz105_3, hfz105_4⟩ := cellsF5 BK230.out; obtain ⟨Ao106, co106, eo106⟩ := Kd.S_slice HO278.out; subst eo106))
            refine bodyPost_ret (results_cell_row rfl _ _ gb230 66 #[.string t275, .slice Ao106 t276.length co106, .int .i64 t279, .int .i64 t280, .int .i64 t281] (0, 0) _ rfl (bq_ BK230) Try.underlying66 rfl (by kernel_rfl)) rfl ?_
            exact ⟨_, au2_9, by (with_reducible repeat (first | apply Kd.S_alloc | apply Kd.S_drewN | apply Kd.S_drew)); exact Kd.S_mono (Kd.S_far (p := ⟨gb230, 4, none⟩) (Kd.S_far (p := ⟨gb230, 3, none⟩) (Kd.S_far (p := ⟨gb230, 2, none⟩) (Kd.S_far (p := ⟨gb230, 1, none⟩) (Kd.S_far (p := ⟨gb230, 0, none⟩) (Kd.S_types HO278.out BK230.out (by decide)) (fun _ hk => hk.2) (.string t275)) (fun _ hk => hk.2) (.slice Ao106 t276.length co106)) (fun _ hk => hk.2) (.int .i64 t279)) (fun _ hk => hk.2) (.int .i64 t280)) (fun _ hk => hk.2) (.int .i64 t281)) (fun _ hk => trivial), bl_⟩
           replace H := iln_ H; rcases H with ⟨LMc66, H⟩
           obtain ⟨y271, hy271⟩ : ∃ y_ : List ByteArray, y_ = (x258000_5 ++ [t259]) := ⟨_, rfl⟩
           replace H : (F87.l2 k5 x5_1 t231 x9_3 x10_3 t247 (wrap64 ((wrap64 (x13_5 + ((rdOf ByteArray.empty t247 x14_5).size : Int))) + 1)) (wrap64 (x14_5 + 1)) a0_0 a0_1 a0_2 a0_3 (rdOf ByteArray.empty t231 0) x245001_3 y271) = some (r1, r2, r3, r4, r5) := by first | (rw [hy271]; exact H) | exact H
           have Ny271 := am_ hy271
           clear hy271
           have H' := am_ H
           clear H
           obtain ⟨Ao67, co67, eo67⟩ := Kd.R_slice HO_11.out
           subst eo67
           try go_wp2
           replace HO_7 := am_ (Kd.R_drew HO_7.out)
           replace HO_11 := am_ (Kd.R_drew HO_11.out)
           replace HO_245001 := am_ (Kd.S_drew HO_245001.out)
           replace HO_258000 := am_ (Kd.R_drew HO_258000.out)
           replace BK229 := bd_ BK229
           replace BK230 := bd_ BK230
           replace BK244 := bd_ BK244
           replace BK257 := bd_ BK257
           replace HB := am_ (below_drew1 HB.out)
           have p258 : 0 ≤ (x14_5 : Int) := od_
           have q258 : x14_5 < (t247.length : Int) := od_
           obtain ⟨ad258, e258, hx258_0⟩ := Kd.at_string (Kd.R_reads' HO_11.out).2.2 x14_5 p258 q258
           cases e258
           replace p258 := eq_true p258
           replace q258 := eq_true q258
           refine start_ (n := 8) (S := fun w' => w'.cell? ⟨gb229, 0, none⟩ = some (.int .i64 a0_0) ∧ w'.cell? ⟨gb229, 1, none⟩ = some (.int .i64 a0_1) ∧ w'.cell? ⟨gb229, 2, none⟩ = some (.int .i64 a0_2) ∧ w'.cell? ⟨gb229, 3, none⟩ = some (.int .i64 a0_3) ∧ w'.cell? (ad258.add (x14_5).toNat) = some (.string (rdOf ByteArray.empty t247 x14_5))) (ds := []) (bs 8 0) (by kernel_rfl) rfl rfl ⟨(blk_cell BK229.out 0).trans rfl, (blk_cell BK229.out 1).trans rfl, (blk_cell BK229.out 2).trans rfl, (blk_cell BK229.out 3).trans rfl, hx258_0⟩ (fun hHeld => ?_); refine with_tabW F87.tab29 F87.bits29 (fun HT_ HW_ => ?_)
           generalize wr.drew = w68 at HO_7 HO_11 HO_245001 HO_258000 BK229 BK230 BK244 BK257 HB hx258_0 hHeld ⊢
           refine pu_ 1 103 (bs 8 2) HT_ ?_ rfl rfl
           refine pu_ 2 104 (bs 8 6) HT_ ?_ rfl rfl
           refine pu_ 3 105 (bs 8 14) HT_ ?_ rfl rfl
           refine tk_ 0 102 (bs 8 15) HT_ HW_ hHeld au2_13 ?_ rfl rfl
           refine tk_ 4 106 (bs 8 31) HT_ HW_ hHeld au2_13 ?_ rfl rfl
           refine join_ (σ := Nat) 1 (bs 8 127) (fun s_ => [(107, .agg #[.string t259, .int .i64 t260, .int .i64 t261]), (15, .pointer (some ⟨s_, 0, none⟩))]) (fun s_ w' => (w'.cell? ⟨gb229, 0, none⟩ = some (.int .i64 a0_0) ∧ w'.cell? ⟨gb229, 1, none⟩ = some (.int .i64 a0_1) ∧ w'.cell? ⟨gb229, 2, none⟩ = some (.int .i64 a0_2) ∧ w'.cell? ⟨gb229, 3, none⟩ = some (.int .i64 a0_3) ∧ w'.cell? (ad258.add (x14_5).toNat) = some (.string (rdOf ByteArray.empty t247 x14_5))) ∧ (Kd.R Kd.string 9 w' w.heap.size (fun k_ => some k_ ≠ (u258000 : Value).ownBlock ∧ some k_ ≠ (.slice (some ad234) t231.length co35 : Value).ownBlock) (.slice (some ad258) t247.length co67) t247) ∧ (Kd.S k102 102 w' w.heap.size (fun k_ => some k_ ≠ (.slice (some ad258) t247.length co67 : Value).ownBlock ∧ some k_ ≠ (u258000 : Value).ownBlock ∧ some k_ ≠ (.slice (some ad234) t231.length co35 : Value).ownBlock ∧ k_ ≠ gb257) u245001 x245001_3) ∧ (Kd.R Kd.string 9 w' w.heap.size (fun k_ => some k_ ≠ (.slice (some ad258) t247.length co67 : Value).ownBlock ∧ some k_ ≠ (.slice (some ad234) t231.length co35 : Value).ownBlock) u258000 x258000_5) ∧ (Kd.R Kd.string 9 w' w.heap.size (fun k_ => some k_ ≠ (.slice (some ad258) t247.length co67 : Value).ownBlock ∧ some k_ ≠ (u258000 : Value).ownBlock) (.slice (some ad234) t231.length co35) t231) ∧ (w'.heap[gb229]? = some (.cells #[.int .i64 a0_0, .int .i64 a0_1, .int .i64 a0_2, .int .i64 a0_3] 23 (0, 0))) ∧ (w'.heap[gb230]? = some (.cells #[.string x231000_5, .slice none 0 0, .int .i64 x231002_5, .int .i64 x231003_5, .int .i64 x231004_5] 66 (0, 0))) ∧ (w'.heap[gb244]? = some (.cells #[.string (rdOf ByteArray.empty t231 0), u245001] 59 (0, 0))) ∧ (w'.heap[gb257]? = some (.cells #[u258000] 102 (0, 0))) ∧ (w'.heap[s_]? = some (.cells #[.string (⟨#[]⟩ : ByteArray), .int .i64 0, .int .i64 0] 31 (0, 0))) ∧ (w.heap.size ≤ s_) ∧ (w.heap.size ≤ s_) ∧ (gb229 ≠ s_) ∧ (s_ ≠ gb229) ∧ (gb230 ≠ s_) ∧ (s_ ≠ gb230) ∧ (gb244 ≠ s_) ∧ (s_ ≠ gb244) ∧ (gb257 ≠ s_) ∧ (s_ ≠ gb257) ∧ (Below w.heap.size w w')) ?_ ?_
           rotate_left
           ·intro hCont
            refine two_ (i := 5) (j := 6) (Ni := some 107) (Nj := some 15) (bs 8 63) (bs 8 95) rfl rfl rfl rfl (two_of HT_.out (by kernel_rfl)) (by decide) (by decide) (fun K hK => ?_) (fun K hK => ?_)
            ·skip
             refine gr_ Try.func18 #[.agg #[.int .i64 a0_0, .int .i64 a0_1, .int .i64 a0_2, .int .i64 a0_3], .string (rdOf ByteArray.empty t247 x14_5)] (by rfl) ?_ rfl rfl rfl
             with_reducible refine (F18.calls k5 a0_0 a0_1 a0_2 a0_3 (rdOf ByteArray.empty t247 x14_5) t259 t260 t261 _ A62.out).mono ?_
             rintro e w69 ⟨rfl, hb⟩
             have HS4_ := (hb.cell (World.block_lt_of_cell? _ _ (hHeld.2.2.2.2))).trans (hHeld.2.2.2.2)
             refine ⟨_, rfl, ?_⟩
             replace HO_7 := am_ (Kd.R_below (rk_ HO_7) hb)
             replace HO_11 := am_ (Kd.R_below (rk_ HO_11) hb)
             replace HO_245001 := am_ (Kd.S_below au2_0 hb)
             replace HO_258000 := am_ (Kd.R_below (rk_ HO_258000) hb)
             replace BK229 := bb_ BK229 hb
             replace BK230 := bb_ BK230 hb
             replace BK244 := bb_ BK244 hb
             replace BK257 := bb_ BK257 hb
             replace HB := hs_ w hb
             (try clear hb)
             (try clear hb2)
             (try clear hk)
             (try clear hi)
             refine hK.out _ _ ⟨(blk_cell BK229.out 0).trans rfl, (blk_cell BK229.out 1).trans rfl, (blk_cell BK229.out 2).trans rfl, (blk_cell BK229.out 3).trans rfl, HS4_⟩ (fun hHeld => ?_)
             clear hK K
             refine no_ 107 ?_
             refine one_ (i := 6) (N := some 15) (bs 8 127) rfl rfl (one_of HT_.out (by kernel_rfl)) (by decide) (fun K hK => ?_)
             refine box_step ?hg (N := 15) ?hd (cs := #[.string (⟨#[]⟩ : ByteArray), .int .i64 0, .int .i64 0]) (t := 31) ?hr ?_; (case hd => rfl); (case hg => rfl); (case hr => exact hr_)
             intro gb262 hg w70 hbox hb
             have HS4_ := (hb.cell (World.block_lt_of_cell? _ _ (hHeld.2.2.2.2))).trans (hHeld.2.2.2.2)
             replace HO_7 := am_ (Kd.R_below (rk_ HO_7) hb)
             replace HO_11 := am_ (Kd.R_below (rk_ HO_11) hb)
             replace HO_245001 := am_ (Kd.S_below au2_0 hb)
             replace HO_258000 := am_ (Kd.R_below (rk_ HO_258000) hb)
             have BK262 := am_ (hbox)
             have GW262 := am_ (gw_ hg bl_)
             have GE262 := am_ (gw_ hg bl_)
             replace HB := hs_ w hb
             have NB229_262 := am_ (gn_ hg (blkl_ BK229))
             have NB262_229 := am_ (gm_ hg (blkl_ BK229))
             replace BK229 := bb_ BK229 hb
             have NB230_262 := am_ (gn_ hg (blkl_ BK230))
             have NB262_230 := am_ (gm_ hg (blkl_ BK230))
             replace BK230 := bb_ BK230 hb
             have NB244_262 := am_ (gn_ hg (blkl_ BK244))
             have NB262_244 := am_ (gm_ hg (blkl_ BK244))
             replace BK244 := bb_ BK244 hb
             have NB257_262 := am_ (gn_ hg (blkl_ BK257))
             have NB262_257 := am_ (gm_ hg (blkl_ BK257))
             replace BK257 := bb_ BK257 hb
             clear hb hbox hg
             refine hK.out _ _ ⟨(blk_cell BK229.out 0).trans rfl, (blk_cell BK229.out 1).trans rfl, (blk_cell BK229.out 2).trans rfl, (blk_cell BK229.out 3).trans rfl, HS4_⟩ (fun hHeld => ?_)
             clear hK K
             refine no_ 15 ?_
             exact norm_ au2_12 (hCont (gb262) _ ⟨hHeld, au2_8, au2_6, au2_7, (rk_ HO_7), (bk_ BK229), (bk_ BK230), (bk_ BK244), (bk_ BK257), (bk_ BK262), GW262.out, GE262.out, NB229_262.out, NB262_229.out, NB230_262.out, NB262_230.out, NB244_262.out, NB262_244.out, NB257_262.out, NB262_257.out, bl_⟩)
            skip
            refine box_step ?hg (N := 15) ?hd (cs := #[.string (⟨#[]⟩ : ByteArray), .int .i64 0, .int .i64 0]) (t := 31) ?hr ?_; (case hd => rfl); (case hg => rfl); (case hr => exact hr_)
            intro gb262 hg w69 hbox hb
            have HS4_ := (hb.cell (World.block_lt_of_cell? _ _ (hHeld.2.2.2.2))).trans (hHeld.2.2.2.2)
            replace HO_7 := am_ (Kd.R_below (rk_ HO_7) hb)
            replace HO_11 := am_ (Kd.R_below (rk_ HO_11) hb)
            replace HO_245001 := am_ (Kd.S_below au2_0 hb)
            replace HO_258000 := am_ (Kd.R_below (rk_ HO_258000) hb)
            have BK262 := am_ (hbox)
            have GW262 := am_ (gw_ hg bl_)
            have GE262 := am_ (gw_ hg bl_)
            replace HB := hs_ w hb
            have NB229_262 := am_ (gn_ hg (blkl_ BK229))
            have NB262_229 := am_ (gm_ hg (blkl_ BK229))
            replace BK229 := bb_ BK229 hb
            have NB230_262 := am_ (gn_ hg (blkl_ BK230))
            have NB262_230 := am_ (gm_ hg (blkl_ BK230))
            replace BK230 := bb_ BK230 hb
            have NB244_262 := am_ (gn_ hg (blkl_ BK244))
            have NB262_244 := am_ (gm_ hg (blkl_ BK244))
            replace BK244 := bb_ BK244 hb
            have NB257_262 := am_ (gn_ hg (blkl_ BK257))
            have NB262_257 := am_ (gm_ hg (blkl_ BK257))
            replace BK257 := bb_ BK257 hb
            clear hb hbox hg
            refine hK.out _ _ ⟨(blk_cell BK229.out 0).trans rfl, (blk_cell BK229.out 1).trans rfl, (blk_cell BK229.out 2).trans rfl, (blk_cell BK229.out 3).trans rfl, HS4_⟩ (fun hHeld => ?_)
            clear hK K
            refine no_ 15 ?_
            refine one_ (i := 5) (N := some 107) (bs 8 127) rfl rfl (one_of HT_.out (by kernel_rfl)) (by decide) (fun K hK => ?_)
            refine gr_ Try.func18 #[.agg #[.int .i64 a0_0, .int .i64 a0_1, .int .i64 a0_2, .int .i64 a0_3], .string (rdOf ByteArray.empty t247 x14_5)] (by rfl) ?_ rfl rfl rfl
            with_reducible refine (F18.calls k5 a0_0 a0_1 a0_2 a0_3 (rdOf ByteArray.empty t247 x14_5) t259 t260 t261 _ A62.out).mono ?_
            rintro e w70 ⟨rfl, hb⟩
            have HS4_ := (hb.cell (World.block_lt_of_cell? _ _ (hHeld.2.2.2.2))).trans (hHeld.2.2.2.2)
            refine ⟨_, rfl, ?_⟩
            replace HO_7 := am_ (Kd.R_below (rk_ HO_7) hb)
            replace HO_11 := am_ (Kd.R_below (rk_ HO_11) hb)
            replace HO_245001 := am_ (Kd.S_below au2_0 hb)
            replace HO_258000 := am_ (Kd.R_below (rk_ HO_258000) hb)
            replace BK229 := bb_ BK229 hb
            replace BK230 := bb_ BK230 hb
            replace BK244 := bb_ BK244 hb
            replace BK257 := bb_ BK257 hb
            replace BK262 := bb_ BK262 hb
            replace HB := hs_ w hb
            (try clear hb)
            (try clear hb2)
            (try clear hk)
            (try clear hi)
            refine hK.out _ _ ⟨(blk_cell BK229.out 0).trans rfl, (blk_cell BK229.out 1).trans rfl, (blk_cell BK229.out 2).trans rfl, (blk_cell BK229.out 3).trans rfl, HS4_⟩ (fun hHeld => ?_)
            clear hK K
            refine no_ 107 ?_
            exact norm_ au2_12 (hCont (gb262) _ ⟨hHeld, au2_8, au2_6, au2_7, (rk_ HO_7), (bk_ BK229), (bk_ BK230), (bk_ BK244), (bk_ BK257), (bk_ BK262), GW262.out, GE262.out, NB229_262.out, NB262_229.out, NB230_262.out, NB262_230.out, NB244_262.out, NB262_244.out, NB257_262.out, NB262_257.out, bl_⟩)
           rintro gb262 w71 ⟨hS_, h0_, h1_, h2_, h3_, h4_, h5_, h6_, h7_, h8_, h9_, h10_, h11_, h12_, h13_, h14_, h15_, h16_, h17_, h18_, h19_⟩
           have n0_ : Aside0 (Kd.R Kd.string 9 w71 w.heap.size (fun k_ => some k_ ≠ (u258000 : Value).ownBlock ∧ some k_ ≠ (.slice (some ad234) t231.length co35 : Value).ownBlock) (.slice (some ad258) t247.length co67) t247) := ⟨h0_⟩
           have n1_ : Aside0 (Kd.S k102 102 w71 w.heap.size (fun k_ => some k_ ≠ (.slice (some ad258) t247.length co67 : Value).ownBlock ∧ some k_ ≠ (u258000 : Value).ownBlock ∧ some k_ ≠ (.slice (some ad234) t231.length co35 : Value).ownBlock ∧ k_ ≠ gb257) u245001 x245001_3) := ⟨h1_⟩
           have n2_ : Aside0 (Kd.R Kd.string 9 w71 w.heap.size (fun k_ => some k_ ≠ (.slice (some ad258) t247.length co67 : Value).ownBlock ∧ some k_ ≠ (.slice (some ad234) t231.length co35 : Value).ownBlock) u258000 x258000_5) := ⟨h2_⟩
           have n3_ : Aside0 (Kd.R Kd.string 9 w71 w.heap.size (fun k_ => some k_ ≠ (.slice (some ad258) t247.length co67 : Value).ownBlock ∧ some k_ ≠ (u258000 : Value).ownBlock) (.slice (some ad234) t231.length co35) t231) := ⟨h3_⟩
           have n4_ : Aside0 (w71.heap[gb229]? = some (.cells #[.int .i64 a0_0, .int .i64 a0_1, .int .i64 a0_2, .int .i64 a0_3] 23 (0, 0))) := ⟨h4_⟩
           have n5_ : Aside0 (w71.heap[gb230]? = some (.cells #[.string x231000_5, .slice none 0 0, .int .i64 x231002_5, .int .i64 x231003_5, .int .i64 x231004_5] 66 (0, 0))) := ⟨h5_⟩
           have n6_ : Aside0 (w71.heap[gb244]? = some (.cells #[.string (rdOf ByteArray.empty t231 0), u245001] 59 (0, 0))) := ⟨h6_⟩
           have n7_ : Aside0 (w71.heap[gb257]? = some (.cells #[u258000] 102 (0, 0))) := ⟨h7_⟩
           have n8_ : Aside0 (w71.heap[gb262]? = some (.cells #[.string (⟨#[]⟩ : ByteArray), .int .i64 0, .int .i64 0] 31 (0, 0))) := ⟨h8_⟩
           have n9_ : Aside0 (w.heap.size ≤ gb262) := ⟨h9_⟩
           have n10_ : Aside0 (w.heap.size ≤ gb262) := ⟨h10_⟩
           have n11_ : Aside0 (gb229 ≠ gb262) := ⟨h11_⟩
           have n12_ : Aside0 (gb262 ≠ gb229) := ⟨h12_⟩
           have n13_ : Aside0 (gb230 ≠ gb262) := ⟨h13_⟩
           have n14_ : Aside0 (gb262 ≠ gb230) := ⟨h14_⟩
           have n15_ : Aside0 (gb244 ≠ gb262) := ⟨h15_⟩
           have n16_ : Aside0 (gb262 ≠ gb244) := ⟨h16_⟩
           have n17_ : Aside0 (gb257 ≠ gb262) := ⟨h17_⟩
           have n18_ : Aside0 (gb262 ≠ gb257) := ⟨h18_⟩
           have n19_ : Aside0 (Below w.heap.size w w71) := ⟨h19_⟩
           clear HO_7
           clear HO_11
           clear HO_245001
           clear HO_258000
           clear BK229
           clear BK230
           clear BK244
           clear BK257
           clear HB
           clear h0_ h1_ h2_ h3_ h4_ h5_ h6_ h7_ h8_ h9_ h10_ h11_ h12_ h13_ h14_ h15_ h16_ h17_ h18_ h19_
           have HO_11 := n0_
           have HO_245001 := n1_
           have HO_258000 := n2_
           have HO_7 := n3_
           have BK229 := n4_
           have BK230 := n5_
           have BK244 := n6_
           have BK257 := n7_
           have BK262 := n8_
           have GW262 := n9_
           have GE262 := n10_
           have NB229_262 := n11_
           have NB262_229 := n12_
           have NB230_262 := n13_
           have NB262_230 := n14_
           have NB244_262 := n15_
           have NB262_244 := n16_
           have NB257_262 := n17_
           have NB262_257 := n18_
           have HB := n19_
           clear n0_ n1_ n2_ n3_ n4_ n5_ n6_ n7_ n8_ n9_ n10_ n11_ n12_ n13_ n14_ n15_ n16_ n17_ n18_ n19_
           have hHeld : w71.cell? ⟨gb229, 0, none⟩ = some (.int .i64 a0_0) ∧ w71.cell? ⟨gb229, 1, none⟩ = some (.int .i64 a0_1) ∧ w71.cell? ⟨gb229, 2, none⟩ = some (.int .i64 a0_2) ∧ w71.cell? ⟨gb229, 3, none⟩ = some (.int .i64 a0_3) ∧ w71.cell? (ad258.add (x14_5).toNat) = some (.string (rdOf ByteArray.empty t247 x14_5)) := hS_
           refine norm_ (a' := ?_) ?_ ?_
           rotate_left
           ·simp only [putAll, Act.put, List.setIfInBounds_toArray, List.set_cons_zero, List.set_cons_succ]
            rfl
           refine one_ (i := 7) (N := none) (bs 8 255) rfl rfl (one_of HT_.out (by kernel_rfl)) (by decide) (fun K hK => ?_)
           have hs72 : w71.cell? ⟨gb262, 0, none⟩ = some (.string (⟨#[]⟩ : ByteArray)) := (blk_cell BK262.out 0).trans rfl
           have hfs72 := blk_frozen BK262.out 0
           have hns72_0 := NB229_262.out
           have hns72_1 := NB230_262.out
           have hns72_2 := NB244_262.out
           have hns72_3 := NB257_262.out
           have hms72_0 := NB262_229.out
           have hms72_1 := NB262_230.out
           have hms72_2 := NB262_244.out
           have hms72_3 := NB262_257.out
           have hs73 : w71.cell? ⟨gb262, 1, none⟩ = some (.int .i64 0) := (blk_cell BK262.out 1).trans rfl
           have hfs73 := blk_frozen BK262.out 1
           have hns73_0 := NB229_262.out
           have hns73_1 := NB230_262.out
           have hns73_2 := NB244_262.out
           have hns73_3 := NB257_262.out
           have hms73_0 := NB262_229.out
           have hms73_1 := NB262_230.out
           have hms73_2 := NB262_244.out
           have hms73_3 := NB262_257.out
           have hs74 : w71.cell? ⟨gb262, 2, none⟩ = some (.int .i64 0) := (blk_cell BK262.out 2).trans rfl
           have hfs74 := blk_frozen BK262.out 2
           have hns74_0 := NB229_262.out
           have hns74_1 := NB230_262.out
           have hns74_2 := NB244_262.out
           have hns74_3 := NB257_262.out
           have hms74_0 := NB262_229.out
           have hms74_1 := NB262_230.out
           have hms74_2 := NB262_244.out
           have hms74_3 := NB262_257.out
           refine skip_ (w1 := ?_) (by rfl) rfl ?_ ?_
           rotate_left
           ·go_simp
            rfl
           refine hK.out _ _ ⟨((cell_far (p := ⟨gb262, _, none⟩) NB229_262.out _).trans (((cell_far (p := ⟨gb262, _, none⟩) NB229_262.out _).trans (((cell_far (p := ⟨gb262, _, none⟩) NB229_262.out _).trans (hHeld.1)))))), ((cell_far (p := ⟨gb262, _, none⟩) NB229_262.out _).trans (((cell_far (p := ⟨gb262, _, none⟩) NB229_262.out _).trans (((cell_far (p := ⟨gb262, _, none⟩) NB229_262.out _).trans (hHeld.2.1)))))), ((cell_far (p := ⟨gb262, _, none⟩) NB229_262.out _).trans (((cell_far (p := ⟨gb262, _, none⟩) NB229_262.out _).trans (((cell_far (p := ⟨gb262, _, none⟩) NB229_262.out _).trans (hHeld.2.2.1)))))), ((cell_far (p := ⟨gb262, _, none⟩) NB229_262.out _).trans (((cell_far (p := ⟨gb262, _, none⟩) NB229_262.out _).trans (((cell_far (p := ⟨gb262, _, none⟩) NB229_262.out _).trans (hHeld.2.2.2.1)))))), ((cell_far (p := ⟨gb262, _, none⟩) au2_1 _).trans (((cell_far (p := ⟨gb262, _, none⟩) au2_1 _).trans (((cell_far (p := ⟨gb262, _, none⟩) au2_1 _).trans (hHeld.2.2.2.2))))))⟩ (fun hHeld => ?_)
           clear hK K
           refine done_ (done_of HT_.out (by kernel_rfl)) ?_
           have hnb75 := NB262_229.out
           have hnc75 := NB229_262.out
           have hnb76 := NB262_230.out
           have hnc76 := NB230_262.out
           have hnb77 := NB262_244.out
           have hnc77 := NB244_262.out
           have hnb78 := NB262_257.out
           have hnc78 := NB257_262.out
           obtain ⟨hcz79_0, hcz79_1, hcz79_2, hfz79_0, hfz79_1, hfz79_2⟩ := cellsF3 BK262.out
           try go_wp2_with (first | (go_at_call 76; (with_reducible refine (F76.calls k5 t259 true _ A64.out).mono ?_); rintro e w' ⟨rfl, ⟨nd, rfl⟩⟩; (try clear A64); have hnb80 := NB257_229.out; have hnc80 := NB229_257.out; have hnb81 := NB257_230.out; have hnc81 := NB230_257.out; have hnb82 := NB257_244.out; have hnc82 := NB244_257.out; have hcz83_0 : w71.cell? ⟨gb257, 0, none⟩ = some (u258000) := (blk_cell BK257.out 0).trans rfl; have hfz83_0 := blk_frozen BK257.out 0) | ((with_reducible refine gate_builtin (b := .append) (xs := #[.tmp 123, .tmp 126]) rfl ?_); (try (refine gate_guard (by rfl) ?_; dsimp only)); at_builtin; refine Kd.R_append Kd.string (w0 := w) w.heap.size rfl (.tmp 123) (.tmp 126) 41 9 (.string ⟨#[]⟩) 16 rfl Try.underlying41 info9 rfl (by decide) (by omega) u258000 x258000_5 t259 [.string t259] (fun k_ => some k_ ≠ (.slice (some ad234) t231.length co35 : Value).ownBlock ∧ some k_ ≠ (.slice (some ad258) t247.length co67 : Value).ownBlock) (fun _ => False) rfl (by first | (go_simp; done) | (go_simp; rfl)) ?aP (fun _ hk => hk.elim) ?aF ?aO ?aB ?aS ?aL ?_; (case aP => exact rfl); (case aB => exact bl_); (case aF => exact (fun k_ hk => ⟨Kd.fresh' (Kd.R_lt au2_3) k_ hk, Kd.fresh' (Kd.R_lt au2_2) k_ hk⟩)); (case aO => exact (by (with_reducible repeat (first | apply Kd.R_alloc | apply Kd.R_drewN | apply Kd.R_drew)); exact Kd.R_mono (Kd.R_far (p := ⟨gb262, 2, none⟩) (Kd.R_far (p := ⟨gb262, 1, none⟩) (Kd.R_far (p := ⟨gb262, 0, none⟩) (Kd.R_types HO_258000.out BK262.out (by decide)) (fun _ hk => hk.2) (.string t259)) (fun _ hk => hk.2) (.int .i64 t260)) (fun _ hk => hk.2) (.int .i64 t261)) (fun _ hk => ⟨hk.1.2, hk.1.1⟩))); (case aS => exact (below_size bl_)); (case aL => have := LMc66.out; omega); intro v272 w84 ho hb hg hat; rw [← Ny271.out] at ho; have n0_ := am_ (Kd.R_after (ok := (fun k_ => some k_ ≠ (.slice (some ad258) t247.length co67 : Value).ownBlock)) (by (with_reducible repeat (first | apply Kd.R_alloc | apply Kd.R_drewN | apply Kd.R_drew)); exact Kd.R_mono (Kd.R_far (p := ⟨gb262, 2, none⟩) (Kd.R_far (p := ⟨gb262, 1, none⟩) (Kd.R_far (p := ⟨gb262, 0, none⟩) (Kd.R_types HO_7.out BK262.out (by decide)) (fun _ hk => hk.2) (.string t259)) (fun _ hk => hk.2) (.int .i64 t260)) (fun _ hk => hk.2) (.int .i64 t261)) (fun _ hk => ⟨hk.1.1, hk.1.2⟩)) hg hat); have n1_ := am_ (Kd.R_after (ok := (fun k_ => some k_ ≠ (.slice (some ad234) t231.length co35 : Value).ownBlock)) (by (with_reducible repeat (first | apply Kd.R_alloc | apply Kd.R_drewN | apply Kd.R_drew)); exact Kd.R_mono (Kd.R_far (p := ⟨gb262, 2, none⟩) (Kd.R_far (p := ⟨gb262, 1, none⟩) (Kd.R_far (p := ⟨gb262, 0, none⟩) (Kd.R_types HO_11.out BK262.out (by decide)) (fun _ hk => hk.2) (.string t259)) (fun _ hk => hk.2) (.int .i64 t260)) (fun _ hk => hk.2) (.int .i64 t261)) (fun _ hk => ⟨hk.1.2, hk.1.1⟩)) hg hat); have n2_ := am_ (Kd.S_after (ok := (fun k_ => some k_ ≠ (.slice (some ad234) t231.length co35 : Value).ownBlock ∧ some k_ ≠ (.slice (some ad258) t247.length co67 : Value).ownBlock ∧ k_ ≠ gb257)) (by (with_reducible repeat (first | apply Kd.S_alloc | apply Kd.S_drewN | apply Kd.S_drew)); exact Kd.S_mono (Kd.S_far (p := ⟨gb262, 2, none⟩) (Kd.S_far (p := ⟨gb262, 1, none⟩) (Kd.S_far (p := ⟨gb262, 0, none⟩) (Kd.S_types HO_245001.out BK262.out (by decide)) (fun _ hk => hk.2) (.string t259)) (fun _ hk => hk.2) (.int .i64 t260)) (fun _ hk => hk.2) (.int .i64 t261)) (fun _ hk => ⟨⟨hk.1.2.2.1, ⟨hk.1.1, hk.1.2.2.2⟩⟩, hk.1.2.1⟩)) hg hat); have n3_ := am_ (bg_ BK229 hg (Kd.R_ne HO_258000.out BK229.out (by decide))); have n4_ := am_ (bg_ BK230 hg (Kd.R_ne HO_258000.out BK230.out (by decide))); have n5_ := am_ (bg_ BK244 hg (Kd.R_ne HO_258000.out BK244.out (by decide))); have n6_ := am_ (bg_ BK257 hg (Kd.R_ne HO_258000.out BK257.out (by decide))); have n7_ := am_ (blk_grown (g := gb262) (o := .cells #[.string t259, .int .i64 t260, .int .i64 t261] 31 (0, 0)) (bq_ BK262) hg (Kd.R_ne HO_258000.out BK262.out (by decide))); have n8_ := am_ (hb); have n9_ := am_ (ho); clear HO_7; clear HO_11; clear HO_245001; clear BK229; clear BK230; clear BK244; clear BK257; clear BK262; clear HB; clear HO_258000; have HO_7 := n0_; have HO_11 := n1_; have HO_245001 := n2_; have BK229 := n3_; have BK230 := n4_; have BK244 := n5_; have BK257 := n6_; have BK262 := n7_; have HB := n8_; have HO273 := n9_; clear n0_ n1_ n2_ n3_ n4_ n5_ n6_ n7_ n8_ n9_; clear ho hb hg hat; obtain ⟨Ao85, co85, eo85⟩ := Kd.R_slice HO273.out; subst eo85; have hcz86_0 : w84.cell? ⟨gb257, 0, none⟩ = some (u258000) := (blk_cell BK257.out 0).trans rfl; have hfz86_0 := blk_frozen BK257.out 0; have p274 : 0 ≤ (x14_5 : Int) := od_; have q274 : x14_5 < (t247.length : Int) := od_; obtain ⟨ad274, e274, hx274_0⟩ := Kd.at_string (Kd.R_reads' HO_11.out).2.2 x14_5 p274 q274; obtain rfl : ad258 = ad274 := (by injection e274); have hn274_0 : ad258.block ≠ gb257 := Kd.own_blk (Kd.R_ne HO_11.out BK257.out (by decide)); replace hx274_0 := (cell_far (p := ⟨gb257, 0, none⟩) (by first | (rw [add_block]; exact hn274_0) | (show (Addr.add _ _).block ≠ _; rw [add_block]; exact hn274_0) | exact hn274_0) (.slice Ao85 y271.length co85)).trans hx274_0; clear hn274_0; replace p274 := eq_true p274; replace q274 := eq_true q274))
           go_roundg k5
           case measure => have := HK1.out; have := HJ9.out; have := HK3.out; have := HJ42.out; have := HK5.out; omega
           case rel => exact ⟨(wrap64 ((wrap64 (x13_5 + ((rdOf ByteArray.empty t247 x14_5).size : Int))) + 1)), (wrap64 (x14_5 + 1)), (x231000_5), (x231002_5), (x231003_5), (x231004_5), (y271), (.slice Ao85 y271.length co85), er_, er_, H', ⟨au2_14⟩, ⟨by (with_reducible repeat (first | apply Kd.R_alloc | apply Kd.R_drewN | apply Kd.R_drew)); exact Kd.R_mono (Kd.R_far (p := ⟨gb257, 0, none⟩) (Kd.R_types HO_7.out BK257.out (by decide)) (fun _ hk => hk.2) (.slice Ao85 y271.length co85)) (fun _ hk => ⟨hk.1.1, hk.1.2⟩)⟩, ⟨by (with_reducible repeat (first | apply Kd.R_alloc | apply Kd.R_drewN | apply Kd.R_drew)); exact Kd.R_mono (Kd.R_far (p := ⟨gb257, 0, none⟩) (Kd.R_types HO_11.out BK257.out (by decide)) (fun _ hk => hk.2) (.slice Ao85 y271.length co85)) (fun _ hk => ⟨hk.1.1, hk.1.2⟩)⟩, ⟨by (with_reducible repeat (first | apply Kd.S_alloc | apply Kd.S_drewN | apply Kd.S_drew)); exact Kd.S_mono (Kd.S_far (p := ⟨gb257, 0, none⟩) (Kd.S_mono HO_245001.out (fun k_ hk => (⟨hk, hk.1.2.2⟩ : _ ∧ k_ ≠ gb257))) (fun _ hk => hk.2) (.slice Ao85 y271.length co85)) (fun _ hk => ⟨hk.1.1.1, ⟨hk.1.1.2.1, ⟨hk.1.2, hk.1.1.2.2⟩⟩⟩)⟩, ⟨by (with_reducible repeat (first | apply Kd.R_alloc | apply Kd.R_drewN | apply Kd.R_drew)); exact Kd.R_mono (Kd.R_far (p := ⟨gb257, 0, none⟩) (Kd.R_types HO273.out BK257.out (by decide)) (fun _ hk => hk.2) (.slice Ao85 y271.length co85)) (fun _ hk => ⟨hk.1.1, hk.1.2⟩)⟩, ⟨bf_ BK229⟩, ⟨bf_ BK230⟩, ⟨bf_ BK244⟩, ⟨bq_ BK257⟩, ⟨bl_⟩⟩
end Go.Proofs.Ytchoalagkcdbhaa.PFnSegmentBack
