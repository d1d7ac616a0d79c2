-- printed by a program of this session (wip/xp/xprint.py) out of the translation; Lean checks it
import Derived.Test.YtlghcbmkhdibdaaPFnFirstSegmentsx0
import Derived.Test.YtlghcbmkhdibdaaPFnFirstSegmentsx1
import Derived.Test.YtlghcbmkhdibdaaPFnFirstSegmentsx2
namespace Go.Proofs.Ytlghcbmkhdibdaa.PFnFirstSegments
open Go.RowKit Go.Proofs.YtlghcbmkhdibdaaW.PrintWords Go.Proofs.YtlghcbmkhdibdaaW.PrintLast Go.Proofs.YtlghcbmkhdibdaaW.PrintMore
attribute [local go_sem] max2_int min2_int max_two min_two max_three min_three max_four min_four   -- for this text's walks alone
set_option linter.unusedVariables false
set_option linter.unusedSimpArgs false
set_option maxHeartbeats 8000000
set_option maxRecDepth 100000

theorem au3_0 {p : Prop} (h : p := by first | rfl | (simp [errW_none, errW_some] <;> rfl) | (simp [*, errW_none, errW_some] <;> rfl)) : p := h
theorem au3_1 {p : Prop} (h : p := by exact (Reps.one (show Kd.M (Kd.int .i64) _ _ _ a0_0 [.int .i64 a0_0] from rfl) (Reps.one (show Kd.M (Kd.int .i64) _ _ _ a0_1 [.int .i64 a0_1] from rfl) (Reps.one (show Kd.M (Kd.int .i64) _ _ _ a0_2 [.int .i64 a0_2] from rfl) (Reps.one (show Kd.M (Kd.int .i64) _ _ _ a0_3 [.int .i64 a0_3] from rfl) (Reps.none _ _)))))) : p := h
theorem au3_2 {p : Prop} (h : p := by (with_reducible repeat (first | apply Go.Proofs.YtlghcbmkhdibdaaW.Mark.RM_alloc | apply Go.Proofs.YtlghcbmkhdibdaaW.Mark.RM_drewN | apply Go.Proofs.YtlghcbmkhdibdaaW.Mark.RM_drew)); exact HO_5.out) : p := h
theorem au3_3 {p : Prop} (h : p := by repeat (first | exact HR0.out | (with_reducible refine Kd.C_alloc ?_ _) | (with_reducible refine Kd.C_drewN ?_ _) | (with_reducible refine Kd.C_drew ?_))) : p := h
theorem au3_4 {p : Prop} (h : p := by rintro w' ⟨s0, s1, s2, s3, s4, s5, s6, s7⟩; go_simp; with_reducible rfl) : p := h
theorem au3_5 {p : Prop} (h : p := by repeat (first | exact (Kd.C_below HR1.out HB.out) | (with_reducible refine Kd.C_alloc ?_ _) | (with_reducible refine Kd.C_drewN ?_ _) | (with_reducible refine Kd.C_drew ?_))) : p := h
theorem au3_6 {p : Prop} (h : p := by repeat (first | exact (Kd.R_reads' HO_5.out).2.2 | (with_reducible refine Kd.C_alloc ?_ _) | (with_reducible refine Kd.C_drewN ?_ _) | (with_reducible refine Kd.C_drew ?_))) : p := h
theorem au3_7 {p : Prop} (h : p := by (with_reducible repeat (first | apply Go.Proofs.YtlghcbmkhdibdaaW.Mark.RM_alloc | apply Go.Proofs.YtlghcbmkhdibdaaW.Mark.RM_drewN | apply Go.Proofs.YtlghcbmkhdibdaaW.Mark.RM_drew)); exact HO494.out) : p := h
theorem au3_8 {p : Prop} (h : p := by repeat (first | exact (Kd.C_below HR414_1.out HB.out) | (with_reducible refine Kd.C_alloc ?_ _) | (with_reducible refine Kd.C_drewN ?_ _) | (with_reducible refine Kd.C_drew ?_))) : p := h
theorem au3_9 {p : Prop} (h : p := by repeat (first | exact (Kd.C_below HR518_1.out HB.out) | (with_reducible refine Kd.C_alloc ?_ _) | (with_reducible refine Kd.C_drewN ?_ _) | (with_reducible refine Kd.C_drew ?_))) : p := h
theorem au3_10 {p : Prop} (h : p := by repeat (first | exact (Kd.R_reads' HO516.out).2.2 | (with_reducible refine Kd.C_alloc ?_ _) | (with_reducible refine Kd.C_drewN ?_ _) | (with_reducible refine Kd.C_drew ?_))) : p := h
theorem au3_11 {p : Prop} (h : p := by first | rfl | (simp [errW_none, errW_some] <;> rfl) | (simp only [← hji17]; first | rfl | (simp [errW_none, errW_some] <;> rfl)) | (simp [*, errW_none, errW_some] <;> rfl)) : p := h
theorem au3_12 {p : Prop} (h : p := by have := HK1.out; first | omega | exact Nat.le_refl _) : p := h
theorem au3_13 {p : Prop} (h : p := by have := HK1.out; have := HK2.out; omega) : p := h
theorem au3_14 {p : Prop} (h : p := by have := HJ2.out; have := HK2.out; have := HK3.out; omega) : p := h
theorem au3_15 {p : Prop} (h : p := by first | omega | exact Nat.le_refl _) : p := h
theorem au3_16 {p : Prop} (h : p := by exact (Reps.one (show Kd.M Kd.string _ _ _ t513 [.string t513] from rfl) (Reps.none _ _))) : p := h

/-! ### F43: function 43 -/
mutual
def F43.l0 : Nat → List Int → Int → Option (Bool)
  | 0, _, _ => none
  | k + 1, x3, x4 => if x4 < 4 then (if 0 ≤ x4 then (if x4 < (x3.length : Int) then ((F76.f (rd x3 x4)).bind fun t374 => (if t374 = true then (F43.l1 k x3 x4 0) else (some false))) else (none)) else (none)) else (some true)
def F43.l1 : Nat → List Int → Int → Int → Option (Bool)
  | 0, _, _, _ => none
  | k + 1, x3, x4, x5 => if x5 < x4 then (if 0 ≤ x5 then (if x5 < (x3.length : Int) then (if 0 ≤ x4 then (if x4 < (x3.length : Int) then (if (rd x3 x5) = (rd x3 x4) then (some false) else (F43.l1 k x3 x4 (wrap64 (x5 + 1)))) else (none)) else (none)) else (none)) else (none)) else (F43.l0 k x3 (wrap64 (x4 + 1)))
end
def F43.f (k : Nat) (a0_0 : Int) (a0_1 : Int) (a0_2 : Int) (a0_3 : Int) : Option (Bool) := F43.l0 k (([a0_0, a0_1, a0_2, a0_3] : List Int)) 0
theorem F43.mono_l : ∀ k, (∀ y0 y1, LeO (F43.l0 k y0 y1) (F43.l0 (k + 1) y0 y1)) ∧ (∀ y0 y1 y2, LeO (F43.l1 k y0 y1 y2) (F43.l1 (k + 1) y0 y1 y2))
 | 0 => ⟨fun _ _ r h => by simp [F43.l0] at h, fun _ _ _ r h => by simp [F43.l1] at h⟩
 | k + 1 => by
  obtain ⟨ih0, ih1⟩ := F43.mono_l k
  refine ⟨?_, ?_⟩
  rotate_left
  ·intro y0 y1 y2
   unfold F43.l1
   repeat' with_reducible first | exact ih0 _ _ | exact ih1 _ _ _ | exact LeO.refl _ | exact LeO.none _ | refine LeO.ite ?_ ?_ | refine LeO.bind ?_ (fun _ => ?_)
  intro y0 y1
  unfold F43.l0
  repeat' with_reducible first | exact ih0 _ _ | exact ih1 _ _ _ | exact LeO.refl _ | exact LeO.none _ | refine LeO.ite ?_ ?_ | refine LeO.bind ?_ (fun _ => ?_)
theorem F43.mono : ∀ a0 a1 a2 a3 k, LeO (F43.f k a0 a1 a2 a3) (F43.f (k + 1) a0 a1 a2 a3) := by
 intro a0 a1 a2 a3 k
 obtain ⟨ih0, ih1⟩ := F43.mono_l k
 unfold F43.f
 repeat' with_reducible first | exact ih0 _ _ | exact ih1 _ _ _ | exact LeO.refl _ | exact LeO.none _ | refine LeO.ite ?_ ?_ | refine LeO.bind ?_ (fun _ => ?_)
theorem F43.calls (k : Nat) (a0_0 : Int) (a0_1 : Int) (a0_2 : Int) (a0_3 : Int) (r : Bool) (w : World) (h : F43.f k a0_0 a0_1 a0_2 a0_3 = some r) :
  Calls Try.prog 43 #[.agg #[.int .i64 a0_0, .int .i64 a0_1, .int .i64 a0_2, .int .i64 a0_3]] w fun e w' => e = .returned (.bool r) ∧ Below w.heap.size w w' := by
 have hu45 := Try.underlying45
 have HB := am_ (Below.refl w.heap.size w)
 have H : (F43.l0 k (([a0_0, a0_1, a0_2, a0_3] : List Int)) 0) = some r := h
 clear h
 obtain ⟨y370, hy370⟩ : ∃ y_ : List Int, y_ = (([a0_0, a0_1, a0_2, a0_3] : List Int)) := ⟨_, rfl⟩
 replace H : (F43.l0 k y370 0) = some r := by first | (rw [hy370]; exact H) | exact H
 have Ny370 := am_ hy370
 clear hy370
 have H' := am_ H
 clear H
 go_enter Try.func43, Try.ntmps43
 go_wp2_with (first | ((with_reducible refine gate_dst (N := 1) rfl ?_); refine be_ 1 #[.int .i64 a0_0, .int .i64 a0_1, .int .i64 a0_2, .int .i64 a0_3] 45 ?_; intro gb369 hg w2 hbox hb; have BK369 := am_ (hbox); have GW369 := am_ (gw_ hg bl_); have GE369 := GW369; replace HB := hs_ w hb; clear hb hbox hg; obtain ⟨hcz3_0, hcz3_1, hcz3_2, hcz3_3, hfz3_0, hfz3_1, hfz3_2, hfz3_3⟩ := cellsF4 BK369.out) | ((with_reducible refine gate_dst (N := 14) rfl ?_); refine Kd.R_lit (Kd.int .i64) _ 2 ?hg (N := 14) ?hd (xs := ([a0_0, a0_1, a0_2, a0_3] : List Int)) (inner := [.int .i64 a0_0, .int .i64 a0_1, .int .i64 a0_2, .int .i64 a0_3]) (ok := fun _ => True) (okp := fun _ => True) ?hr ?hp (fun _ hk => hk) trivial (Below.refl _ _) (Nat.le_refl _) (by simp) ?_; (case hd => rfl); (case hg => rfl); (case hr => exact hr_); (case hp => exact au3_1); intro v371 w4 ho5 hb hg_ hnew_; clear hg_ hnew_; (first | rw [← Ny370.out] at ho5 | (simp only [Int.reduceToNat] at ho5; rw [← Ny370.out] at ho5)); have HO372 := am_ (Kd.R_lower ho5 (below_size bl_)); replace BK369 := bb_ BK369 hb; replace HB := hs_ w hb; clear hb ho5))
 repeat (go_quiet (first | ((with_reducible refine gate_dst (N := 1) rfl ?_); refine be_ 1 #[.int .i64 a0_0, .int .i64 a0_1, .int .i64 a0_2, .int .i64 a0_3] 45 ?_; intro gb369 hg w2 hbox hb; have BK369 := am_ (hbox); have GW369 := am_ (gw_ hg bl_); have GE369 := GW369; replace HB := hs_ w hb; clear hb hbox hg; obtain ⟨hcz3_0, hcz3_1, hcz3_2, hcz3_3, hfz3_0, hfz3_1, hfz3_2, hfz3_3⟩ := cellsF4 BK369.out) | ((with_reducible refine gate_dst (N := 14) rfl ?_); refine Kd.R_lit (Kd.int .i64) _ 2 ?hg (N := 14) ?hd (xs := ([a0_0, a0_1, a0_2, a0_3] : List Int)) (inner := [.int .i64 a0_0, .int .i64 a0_1, .int .i64 a0_2, .int .i64 a0_3]) (ok := fun _ => True) (okp := fun _ => True) ?hr ?hp (fun _ hk => hk) trivial (Below.refl _ _) (Nat.le_refl _) (by simp) ?_; (case hd => rfl); (case hg => rfl); (case hr => exact hr_); (case hp => exact au3_1); intro v371 w4 ho5 hb hg_ hnew_; clear hg_ hnew_; (first | rw [← Ny370.out] at ho5 | (simp only [Int.reduceToNat] at ho5; rw [← Ny370.out] at ho5)); have HO372 := am_ (Kd.R_lower ho5 (below_size bl_)); replace BK369 := bb_ BK369 hb; replace HB := hs_ w hb; clear hb ho5)); try go_wp2_with (first | ((with_reducible refine gate_dst (N := 1) rfl ?_); refine be_ 1 #[.int .i64 a0_0, .int .i64 a0_1, .int .i64 a0_2, .int .i64 a0_3] 45 ?_; intro gb369 hg w2 hbox hb; have BK369 := am_ (hbox); have GW369 := am_ (gw_ hg bl_); have GE369 := GW369; replace HB := hs_ w hb; clear hb hbox hg; obtain ⟨hcz3_0, hcz3_1, hcz3_2, hcz3_3, hfz3_0, hfz3_1, hfz3_2, hfz3_3⟩ := cellsF4 BK369.out) | ((with_reducible refine gate_dst (N := 14) rfl ?_); refine Kd.R_lit (Kd.int .i64) _ 2 ?hg (N := 14) ?hd (xs := ([a0_0, a0_1, a0_2, a0_3] : List Int)) (inner := [.int .i64 a0_0, .int .i64 a0_1, .int .i64 a0_2, .int .i64 a0_3]) (ok := fun _ => True) (okp := fun _ => True) ?hr ?hp (fun _ hk => hk) trivial (Below.refl _ _) (Nat.le_refl _) (by simp) ?_; (case hd => rfl); (case hg => rfl); (case hr => exact hr_); (case hp => exact au3_1); intro v371 w4 ho5 hb hg_ hnew_; clear hg_ hnew_; (first | rw [← Ny370.out] at ho5 | (simp only [Int.reduceToNat] at ho5; rw [← Ny370.out] at ho5)); have HO372 := am_ (Kd.R_lower ho5 (below_size bl_)); replace BK369 := bb_ BK369 hb; replace HB := hs_ w hb; clear hb ho5)))
 go_loopg [4] k (fun kq v4 w' => ∃ (x4_1 : Int), v4 = .int .i64 x4_1 ∧ Aside0 (F43.l0 kq y370 x4_1 = some r) ∧ Aside0 (kq ≤ k) ∧ Aside0 (Kd.R (Kd.int .i64) 2 w' w.heap.size (fun _ => True) v371 y370) ∧ Aside0 (w'.heap[gb369]? = some (.cells #[.int .i64 a0_0, .int .i64 a0_1, .int .i64 a0_2, .int .i64 a0_3] 45 (0, 0))) ∧ Aside0 (Below w.heap.size w w'))
 case atStart => exact ⟨(0), er_, H', ⟨Nat.le_refl _⟩, ⟨rk_ HO372⟩, ⟨bk_ BK369⟩, ⟨bl_⟩⟩
 case round =>
  clear H'
  try clear hcz3_0 hcz3_1 hcz3_2 hcz3_3
  try clear hfz3_0 hfz3_1 hfz3_2 hfz3_3
  obtain ⟨x4_1, rfl, HA, HK1, HO_3, BK369, HB⟩ := hrel
  cases gk with
  | zero => exact absurd HA.out (by simp [F43.l0])
  | succ k1 =>
   have H := HA.out
   clear HA
   simp only [F43.l0] at H
   replace H := it_ H; rcases H with ⟨c6b0, H⟩ | ⟨c6b0, H⟩
   rotate_left
   ·obtain rfl := Option.some.inj H
    go_wp2
    repeat (go_quiet (fail); try go_wp2)
    go_ret
    exact ⟨au3_0, bl_⟩

   replace H := itn_ H; rcases H with ⟨c7b0, H⟩
   replace H := itn_ H; rcases H with ⟨c8b0, H⟩
   replace H := bi_ H; rcases H with ⟨t374, A9, H⟩
   replace H := ib_ H; rcases H with ⟨rfl, H⟩ | ⟨rfl, H⟩
   rotate_left
   ·obtain rfl := Option.some.inj H
    obtain ⟨Ao18, co18, eo18⟩ := Kd.R_slice HO_3.out
    subst eo18
    have p373 : 0 ≤ (x4_1 : Int) := od_
    have q373 : x4_1 < (y370.length : Int) := od_
    obtain ⟨ad373, e373, hx373_0⟩ := Kd.at_int (Kd.R_reads' HO_3.out).2.2 x4_1 p373 q373
    cases e373
    replace p373 := eq_true p373
    replace q373 := eq_true q373
    go_wp2_with (first | (go_at_call 76; (with_reducible refine (F76.calls (rd y370 x4_1) false _ A9.out).mono ?_); rintro e w' ⟨rfl, ⟨nd, rfl⟩⟩; (try first | exact ⟨rfl, _, World.drewN_drewN _ _ _⟩ | exact ⟨rfl, _, Eq.trans (World.drewN_drewN _ _ _) (congrArg (World.drewN _) (Nat.add_assoc _ _ _))⟩)))
    repeat (go_quiet (first | (go_at_call 76; (with_reducible refine (F76.calls (rd y370 x4_1) false _ A9.out).mono ?_); rintro e w' ⟨rfl, ⟨nd, rfl⟩⟩; (try first | exact ⟨rfl, _, World.drewN_drewN _ _ _⟩ | exact ⟨rfl, _, Eq.trans (World.drewN_drewN _ _ _) (congrArg (World.drewN _) (Nat.add_assoc _ _ _))⟩))); try go_wp2_with (first | (go_at_call 76; (with_reducible refine (F76.calls (rd y370 x4_1) false _ A9.out).mono ?_); rintro e w' ⟨rfl, ⟨nd, rfl⟩⟩; (try first | exact ⟨rfl, _, World.drewN_drewN _ _ _⟩ | exact ⟨rfl, _, Eq.trans (World.drewN_drewN _ _ _) (congrArg (World.drewN _) (Nat.add_assoc _ _ _))⟩))))
    go_ret
    exact ⟨au3_0, bl_⟩
   have H' := am_ H
   clear H
   obtain ⟨Ao11, co11, eo11⟩ := Kd.R_slice HO_3.out
   subst eo11
   have p373 : 0 ≤ (x4_1 : Int) := od_
   have q373 : x4_1 < (y370.length : Int) := od_
   obtain ⟨ad373, e373, hx373_0⟩ := Kd.at_int (Kd.R_reads' HO_3.out).2.2 x4_1 p373 q373
   cases e373
   replace p373 := eq_true p373
   replace q373 := eq_true q373
   go_wp2_with (first | (go_at_call 76; (with_reducible refine (F76.calls (rd y370 x4_1) true _ A9.out).mono ?_); rintro e w' ⟨rfl, ⟨nd, rfl⟩⟩; (try first | exact ⟨rfl, _, World.drewN_drewN _ _ _⟩ | exact ⟨rfl, _, Eq.trans (World.drewN_drewN _ _ _) (congrArg (World.drewN _) (Nat.add_assoc _ _ _))⟩)))
   repeat (go_quiet (first | (go_at_call 76; (with_reducible refine (F76.calls (rd y370 x4_1) true _ A9.out).mono ?_); rintro e w' ⟨rfl, ⟨nd, rfl⟩⟩; (try first | exact ⟨rfl, _, World.drewN_drewN _ _ _⟩ | exact ⟨rfl, _, Eq.trans (World.drewN_drewN _ _ _) (congrArg (World.drewN _) (Nat.add_assoc _ _ _))⟩))); try go_wp2_with (first | (go_at_call 76; (with_reducible refine (F76.calls (rd y370 x4_1) true _ A9.out).mono ?_); rintro e w' ⟨rfl, ⟨nd, rfl⟩⟩; (try first | exact ⟨rfl, _, World.drewN_drewN _ _ _⟩ | exact ⟨rfl, _, Eq.trans (World.drewN_drewN _ _ _) (congrArg (World.drewN _) (Nat.add_assoc _ _ _))⟩))))
   go_loopg [5] k1 (fun kq v5 w' => ∃ (x5_2 : Int), v5 = .int .i64 x5_2 ∧ Aside0 (F43.l1 kq y370 x4_1 x5_2 = some r) ∧ Aside0 (kq ≤ k1) ∧ Aside0 (Kd.R (Kd.int .i64) 2 w' w.heap.size (fun _ => True) (.slice (some ad373) y370.length co11) y370) ∧ Aside0 (w'.heap[gb369]? = some (.cells #[.int .i64 a0_0, .int .i64 a0_1, .int .i64 a0_2, .int .i64 a0_3] 45 (0, 0))) ∧ Aside0 (Below w.heap.size w w'))
   case atStart => exact ⟨(0), er_, H', ⟨Nat.le_refl _⟩, ⟨rk_ HO_3⟩, ⟨bk_ BK369⟩, ⟨bl_⟩⟩
   case round =>
    clear H'
    try clear c6b0
    try clear c7b0
    try clear c8b0
    try clear hcz3_0 hcz3_1 hcz3_2 hcz3_3
    try clear hfz3_0 hfz3_1 hfz3_2 hfz3_3
    try clear hx373_0
    try clear p373
    try clear q373
    obtain ⟨x5_2, rfl, HA, HK2, HO_3, BK369, HB⟩ := hrel
    cases gk with
    | zero => exact absurd HA.out (by simp [F43.l1])
    | succ k2 =>
     have H := HA.out
     clear HA
     simp only [F43.l1] at H
     replace H := it_ H; rcases H with ⟨c12b0, H⟩ | ⟨c12b0, H⟩
     rotate_left
     ·have H' := am_ H
      clear H
      go_wp2
      repeat (go_quiet (fail); try go_wp2)
      go_roundg k2
      case measure => have := HK1.out; have := HK2.out; omega
      case rel => exact ⟨(wrap64 (x4_1 + 1)), er_, H', ⟨au3_13⟩, ⟨rk_ HO_3⟩, ⟨bk_ BK369⟩, ⟨bl_⟩⟩
     replace H := itn_ H; rcases H with ⟨c13b0, H⟩
     replace H := itn_ H; rcases H with ⟨c14b0, H⟩
     replace H := itn_ H; rcases H with ⟨c15b0, H⟩
     replace H := itn_ H; rcases H with ⟨c16b0, H⟩
     by_cases c17 : (rd y370 x5_2) = (rd y370 x4_1)
     ·rw [if_pos c17] at H
      have c17b0 : ((rd y370 x5_2) == (rd y370 x4_1)) = true := beq_iff_eq.mpr c17
      have c17b1 : ((rd y370 x5_2) != (rd y370 x4_1)) = false := bne_eq_false_iff_eq.mpr c17
      clear c17
      obtain rfl := Option.some.inj H
      have p375 : 0 ≤ (x5_2 : Int) := od_
      have q375 : x5_2 < (y370.length : Int) := od_
      obtain ⟨ad375, e375, hx375_0⟩ := Kd.at_int (Kd.R_reads' HO_3.out).2.2 x5_2 p375 q375
      obtain rfl : ad373 = ad375 := (by injection e375)
      replace p375 := eq_true p375
      replace q375 := eq_true q375
      have p376 : 0 ≤ (x4_1 : Int) := od_
      have q376 : x4_1 < (y370.length : Int) := od_
      obtain ⟨ad376, e376, hx376_0⟩ := Kd.at_int (Kd.R_reads' HO_3.out).2.2 x4_1 p376 q376
      obtain rfl : ad373 = ad376 := (by injection e376)
      replace p376 := eq_true p376
      replace q376 := eq_true q376
      go_wp2
      repeat (go_quiet (fail); try go_wp2)
      go_ret
      exact ⟨au3_0, bl_⟩
     rw [if_neg c17] at H
     have c17b0 : ((rd y370 x5_2) == (rd y370 x4_1)) = false := beq_eq_false_iff_ne.mpr c17
     have c17b1 : ((rd y370 x5_2) != (rd y370 x4_1)) = true := bne_iff_ne.mpr c17
     have H' := am_ H
     clear H
     have p375 : 0 ≤ (x5_2 : Int) := od_
     have q375 : x5_2 < (y370.length : Int) := od_
     obtain ⟨ad375, e375, hx375_0⟩ := Kd.at_int (Kd.R_reads' HO_3.out).2.2 x5_2 p375 q375
     obtain rfl : ad373 = ad375 := (by injection e375)
     replace p375 := eq_true p375
     replace q375 := eq_true q375
     have p376 : 0 ≤ (x4_1 : Int) := od_
     have q376 : x4_1 < (y370.length : Int) := od_
     obtain ⟨ad376, e376, hx376_0⟩ := Kd.at_int (Kd.R_reads' HO_3.out).2.2 x4_1 p376 q376
     obtain rfl : ad373 = ad376 := (by injection e376)
     replace p376 := eq_true p376
     replace q376 := eq_true q376
     go_wp2
     repeat (go_quiet (fail); try go_wp2)
     go_roundg k2
     case measure => have := HK1.out; have := HK2.out; omega
     case rel => exact ⟨(wrap64 (x5_2 + 1)), er_, H', ⟨au3_13⟩, ⟨rk_ HO_3⟩, ⟨bk_ BK369⟩, ⟨bl_⟩⟩
/-! ### F104: function 104 -/
def F104.f (a0_0 : Int) (a0_1 : Int) (a0_2 : Int) (a0_3 : Int) (a1 : Int) : Option (Bool) := if (wrap64 (a1)) = a0_0 then (some true) else (if (wrap64 (a1)) = a0_1 then (some true) else (if (wrap64 (a1)) = a0_2 then (some true) else (some ((wrap64 (a1)) == a0_3))))
theorem F104.calls (a0_0 : Int) (a0_1 : Int) (a0_2 : Int) (a0_3 : Int) (a1 : Int) (r : Bool) (w : World) (h : F104.f a0_0 a0_1 a0_2 a0_3 a1 = some r) :
  Calls Try.prog 104 #[.agg #[.int .i64 a0_0, .int .i64 a0_1, .int .i64 a0_2, .int .i64 a0_3], .int .u8 a1] w fun e w' => e = .returned (.bool r) ∧ Below w.heap.size w w' := by
 have hu45 := Try.underlying45
 have HB := am_ (Below.refl w.heap.size w)
 have H : (if (wrap64 (a1)) = a0_0 then (some true) else (if (wrap64 (a1)) = a0_1 then (some true) else (if (wrap64 (a1)) = a0_2 then (some true) else (some ((wrap64 (a1)) == a0_3))))) = some r := h
 clear h
 by_cases c3 : (wrap64 (a1)) = a0_0
 ·rw [if_pos c3] at H
  have c3b0 : ((wrap64 (a1)) == a0_0) = true := beq_iff_eq.mpr c3
  have c3b1 : ((wrap64 (a1)) != a0_0) = false := bne_eq_false_iff_eq.mpr c3
  clear c3
  obtain rfl := Option.some.inj H
  go_enter Try.func104, Try.ntmps104
  go_wp2_with (first | ((with_reducible refine gate_dst (N := 2) rfl ?_); refine be_ 2 #[.int .i64 a0_0, .int .i64 a0_1, .int .i64 a0_2, .int .i64 a0_3] 45 ?_; intro gb377 hg w4 hbox hb; have BK377 := am_ (hbox); have GW377 := am_ (gw_ hg bl_); have GE377 := GW377; replace HB := hs_ w hb; clear hb hbox hg; obtain ⟨hcz5_0, hcz5_1, hcz5_2, hcz5_3, hfz5_0, hfz5_1, hfz5_2, hfz5_3⟩ := cellsF4 BK377.out))
  go_ret
  exact ⟨au3_0, bl_⟩
 rw [if_neg c3] at H
 have c3b0 : ((wrap64 (a1)) == a0_0) = false := beq_eq_false_iff_ne.mpr c3
 have c3b1 : ((wrap64 (a1)) != a0_0) = true := bne_iff_ne.mpr c3
 by_cases c6 : (wrap64 (a1)) = a0_1
 ·rw [if_pos c6] at H
  have c6b0 : ((wrap64 (a1)) == a0_1) = true := beq_iff_eq.mpr c6
  have c6b1 : ((wrap64 (a1)) != a0_1) = false := bne_eq_false_iff_eq.mpr c6
  clear c6
  obtain rfl := Option.some.inj H
  go_enter Try.func104, Try.ntmps104
  go_wp2_with (first | ((with_reducible refine gate_dst (N := 2) rfl ?_); refine be_ 2 #[.int .i64 a0_0, .int .i64 a0_1, .int .i64 a0_2, .int .i64 a0_3] 45 ?_; intro gb377 hg w7 hbox hb; have BK377 := am_ (hbox); have GW377 := am_ (gw_ hg bl_); have GE377 := GW377; replace HB := hs_ w hb; clear hb hbox hg; obtain ⟨hcz8_0, hcz8_1, hcz8_2, hcz8_3, hfz8_0, hfz8_1, hfz8_2, hfz8_3⟩ := cellsF4 BK377.out))
  go_ret
  exact ⟨au3_0, bl_⟩
 rw [if_neg c6] at H
 have c6b0 : ((wrap64 (a1)) == a0_1) = false := beq_eq_false_iff_ne.mpr c6
 have c6b1 : ((wrap64 (a1)) != a0_1) = true := bne_iff_ne.mpr c6
 by_cases c9 : (wrap64 (a1)) = a0_2
 rotate_left
 ·rw [if_neg c9] at H
  have c9b0 : ((wrap64 (a1)) == a0_2) = false := beq_eq_false_iff_ne.mpr c9
  have c9b1 : ((wrap64 (a1)) != a0_2) = true := bne_iff_ne.mpr c9
  obtain rfl := Option.some.inj H
  go_enter Try.func104, Try.ntmps104
  go_wp2_with (first | ((with_reducible refine gate_dst (N := 2) rfl ?_); refine be_ 2 #[.int .i64 a0_0, .int .i64 a0_1, .int .i64 a0_2, .int .i64 a0_3] 45 ?_; intro gb377 hg w12 hbox hb; have BK377 := am_ (hbox); have GW377 := am_ (gw_ hg bl_); have GE377 := GW377; replace HB := hs_ w hb; clear hb hbox hg; obtain ⟨hcz13_0, hcz13_1, hcz13_2, hcz13_3, hfz13_0, hfz13_1, hfz13_2, hfz13_3⟩ := cellsF4 BK377.out))
  go_ret
  exact ⟨au3_0, bl_⟩

 rw [if_pos c9] at H
 have c9b0 : ((wrap64 (a1)) == a0_2) = true := beq_iff_eq.mpr c9
 have c9b1 : ((wrap64 (a1)) != a0_2) = false := bne_eq_false_iff_eq.mpr c9
 clear c9
 obtain rfl := Option.some.inj H
 go_enter Try.func104, Try.ntmps104
 go_wp2_with (first | ((with_reducible refine gate_dst (N := 2) rfl ?_); refine be_ 2 #[.int .i64 a0_0, .int .i64 a0_1, .int .i64 a0_2, .int .i64 a0_3] 45 ?_; intro gb377 hg w10 hbox hb; have BK377 := am_ (hbox); have GW377 := am_ (gw_ hg bl_); have GE377 := GW377; replace HB := hs_ w hb; clear hb hbox hg; obtain ⟨hcz11_0, hcz11_1, hcz11_2, hcz11_3, hfz11_0, hfz11_1, hfz11_2, hfz11_3⟩ := cellsF4 BK377.out))
 go_ret
 exact ⟨au3_0, bl_⟩
/-! ### F80: function 80 -/
def F80.l0 : Nat → ByteArray → List Int → Int → Int → Int → Int → Int → Option (ByteArray)
  | 0, _, _, _, _, _, _, _ => none
  | k + 1, x1, x5, x6, x379000, x379001, x379002, x379003 => if x6 < (x1.size : Int) then (if 0 ≤ x6 then ((F104.f x379000 x379001 x379002 x379003 (bt x1 x6)).bind fun t382 => (if t382 = true then (if x5.length < 140737488355328 then ((some (x5 ++ [(x379003) % 256] : List Int)).bind fun y383 => (if y383.length < 140737488355328 then (F80.l0 k x1 (y383 ++ [bt x1 x6]) (wrap64 (x6 + 1)) x379000 x379001 x379002 x379003) else (none))) else (none)) else (if x5.length < 140737488355328 then (F80.l0 k x1 (x5 ++ [bt x1 x6]) (wrap64 (x6 + 1)) x379000 x379001 x379002 x379003) else (none)))) else (none)) else (some (strOfNums x5))
def F80.f (k : Nat) (a0_0 : Int) (a0_1 : Int) (a0_2 : Int) (a0_3 : Int) (a1 : ByteArray) : Option (ByteArray) := F80.l0 k a1 (([] : List Int)) 0 a0_0 a0_1 a0_2 a0_3
theorem F80.mono_l : ∀ k, (∀ y0 y1 y2 y3 y4 y5 y6, LeO (F80.l0 k y0 y1 y2 y3 y4 y5 y6) (F80.l0 (k + 1) y0 y1 y2 y3 y4 y5 y6))
 | 0 => fun _ _ _ _ _ _ _ r h => by simp [F80.l0] at h
 | k + 1 => by
  have ih0 := F80.mono_l k
  intro y0 y1 y2 y3 y4 y5 y6
  unfold F80.l0
  repeat' with_reducible first | exact ih0 _ _ _ _ _ _ _ | exact LeO.refl _ | exact LeO.none _ | refine LeO.ite ?_ ?_ | refine LeO.bind ?_ (fun _ => ?_)
theorem F80.mono : ∀ a0 a1 a2 a3 a4 k, LeO (F80.f k a0 a1 a2 a3 a4) (F80.f (k + 1) a0 a1 a2 a3 a4) := by
 intro a0 a1 a2 a3 a4 k
 have ih0 := F80.mono_l k
 unfold F80.f
 repeat' with_reducible first | exact ih0 _ _ _ _ _ _ _ | exact LeO.refl _ | exact LeO.none _ | refine LeO.ite ?_ ?_ | refine LeO.bind ?_ (fun _ => ?_)
theorem F80.calls (k : Nat) (a0_0 : Int) (a0_1 : Int) (a0_2 : Int) (a0_3 : Int) (a1 : ByteArray) (r : ByteArray) (w : World) (h : F80.f k a0_0 a0_1 a0_2 a0_3 a1 = some r) :
  Calls Try.prog 80 #[.agg #[.int .i64 a0_0, .int .i64 a0_1, .int .i64 a0_2, .int .i64 a0_3], .string a1] w fun e w' => e = .returned (.string r) ∧ Below w.heap.size w w' := by
 have hu45 := Try.underlying45
 have HB := am_ (Below.refl w.heap.size w)
 have H : (F80.l0 k a1 (([] : List Int)) 0 a0_0 a0_1 a0_2 a0_3) = some r := h
 clear h
 obtain ⟨y379, hy379⟩ : ∃ y_ : List Int, y_ = (([] : List Int)) := ⟨_, rfl⟩
 replace H : (F80.l0 k a1 y379 0 a0_0 a0_1 a0_2 a0_3) = some r := by first | (rw [hy379]; exact H) | exact H
 have Ny379 := am_ hy379
 clear hy379
 have H' := am_ H
 clear H
 go_enter Try.func80, Try.ntmps80
 go_wp2_with (first | ((with_reducible refine gate_dst (N := 2) rfl ?_); refine be_ 2 #[.int .i64 a0_0, .int .i64 a0_1, .int .i64 a0_2, .int .i64 a0_3] 45 ?_; intro gb378 hg w3 hbox hb; have BK378 := am_ (hbox); have GW378 := am_ (gw_ hg bl_); have GE378 := GW378; replace HB := hs_ w hb; clear hb hbox hg) | ((with_reducible refine gate_dst (N := 7) rfl ?_); refine Kd.R_lit (Kd.int .u8) _ 5 ?hg (N := 7) ?hd (xs := ([] : List Int)) (inner := []) (ok := fun _ => True) (okp := fun _ => True) ?hr ?hp (fun _ hk => hk) trivial (Below.refl _ _) (Nat.le_refl _) (by simp) ?_; (case hd => rfl); (case hg => rfl); (case hr => exact hr_); (case hp => exact (Reps.none _ _)); intro v380 w4 ho5 hb hg_ hnew_; clear hg_ hnew_; (first | rw [← Ny379.out] at ho5 | (simp only [Int.reduceToNat] at ho5; rw [← Ny379.out] at ho5)); have HO381 := am_ (Kd.R_lower ho5 (below_size bl_)); replace BK378 := bb_ BK378 hb; replace HB := hs_ w hb; clear hb ho5))
 go_loopg [5, 6] k (fun kq v5 v6 w' => ∃ (x5_1 : List Int) (x6_1 : Int), v6 = .int .i64 x6_1 ∧ Aside0 (F80.l0 kq a1 x5_1 x6_1 a0_0 a0_1 a0_2 a0_3 = some r) ∧ Aside0 (kq ≤ k) ∧ Aside0 (Kd.R (Kd.int .u8) 5 w' w.heap.size (fun _ => True) v5 x5_1) ∧ Aside0 (w'.heap[gb378]? = some (.cells #[.int .i64 a0_0, .int .i64 a0_1, .int .i64 a0_2, .int .i64 a0_3] 45 (0, 0))) ∧ Aside0 (Below w.heap.size w w'))
 case atStart => exact ⟨(y379), (0), er_, H', ⟨Nat.le_refl _⟩, ⟨rk_ HO381⟩, ⟨bk_ BK378⟩, ⟨bl_⟩⟩
 case round =>
  clear H'
  obtain ⟨x5_1, x6_1, rfl, HA, HK1, HO_5, BK378, HB⟩ := hrel
  cases gk with
  | zero => exact absurd HA.out (by simp [F80.l0])
  | succ k1 =>
   have H := HA.out
   clear HA
   simp only [F80.l0] at H
   replace H := it_ H; rcases H with ⟨c6b0, H⟩ | ⟨c6b0, H⟩
   rotate_left
   ·obtain rfl := Option.some.inj H
    have hcv24 := own_string (P := Try.prog) Try.underlying43 Try.underlying5 Try.underlying9 (Kd.own_of_R HO_5.out)
    go_wp2
    go_ret
    exact ⟨au3_0, bl_⟩

   replace H := itn_ H; rcases H with ⟨c7b0, H⟩
   replace H := bi_ H; rcases H with ⟨t382, A9, H⟩
   replace H := ib_ H; rcases H with ⟨rfl, H⟩ | ⟨rfl, H⟩
   rotate_left
   ·replace H := iln_ H; rcases H with ⟨LMc20, H⟩
    obtain ⟨y389, hy389⟩ : ∃ y_ : List Int, y_ = (x5_1 ++ [bt a1 x6_1]) := ⟨_, rfl⟩
    replace H : (F80.l0 k1 a1 y389 (wrap64 (x6_1 + 1)) a0_0 a0_1 a0_2 a0_3) = some r := by first | (rw [hy389]; exact H) | exact H
    have Ny389 := am_ hy389
    clear hy389
    have H' := am_ H
    clear H
    try go_wp2
    replace HO_5 := am_ (Kd.R_drew HO_5.out)
    replace BK378 := bd_ BK378
    replace HB := am_ (below_drew1 HB.out)
    have p8 : 0 ≤ (x6_1 : Int) := od_
    have q8 : x6_1 < (a1.size : Int) := od_
    have hx8 := bt_at a1 x6_1
    replace p8 := eq_true p8
    replace q8 := eq_true q8
    refine start_ (n := 5) (S := fun w' => w'.cell? ⟨gb378, 0, none⟩ = some (.int .i64 a0_0) ∧ w'.cell? ⟨gb378, 1, none⟩ = some (.int .i64 a0_1) ∧ w'.cell? ⟨gb378, 2, none⟩ = some (.int .i64 a0_2) ∧ w'.cell? ⟨gb378, 3, none⟩ = some (.int .i64 a0_3)) (ds := []) #[false, false, false, false, false] (by kernel_rfl) rfl rfl ⟨(blk_cell BK378.out 0).trans rfl, (blk_cell BK378.out 1).trans rfl, (blk_cell BK378.out 2).trans rfl, (blk_cell BK378.out 3).trans rfl⟩ (fun hHeld => ?_)
    generalize wr.drew = w21 at HO_5 BK378 HB hHeld ⊢
    refine pk_ 1 15 #[false, true, false, false, false] ?_ rfl rfl
    refine pk_ 2 16 #[false, true, true, false, false] ?_ rfl rfl
    refine take_ (i := 0) (N := some 14) (v := ?_) (a' := ?_) #[true, true, true, false, false] rfl rfl (by kernel_rfl) (fun _ _ _ h => h) (Or.inl ⟨by rfl, ?_⟩) hHeld ?_ ?_
    rotate_left
    ·rintro w' ⟨s0, s1, s2, s3⟩
     go_simp
     with_reducible rfl
    rotate_left
    ·simp only [Act.put, List.setIfInBounds_toArray, List.set_cons_zero, List.set_cons_succ, i64_w, i32_w]
     rfl
    refine take_ (i := 3) (N := some 17) (v := ?_) (a' := ?_) #[true, true, true, true, false] rfl rfl (by kernel_rfl) (fun _ _ _ h => h) (Or.inl ⟨by rfl, ?_⟩) hHeld ?_ ?_
    rotate_left
    ·rintro w' ⟨s0, s1, s2, s3⟩
     go_simp
     with_reducible rfl
    rotate_left
    ·simp only [Act.put, List.setIfInBounds_toArray, List.set_cons_zero, List.set_cons_succ, i64_w, i32_w]
     rfl
    refine one_ (i := 4) (N := some 18) #[true, true, true, true, true] rfl rfl (by kernel_rfl) (by decide) (fun K hK => ?_)
    refine gr_ Try.func104 #[.agg #[.int .i64 a0_0, .int .i64 a0_1, .int .i64 a0_2, .int .i64 a0_3], .int .u8 (bt a1 x6_1)] (by rfl) ?_ rfl rfl rfl
    with_reducible refine (F104.calls a0_0 a0_1 a0_2 a0_3 (bt a1 x6_1) false _ A9.out).mono ?_
    rintro e w22 ⟨rfl, hb⟩
    refine ⟨_, rfl, ?_⟩
    replace HO_5 := am_ (Kd.R_below (rk_ HO_5) hb)
    replace BK378 := bb_ BK378 hb
    replace HB := hs_ w hb
    (try clear hb)
    (try clear hb2)
    (try clear hk)
    (try clear hi)
    refine hK.out _ _ ⟨(blk_cell BK378.out 0).trans rfl, (blk_cell BK378.out 1).trans rfl, (blk_cell BK378.out 2).trans rfl, (blk_cell BK378.out 3).trans rfl⟩ (fun hHeld => ?_)
    clear hK K
    refine no_ 18 ?_
    refine done_ (by kernel_rfl) ?_
    have p19 : 0 ≤ (x6_1 : Int) := od_
    have q19 : x6_1 < (a1.size : Int) := od_
    have hx19 := bt_at a1 x6_1
    replace p19 := eq_true p19
    replace q19 := eq_true q19
    try go_wp2_with (first | ((with_reducible refine gate_builtin (b := .append) (xs := #[.tmp 25, .tmp 29]) rfl ?_); at_builtin; refine Kd.R_append (Kd.int .u8) (w0 := w) w.heap.size rfl (.tmp 25) (.tmp 29) 43 5 (.int .u8 0) 1 rfl Try.underlying43 info5 rfl (by decide) (by omega) u5 x5_1 (bt a1 x6_1) [.int .u8 (bt a1 x6_1)] (fun _ => True) (fun _ => False) rfl rfl ?aP (fun _ hk => hk.elim) ?aF ?aO ?aB ?aS ?aL ?_; (case aP => exact rfl); (case aB => exact bl_); (case aF => exact (fun _ _ => trivial)); (case aO => exact (rk_ HO_5)); (case aS => exact (below_size bl_)); (case aL => have := LMc20.out; omega); intro v390 w23 ho hb hg hat; rw [← Ny389.out] at ho; have n0_ := am_ (bg_ BK378 hg (Kd.R_ne HO_5.out BK378.out (by decide))); have n1_ := am_ (hb); have n2_ := am_ (ho); clear BK378; clear HB; clear HO_5; have BK378 := n0_; have HB := n1_; have HO391 := n2_; clear n0_ n1_ n2_; clear ho hb hg hat))
    go_roundg k1
    case measure => have := HK1.out; omega
    case rel => exact ⟨(y389), (wrap64 (x6_1 + 1)), er_, H', ⟨by have := HK1.out; omega⟩, ⟨rk_ HO391⟩, ⟨bk_ BK378⟩, ⟨bl_⟩⟩
   replace H := iln_ H; rcases H with ⟨LMc11, H⟩
   obtain ⟨y383, hy383⟩ : ∃ y_ : List Int, y_ = (x5_1 ++ [(a0_3) % 256]) := ⟨_, rfl⟩
   replace H : (if y383.length < 140737488355328 then (F80.l0 k1 a1 (y383 ++ [bt a1 x6_1]) (wrap64 (x6_1 + 1)) a0_0 a0_1 a0_2 a0_3) else (none)) = some r := by first | (rw [hy383]; exact H) | exact H
   have Ny383 := am_ hy383
   clear hy383
   replace H := iln_ H; rcases H with ⟨LMc13, H⟩
   obtain ⟨y386, hy386⟩ : ∃ y_ : List Int, y_ = (y383 ++ [bt a1 x6_1]) := ⟨_, rfl⟩
   replace H : (F80.l0 k1 a1 y386 (wrap64 (x6_1 + 1)) a0_0 a0_1 a0_2 a0_3) = some r := by first | (rw [hy386]; exact H) | exact H
   have Ny386 := am_ hy386
   clear hy386
   have H' := am_ H
   clear H
   try go_wp2
   replace HO_5 := am_ (Kd.R_drew HO_5.out)
   replace BK378 := bd_ BK378
   replace HB := am_ (below_drew1 HB.out)
   have p8 : 0 ≤ (x6_1 : Int) := od_
   have q8 : x6_1 < (a1.size : Int) := od_
   have hx8 := bt_at a1 x6_1
   replace p8 := eq_true p8
   replace q8 := eq_true q8
   refine start_ (n := 5) (S := fun w' => w'.cell? ⟨gb378, 0, none⟩ = some (.int .i64 a0_0) ∧ w'.cell? ⟨gb378, 1, none⟩ = some (.int .i64 a0_1) ∧ w'.cell? ⟨gb378, 2, none⟩ = some (.int .i64 a0_2) ∧ w'.cell? ⟨gb378, 3, none⟩ = some (.int .i64 a0_3)) (ds := []) #[false, false, false, false, false] (by kernel_rfl) rfl rfl ⟨(blk_cell BK378.out 0).trans rfl, (blk_cell BK378.out 1).trans rfl, (blk_cell BK378.out 2).trans rfl, (blk_cell BK378.out 3).trans rfl⟩ (fun hHeld => ?_)
   generalize wr.drew = w14 at HO_5 BK378 HB hHeld ⊢
   refine pk_ 1 15 #[false, true, false, false, false] ?_ rfl rfl
   refine pk_ 2 16 #[false, true, true, false, false] ?_ rfl rfl
   refine take_ (i := 0) (N := some 14) (v := ?_) (a' := ?_) #[true, true, true, false, false] rfl rfl (by kernel_rfl) (fun _ _ _ h => h) (Or.inl ⟨by rfl, ?_⟩) hHeld ?_ ?_
   rotate_left
   ·rintro w' ⟨s0, s1, s2, s3⟩
    go_simp
    with_reducible rfl
   rotate_left
   ·simp only [Act.put, List.setIfInBounds_toArray, List.set_cons_zero, List.set_cons_succ, i64_w, i32_w]
    rfl
   refine take_ (i := 3) (N := some 17) (v := ?_) (a' := ?_) #[true, true, true, true, false] rfl rfl (by kernel_rfl) (fun _ _ _ h => h) (Or.inl ⟨by rfl, ?_⟩) hHeld ?_ ?_
   rotate_left
   ·rintro w' ⟨s0, s1, s2, s3⟩
    go_simp
    with_reducible rfl
   rotate_left
   ·simp only [Act.put, List.setIfInBounds_toArray, List.set_cons_zero, List.set_cons_succ, i64_w, i32_w]
    rfl
   refine one_ (i := 4) (N := some 18) #[true, true, true, true, true] rfl rfl (by kernel_rfl) (by decide) (fun K hK => ?_)
   refine gr_ Try.func104 #[.agg #[.int .i64 a0_0, .int .i64 a0_1, .int .i64 a0_2, .int .i64 a0_3], .int .u8 (bt a1 x6_1)] (by rfl) ?_ rfl rfl rfl
   with_reducible refine (F104.calls a0_0 a0_1 a0_2 a0_3 (bt a1 x6_1) true _ A9.out).mono ?_
   rintro e w15 ⟨rfl, hb⟩
   refine ⟨_, rfl, ?_⟩
   replace HO_5 := am_ (Kd.R_below (rk_ HO_5) hb)
   replace BK378 := bb_ BK378 hb
   replace HB := hs_ w hb
   (try clear hb)
   (try clear hb2)
   (try clear hk)
   (try clear hi)
   refine hK.out _ _ ⟨(blk_cell BK378.out 0).trans rfl, (blk_cell BK378.out 1).trans rfl, (blk_cell BK378.out 2).trans rfl, (blk_cell BK378.out 3).trans rfl⟩ (fun hHeld => ?_)
   clear hK K
   refine no_ 18 ?_
   refine done_ (by kernel_rfl) ?_
   obtain ⟨hcz16_0, hcz16_1, hcz16_2, hcz16_3, hfz16_0, hfz16_1, hfz16_2, hfz16_3⟩ := cellsF4 BK378.out
   try go_wp2_with (first | ((with_reducible refine gate_builtin (b := .append) (xs := #[.tmp 19, .tmp 23]) rfl ?_); at_builtin; refine Kd.R_append (Kd.int .u8) (w0 := w) w.heap.size rfl (.tmp 19) (.tmp 23) 43 5 (.int .u8 0) 1 rfl Try.underlying43 info5 rfl (by decide) (by omega) u5 x5_1 ((a0_3) % 256) [.int .u8 ((a0_3) % 256)] (fun _ => True) (fun _ => False) rfl rfl ?aP (fun _ hk => hk.elim) ?aF ?aO ?aB ?aS ?aL ?_; (case aP => exact rfl); (case aB => exact bl_); (case aF => exact (fun _ _ => trivial)); (case aO => exact (rk_ HO_5)); (case aS => exact (below_size bl_)); (case aL => have := LMc11.out; omega); intro v384 w17 ho hb hg hat; rw [← Ny383.out] at ho; have n0_ := am_ (bg_ BK378 hg (Kd.R_ne HO_5.out BK378.out (by decide))); have n1_ := am_ (hb); have n2_ := am_ (ho); clear BK378; clear HB; clear HO_5; have BK378 := n0_; have HB := n1_; have HO385 := n2_; clear n0_ n1_ n2_; clear ho hb hg hat; have p12 : 0 ≤ (x6_1 : Int) := od_; have q12 : x6_1 < (a1.size : Int) := od_; have hx12 := bt_at a1 x6_1; replace p12 := eq_true p12; replace q12 := eq_true q12) | ((with_reducible refine gate_builtin (b := .append) (xs := #[.tmp 25, .tmp 29]) rfl ?_); at_builtin; refine Kd.R_append (Kd.int .u8) (w0 := w) w.heap.size rfl (.tmp 25) (.tmp 29) 43 5 (.int .u8 0) 1 rfl Try.underlying43 info5 rfl (by decide) (by omega) v384 y383 (bt a1 x6_1) [.int .u8 (bt a1 x6_1)] (fun _ => True) (fun _ => False) rfl rfl ?aP (fun _ hk => hk.elim) ?aF ?aO ?aB ?aS ?aL ?_; (case aP => exact rfl); (case aB => exact bl_); (case aF => exact (fun _ _ => trivial)); (case aO => exact (rk_ HO385)); (case aS => exact (below_size bl_)); (case aL => have := LMc13.out; omega); intro v387 w18 ho hb hg hat; rw [← Ny386.out] at ho; have n0_ := am_ (bg_ BK378 hg (Kd.R_ne HO385.out BK378.out (by decide))); have n1_ := am_ (hb); have n2_ := am_ (ho); clear BK378; clear HB; clear HO385; have BK378 := n0_; have HB := n1_; have HO388 := n2_; clear n0_ n1_ n2_; clear ho hb hg hat))
   go_roundg k1
   case measure => have := HK1.out; omega
   case rel => exact ⟨(y386), (wrap64 (x6_1 + 1)), er_, H', ⟨by have := HK1.out; omega⟩, ⟨rk_ HO388⟩, ⟨bk_ BK378⟩, ⟨bl_⟩⟩
/-! ### F45: function 45 -/
mutual
def F45.j0 : Nat → Bool → Int → Int → Int → Int → ByteArray → List (S122) → Option (ByteArray)
  | 0, _, _, _, _, _, _, _ => none
  | k + 1, x15, x393000, x393001, x393002, x393003, x394000, x394001 => if x15 = true then (some (⟨#[]⟩ : ByteArray)) else (F45.l0 k x394000 0 x393000 x393001 x393002 x393003 x394000 x394001)
def F45.l0 : Nat → ByteArray → Int → Int → Int → Int → Int → ByteArray → List (S122) → Option (ByteArray)
  | 0, _, _, _, _, _, _, _, _ => none
  | k + 1, x5, x6, x393000, x393001, x393002, x393003, x394000, x394001 => if x6 < (x394001.length : Int) then ((some (([(x393001) % 256] : List Int) : List Int)).bind fun y399 => (if x5.size + (strOfNums y399).size ≤ 9223372036854775807 then (F45.l1 k (x5 ++ (strOfNums y399)) x6 0 x393000 x393001 x393002 x393003 x394000 x394001) else (none))) else ((some (([(x393000) % 256] : List Int) : List Int)).bind fun y396 => (if x5.size + (strOfNums y396).size ≤ 9223372036854775807 then (some (x5 ++ (strOfNums y396))) else (none)))
def F45.l1 : Nat → ByteArray → Int → Int → Int → Int → Int → Int → ByteArray → List (S122) → Option (ByteArray)
  | 0, _, _, _, _, _, _, _, _, _ => none
  | k + 1, x5, x6, x7, x393000, x393001, x393002, x393003, x394000, x394001 => if 0 ≤ x6 then (if x6 < (x394001.length : Int) then (if x7 < (((rd_T122 x394001 x6).f0).length : Int) then (if x7 > 0 then ((some (([(x393002) % 256] : List Int) : List Int)).bind fun y403 => (if x5.size + (strOfNums y403).size ≤ 9223372036854775807 then (if 0 ≤ x7 then ((F80.f k x393000 x393001 x393002 x393003 (rdOf ByteArray.empty ((rd_T122 x394001 x6).f0) x7)).bind fun t408 => (if (x5 ++ (strOfNums y403)).size + t408.size ≤ 9223372036854775807 then (F45.l1 k ((x5 ++ (strOfNums y403)) ++ t408) x6 (wrap64 (x7 + 1)) x393000 x393001 x393002 x393003 x394000 x394001) else (none))) else (none)) else (none))) else (if 0 ≤ x7 then ((F80.f k x393000 x393001 x393002 x393003 (rdOf ByteArray.empty ((rd_T122 x394001 x6).f0) x7)).bind fun t411 => (if x5.size + t411.size ≤ 9223372036854775807 then (F45.l1 k (x5 ++ t411) x6 (wrap64 (x7 + 1)) x393000 x393001 x393002 x393003 x394000 x394001) else (none))) else (none))) else (F45.l0 k x5 (wrap64 (x6 + 1)) x393000 x393001 x393002 x393003 x394000 x394001)) else (none)) else (none)
end
def F45.f (k : Nat) (a0_0 : Int) (a0_1 : Int) (a0_2 : Int) (a0_3 : Int) (a1_0 : ByteArray) (l1_1 : List (S122)) : Option (ByteArray) := (F43.f k a0_0 a0_1 a0_2 a0_3).bind fun t394 => (if t394 = true then ((F44.f k a1_0 l1_1).bind fun t395 => (F45.j0 k (!t395) a0_0 a0_1 a0_2 a0_3 a1_0 l1_1)) else (F45.j0 k true a0_0 a0_1 a0_2 a0_3 a1_0 l1_1))
theorem F45.mono_l : ∀ k, (∀ y0 y1 y2 y3 y4 y5 y6, LeO (F45.j0 k y0 y1 y2 y3 y4 y5 y6) (F45.j0 (k + 1) y0 y1 y2 y3 y4 y5 y6)) ∧ (∀ y0 y1 y2 y3 y4 y5 y6 y7, LeO (F45.l0 k y0 y1 y2 y3 y4 y5 y6 y7) (F45.l0 (k + 1) y0 y1 y2 y3 y4 y5 y6 y7)) ∧ (∀ y0 y1 y2 y3 y4 y5 y6 y7 y8, LeO (F45.l1 k y0 y1 y2 y3 y4 y5 y6 y7 y8) (F45.l1 (k + 1) y0 y1 y2 y3 y4 y5 y6 y7 y8))
 | 0 => ⟨fun _ _ _ _ _ _ _ r h => by simp [F45.j0] at h, fun _ _ _ _ _ _ _ _ r h => by simp [F45.l0] at h, fun _ _ _ _ _ _ _ _ _ r h => by simp [F45.l1] at h⟩
 | k + 1 => by
  obtain ⟨ih0, ih1, ih2⟩ := F45.mono_l k
  refine ⟨?_, ?_, ?_⟩
  rotate_left
  ·intro y0 y1 y2 y3 y4 y5 y6 y7
   unfold F45.l0
   repeat' with_reducible first | exact ih0 _ _ _ _ _ _ _ | exact ih1 _ _ _ _ _ _ _ _ | exact ih2 _ _ _ _ _ _ _ _ _ | exact F44.mono _ _ _ | exact F43.mono _ _ _ _ _ | exact F80.mono _ _ _ _ _ _ | exact LeO.refl _ | exact LeO.none _ | refine LeO.ite ?_ ?_ | refine LeO.bind ?_ (fun _ => ?_)
  ·intro y0 y1 y2 y3 y4 y5 y6 y7 y8
   unfold F45.l1
   repeat' with_reducible first | exact ih0 _ _ _ _ _ _ _ | exact ih1 _ _ _ _ _ _ _ _ | exact ih2 _ _ _ _ _ _ _ _ _ | exact F44.mono _ _ _ | exact F43.mono _ _ _ _ _ | exact F80.mono _ _ _ _ _ _ | exact LeO.refl _ | exact LeO.none _ | refine LeO.ite ?_ ?_ | refine LeO.bind ?_ (fun _ => ?_)
  intro y0 y1 y2 y3 y4 y5 y6
  unfold F45.j0
  repeat' with_reducible first | exact ih0 _ _ _ _ _ _ _ | exact ih1 _ _ _ _ _ _ _ _ | exact ih2 _ _ _ _ _ _ _ _ _ | exact F44.mono _ _ _ | exact F43.mono _ _ _ _ _ | exact F80.mono _ _ _ _ _ _ | exact LeO.refl _ | exact LeO.none _ | refine LeO.ite ?_ ?_ | refine LeO.bind ?_ (fun _ => ?_)
theorem F45.mono : ∀ a0 a1 a2 a3 a4 a5 k, LeO (F45.f k a0 a1 a2 a3 a4 a5) (F45.f (k + 1) a0 a1 a2 a3 a4 a5) := by
 intro a0 a1 a2 a3 a4 a5 k
 obtain ⟨ih0, ih1, ih2⟩ := F45.mono_l k
 unfold F45.f
 repeat' with_reducible first | exact ih0 _ _ _ _ _ _ _ | exact ih1 _ _ _ _ _ _ _ _ | exact ih2 _ _ _ _ _ _ _ _ _ | exact F44.mono _ _ _ | exact F43.mono _ _ _ _ _ | exact F80.mono _ _ _ _ _ _ | exact LeO.refl _ | exact LeO.none _ | refine LeO.ite ?_ ?_ | refine LeO.bind ?_ (fun _ => ?_)
def F45.T13 : Bool × List (List Nat × List Nat) := (true, [([], []), ([], []), ([], []), ([2], [2]), ([], []), ([3, 4], [3, 4]), ([5], [5]), ([6], [6]), ([], []), ([7, 8], [7, 8]), ([9], [9]), ([1, 10], [1, 10]), ([0, 11], [0, 11]), ([12, 11, 0, 1, 2, 3, 4, 5, 6, 7, 8, 9, 10, 11, 12], [0, 12])])
def F45.B13 : List Nat := [0, 0, 0, 4, 0, 28, 60, 124, 0, 508, 1020, 2046, 4095, 8191]
theorem F45.tab13 : rtab .any (opsOf Try.f45 13) = F45.T13 := by kernel_rfl
theorem F45.bits13 : waitsOk F45.T13.2 F45.B13 = true := by kernel_rfl
theorem F45.calls (k : Nat) (a0_0 : Int) (a0_1 : Int) (a0_2 : Int) (a0_3 : Int) (a1_0 : ByteArray) (A1_1 : Option Addr) (c1_1 : Nat) (l1_1 : List (S122)) (r : ByteArray) (w : World) (hr1_1 : Kd.C k122 w A1_1 l1_1.length l1_1) (hc1_1 : l1_1.length ≤ c1_1) (h : F45.f k a0_0 a0_1 a0_2 a0_3 a1_0 l1_1 = some r) :
  Calls Try.prog 45 #[.agg #[.int .i64 a0_0, .int .i64 a0_1, .int .i64 a0_2, .int .i64 a0_3], .agg #[.string a1_0, .slice A1_1 l1_1.length c1_1]] w fun e w' => e = .returned (.string r) ∧ Below w.heap.size w w' := by
 have hu45 := Try.underlying45
 have hu88 := Try.underlying88
 have HR1_1 := am_ hr1_1
 have HC1_1 := am_ hc1_1
 clear hr1_1 hc1_1
 have HB := am_ (Below.refl w.heap.size w)
 have H : ((F43.f k a0_0 a0_1 a0_2 a0_3).bind fun t394 => (if t394 = true then ((F44.f k a1_0 l1_1).bind fun t395 => (F45.j0 k (!t395) a0_0 a0_1 a0_2 a0_3 a1_0 l1_1)) else (F45.j0 k true a0_0 a0_1 a0_2 a0_3 a1_0 l1_1))) = some r := h
 clear h
 have HC3 := am_ H
 clear H
 go_enter Try.func45, Try.ntmps45
 go_upto_region 1 with (first | ((with_reducible refine gate_dst (N := 2) rfl ?_); refine be_ 2 #[.int .i64 a0_0, .int .i64 a0_1, .int .i64 a0_2, .int .i64 a0_3] 45 ?_; intro gb392 hg w4 hbox hb; have BK392 := am_ (hbox); have GW392 := am_ (gw_ hg bl_); have GE392 := GW392; replace HB := hs_ w hb; clear hb hbox hg) | ((with_reducible refine gate_dst (N := 3) rfl ?_); refine be_ 3 #[.string a1_0, .slice A1_1 l1_1.length c1_1] 88 ?_; intro gb393 hg w5 hbox hb; have BK393 := am_ (hbox); have GW393 := am_ (gw_ hg bl_); have GE393 := GW393; replace HB := hs_ w hb; have NB392_393 := am_ (gn_ hg (blkl_ BK392)); have NB393_392 := am_ (gm_ hg (blkl_ BK392)); replace BK392 := bb_ BK392 hb; clear hb hbox hg))
 (try simp only [Act.put, List.setIfInBounds_toArray, List.set_cons_zero, List.set_cons_succ])
 go_cut [15] (fun v15 wc => ∃ (kq : Nat) (x15_2 : Bool), v15 = .bool x15_2 ∧ Aside0 (F45.j0 kq x15_2 a0_0 a0_1 a0_2 a0_3 a1_0 l1_1 = some r) ∧ Aside0 (kq ≤ k) ∧ Aside0 (wc.heap[gb392]? = some (.cells #[.int .i64 a0_0, .int .i64 a0_1, .int .i64 a0_2, .int .i64 a0_3] 45 (0, 0))) ∧ Aside0 (wc.heap[gb393]? = some (.cells #[.string a1_0, (.slice A1_1 l1_1.length c1_1)] 88 (0, 0))) ∧ Aside0 (Below w.heap.size w wc))
 case first =>
  have H := HC3.out
  clear HC3
  replace H := bi_ H; rcases H with ⟨t394, A6, H⟩
  replace H := ib_ H; rcases H with ⟨rfl, H⟩ | ⟨rfl, H⟩
  rotate_left
  ·have H' := am_ H
   clear H
   have hnb14 := NB392_393.out
   have hnc14 := NB393_392.out
   obtain ⟨hcz15_0, hcz15_1, hcz15_2, hcz15_3, hfz15_0, hfz15_1, hfz15_2, hfz15_3⟩ := cellsF4 BK392.out
   go_wp2_with (first | (go_at_call 43; (with_reducible refine (F43.calls k a0_0 a0_1 a0_2 a0_3 false _ A6.out).mono ?_); rintro e w16 ⟨rfl, hb⟩; (try clear A6); replace BK392 := bb_ BK392 hb; replace BK393 := bb_ BK393 hb; replace HB := hs_ w hb; (try clear hb)))
   go_meet
   case rel => exact ⟨_, (true), er_, H', ⟨au3_15⟩, ⟨bk_ BK392⟩, ⟨bk_ BK393⟩, ⟨bl_⟩⟩
  replace H := bi_ H; rcases H with ⟨t395, A8, H⟩
  have H' := am_ H
  clear H
  have hnb9 := NB392_393.out
  have hnc9 := NB393_392.out
  obtain ⟨hcz10_0, hcz10_1, hcz10_2, hcz10_3, hfz10_0, hfz10_1, hfz10_2, hfz10_3⟩ := cellsF4 BK392.out
  go_wp2_with (first | (go_at_call 43; (with_reducible refine (F43.calls k a0_0 a0_1 a0_2 a0_3 true _ A6.out).mono ?_); rintro e w11 ⟨rfl, hb⟩; (try clear A6); replace BK392 := bb_ BK392 hb; replace BK393 := bb_ BK393 hb; replace HB := hs_ w hb; (try clear hb); obtain ⟨hcz12_0, hcz12_1, hfz12_0, hfz12_1⟩ := cellsF2 BK393.out) | (go_at_call 44; (with_reducible refine (F44.calls k a1_0 _ _ l1_1 t395 _ ?s1 ?s2 A8.out).mono ?_); (case s1 => repeat (first | exact (Kd.C_below HR1_1.out HB.out) | (with_reducible refine Kd.C_alloc ?_ _) | (with_reducible refine Kd.C_drewN ?_ _) | (with_reducible refine Kd.C_drew ?_))); (case s2 => exact HC1_1.out); rintro e w13 ⟨rfl, hb⟩; (try clear A8); replace BK392 := bb_ BK392 hb; replace BK393 := bb_ BK393 hb; replace HB := hs_ w hb; (try clear hb)))
  go_meet
  case rel => exact ⟨_, (!t395), er_, H', ⟨au3_15⟩, ⟨bk_ BK392⟩, ⟨bk_ BK393⟩, ⟨bl_⟩⟩
 case rest =>
  clear HC3
  try clear hcz10_0 hcz10_1 hcz10_2 hcz10_3
  try clear hcz12_0 hcz12_1
  try clear hcz15_0 hcz15_1 hcz15_2 hcz15_3
  try clear hfz10_0 hfz10_1 hfz10_2 hfz10_3
  try clear hfz12_0 hfz12_1
  try clear hfz15_0 hfz15_1 hfz15_2 hfz15_3
  obtain ⟨kq, x15_2, rfl, HA, HJ2, BK392, BK393, HB⟩ := hcut
  cases kq with
  | zero => exact absurd HA.out (by simp [F45.j0])
  | succ kj2 =>
   have H := HA.out
   clear HA
   simp only [F45.j0] at H
   replace H := ib_ H; rcases H with ⟨rfl, H⟩ | ⟨rfl, H⟩
   ·obtain rfl := Option.some.inj H
    go_wp2
    go_ret
    exact ⟨au3_0, bl_⟩
   have H' := am_ H
   clear H
   have hnb18 := NB393_392.out
   have hnc18 := NB392_393.out
   obtain ⟨hcz19_0, hcz19_1, hfz19_0, hfz19_1⟩ := cellsF2 BK393.out
   go_wp2
   go_loopg [5, 6] kj2 (fun kq v5 v6 w' => ∃ (x5_2 : ByteArray) (x6_2 : Int), v5 = .string x5_2 ∧ v6 = .int .i64 x6_2 ∧ Aside0 (F45.l0 kq x5_2 x6_2 a0_0 a0_1 a0_2 a0_3 a1_0 l1_1 = some r) ∧ Aside0 (kq ≤ kj2) ∧ Aside0 (w'.heap[gb392]? = some (.cells #[.int .i64 a0_0, .int .i64 a0_1, .int .i64 a0_2, .int .i64 a0_3] 45 (0, 0))) ∧ Aside0 (w'.heap[gb393]? = some (.cells #[.string a1_0, (.slice A1_1 l1_1.length c1_1)] 88 (0, 0))) ∧ Aside0 (Below w.heap.size w w'))
   case atStart => exact ⟨(a1_0), (0), er_, er_, H', ⟨Nat.le_refl _⟩, ⟨bk_ BK392⟩, ⟨bk_ BK393⟩, ⟨bl_⟩⟩
   case round =>
    clear H'
    try clear hcz10_0 hcz10_1 hcz10_2 hcz10_3
    try clear hcz12_0 hcz12_1
    try clear hcz15_0 hcz15_1 hcz15_2 hcz15_3
    try clear hcz19_0 hcz19_1
    try clear hfz10_0 hfz10_1 hfz10_2 hfz10_3
    try clear hfz12_0 hfz12_1
    try clear hfz15_0 hfz15_1 hfz15_2 hfz15_3
    try clear hfz19_0 hfz19_1
    obtain ⟨x5_2, x6_2, rfl, rfl, HA, HK2, BK392, BK393, HB⟩ := hrel
    cases gk with
    | zero => exact absurd HA.out (by simp [F45.l0])
    | succ k2 =>
     have H := HA.out
     clear HA
     simp only [F45.l0] at H
     replace H := it_ H; rcases H with ⟨c20b0, H⟩ | ⟨c20b0, H⟩
     rotate_left
     ·obtain ⟨y396, hy396⟩ : ∃ y_ : List Int, y_ = (([(a0_0) % 256] : List Int)) := ⟨_, rfl⟩
      replace H : (if x5_2.size + (strOfNums y396).size ≤ 9223372036854775807 then (some (x5_2 ++ (strOfNums y396))) else (none)) = some r := by first | (rw [hy396]; exact H) | exact H
      have Ny396 := am_ hy396
      clear hy396
      by_cases c53 : x5_2.size + (strOfNums y396).size ≤ 9223372036854775807
      rotate_left
      ·rw [if_neg c53] at H
       exact absurd H (by simp)

      rw [if_pos c53] at H
      have c53b0 := eq_true c53
      have c53b1 : decide (x5_2.size + (strOfNums y396).size ≤ 9223372036854775807) = true := decide_eq_true c53
      try have c53b2 : (9223372036854775807 < x5_2.size + (strOfNums y396).size) = False := eq_false (Nat.not_lt.2 c53)
      obtain rfl := Option.some.inj H
      have hnb54 := NB393_392.out
      have hnc54 := NB392_393.out
      obtain ⟨hcz55_0, hcz55_1, hfz55_0, hfz55_1⟩ := cellsF2 BK393.out
      obtain ⟨hcz56_0, hcz56_1, hcz56_2, hcz56_3, hfz56_0, hfz56_1, hfz56_2, hfz56_3⟩ := cellsF4 BK392.out
      go_wp2_with (first | ((with_reducible refine gate_dst (N := 69) rfl ?_); refine Kd.R_lit (Kd.int .u8) _ 5 ?hg (N := 69) ?hd (xs := ([(a0_0) % 256] : List Int)) (inner := [.int .u8 ((a0_0) % 256)]) (ok := fun _ => True) (okp := fun _ => True) ?hr ?hp (fun _ hk => hk) trivial (Below.refl _ _) (Nat.le_refl _) (by simp) ?_; (case hd => rfl); (case hg => rfl); (case hr => exact hr_); (case hp => exact (Reps.one (show Kd.M (Kd.int .u8) _ _ _ ((a0_0) % 256) [.int .u8 ((a0_0) % 256)] from rfl) (Reps.none _ _))); intro v397 w57 ho58 hb hg_ hnew_; clear hg_ hnew_; (first | rw [← Ny396.out] at ho58 | (simp only [Int.reduceToNat] at ho58; rw [← Ny396.out] at ho58)); have HO398 := am_ (Kd.R_lower ho58 (below_size bl_)); replace BK392 := bb_ BK392 hb; replace BK393 := bb_ BK393 hb; replace HB := hs_ w hb; clear hb ho58; have hcv59 := own_string (P := Try.prog) Try.underlying43 Try.underlying5 Try.underlying9 (Kd.own_of_R HO398.out)))
      go_ret
      exact ⟨au3_0, bl_⟩
     obtain ⟨y399, hy399⟩ : ∃ y_ : List Int, y_ = (([(a0_1) % 256] : List Int)) := ⟨_, rfl⟩
     replace H : (if x5_2.size + (strOfNums y399).size ≤ 9223372036854775807 then (F45.l1 k2 (x5_2 ++ (strOfNums y399)) x6_2 0 a0_0 a0_1 a0_2 a0_3 a1_0 l1_1) else (none)) = some r := by first | (rw [hy399]; exact H) | exact H
     have Ny399 := am_ hy399
     clear hy399
     by_cases c21 : x5_2.size + (strOfNums y399).size ≤ 9223372036854775807
     rotate_left
     ·rw [if_neg c21] at H
      exact absurd H (by simp)
     rw [if_pos c21] at H
     have c21b0 := eq_true c21
     have c21b1 : decide (x5_2.size + (strOfNums y399).size ≤ 9223372036854775807) = true := decide_eq_true c21
     try have c21b2 : (9223372036854775807 < x5_2.size + (strOfNums y399).size) = False := eq_false (Nat.not_lt.2 c21)
     have H' := am_ H
     clear H
     have hnb22 := NB393_392.out
     have hnc22 := NB392_393.out
     obtain ⟨hcz23_0, hcz23_1, hfz23_0, hfz23_1⟩ := cellsF2 BK393.out
     obtain ⟨hcz24_0, hcz24_1, hcz24_2, hcz24_3, hfz24_0, hfz24_1, hfz24_2, hfz24_3⟩ := cellsF4 BK392.out
     go_wp2_with (first | ((with_reducible refine gate_dst (N := 29) rfl ?_); refine Kd.R_lit (Kd.int .u8) _ 5 ?hg (N := 29) ?hd (xs := ([(a0_1) % 256] : List Int)) (inner := [.int .u8 ((a0_1) % 256)]) (ok := fun _ => True) (okp := fun _ => True) ?hr ?hp (fun _ hk => hk) trivial (Below.refl _ _) (Nat.le_refl _) (by simp) ?_; (case hd => rfl); (case hg => rfl); (case hr => exact hr_); (case hp => exact (Reps.one (show Kd.M (Kd.int .u8) _ _ _ ((a0_1) % 256) [.int .u8 ((a0_1) % 256)] from rfl) (Reps.none _ _))); intro v400 w25 ho26 hb hg_ hnew_; clear hg_ hnew_; (first | rw [← Ny399.out] at ho26 | (simp only [Int.reduceToNat] at ho26; rw [← Ny399.out] at ho26)); have HO401 := am_ (Kd.R_lower ho26 (below_size bl_)); replace BK392 := bb_ BK392 hb; replace BK393 := bb_ BK393 hb; replace HB := hs_ w hb; clear hb ho26; have hcv27 := own_string (P := Try.prog) Try.underlying43 Try.underlying5 Try.underlying9 (Kd.own_of_R HO401.out)))
     go_loopg [5, 7] k2 (fun kq v5 v7 w' => ∃ (x5_3 : ByteArray) (x7_3 : Int), v5 = .string x5_3 ∧ v7 = .int .i64 x7_3 ∧ Aside0 (F45.l1 kq x5_3 x6_2 x7_3 a0_0 a0_1 a0_2 a0_3 a1_0 l1_1 = some r) ∧ Aside0 (kq ≤ k2) ∧ Aside0 (w'.heap[gb392]? = some (.cells #[.int .i64 a0_0, .int .i64 a0_1, .int .i64 a0_2, .int .i64 a0_3] 45 (0, 0))) ∧ Aside0 (w'.heap[gb393]? = some (.cells #[.string a1_0, (.slice A1_1 l1_1.length c1_1)] 88 (0, 0))) ∧ Aside0 (Below w.heap.size w w'))
     case atStart => exact ⟨(x5_2 ++ (strOfNums y399)), (0), er_, er_, H', ⟨Nat.le_refl _⟩, ⟨bk_ BK392⟩, ⟨bk_ BK393⟩, ⟨bl_⟩⟩
     case round =>
      clear H'
      try clear c20b0
      try clear c21
      try clear c21b0
      try clear c21b1
      try clear c21b2
      try clear hcv27
      try clear hcz10_0 hcz10_1 hcz10_2 hcz10_3
      try clear hcz12_0 hcz12_1
      try clear hcz15_0 hcz15_1 hcz15_2 hcz15_3
      try clear hcz19_0 hcz19_1
      try clear hcz23_0 hcz23_1
      try clear hcz24_0 hcz24_1 hcz24_2 hcz24_3
      try clear hfz10_0 hfz10_1 hfz10_2 hfz10_3
      try clear hfz12_0 hfz12_1
      try clear hfz15_0 hfz15_1 hfz15_2 hfz15_3
      try clear hfz19_0 hfz19_1
      try clear hfz23_0 hfz23_1
      try clear hfz24_0 hfz24_1 hfz24_2 hfz24_3
      obtain ⟨x5_3, x7_3, rfl, rfl, HA, HK3, BK392, BK393, HB⟩ := hrel
      cases gk with
      | zero => exact absurd HA.out (by simp [F45.l1])
      | succ k3 =>
       have H := HA.out
       clear HA
       simp only [F45.l1] at H
       replace H := itn_ H; rcases H with ⟨c28b0, H⟩
       replace H := itn_ H; rcases H with ⟨c29b0, H⟩
       replace H := it_ H; rcases H with ⟨c30b0, H⟩ | ⟨c30b0, H⟩
       rotate_left
       ·have H' := am_ H
        clear H
        have hnb51 := NB393_392.out
        have hnc51 := NB392_393.out
        obtain ⟨hcz52_0, hcz52_1, hfz52_0, hfz52_1⟩ := cellsF2 BK393.out
        have p402 : 0 ≤ (x6_2 : Int) := od_
        have q402 : x6_2 < (l1_1.length : Int) := od_
        obtain ⟨ad402, A402_0, c402_0, e402, hx402_0, hl402_0, hi402_0⟩ := at_T122 HR1_1.out x6_2 p402 q402
        cases e402
        replace hx402_0 := (HB.out.cell (World.block_lt_of_cell? _ _ hx402_0)).trans hx402_0
        have HR402_0 := am_ hi402_0
        have HC402_0 := am_ hl402_0
        clear hi402_0 hl402_0
        replace p402 := eq_true p402
        replace q402 := eq_true q402
        go_wp2
        go_roundg k3
        case measure => have := HJ2.out; have := HK2.out; have := HK3.out; omega
        case rel => exact ⟨(x5_3), (wrap64 (x6_2 + 1)), er_, er_, H', ⟨au3_14⟩, ⟨bk_ BK392⟩, ⟨bk_ BK393⟩, ⟨bl_⟩⟩
       replace H := it_ H; rcases H with ⟨(c31b0 : decide (0 < x7_3) = true), H⟩ | ⟨(c31b0 : decide (0 < x7_3) = false), H⟩
       rotate_left
       ·replace H := itn_ H; rcases H with ⟨c44b0, H⟩
        replace H := bi_ H; rcases H with ⟨t411, A45, H⟩
        by_cases c46 : x5_3.size + t411.size ≤ 9223372036854775807
        rotate_left
        ·rw [if_neg c46] at H
         exact absurd H (by simp)
        rw [if_pos c46] at H
        have c46b0 := eq_true c46
        have c46b1 : decide (x5_3.size + t411.size ≤ 9223372036854775807) = true := decide_eq_true c46
        try have c46b2 : (9223372036854775807 < x5_3.size + t411.size) = False := eq_false (Nat.not_lt.2 c46)
        have H' := am_ H
        clear H
        have hnb47 := NB393_392.out
        have hnc47 := NB392_393.out
        obtain ⟨hcz48_0, hcz48_1, hfz48_0, hfz48_1⟩ := cellsF2 BK393.out
        have p402 : 0 ≤ (x6_2 : Int) := od_
        have q402 : x6_2 < (l1_1.length : Int) := od_
        obtain ⟨ad402, A402_0, c402_0, e402, hx402_0, hl402_0, hi402_0⟩ := at_T122 HR1_1.out x6_2 p402 q402
        cases e402
        replace hx402_0 := (HB.out.cell (World.block_lt_of_cell? _ _ hx402_0)).trans hx402_0
        have HR402_0 := am_ hi402_0
        have HC402_0 := am_ hl402_0
        clear hi402_0 hl402_0
        replace p402 := eq_true p402
        replace q402 := eq_true q402
        try go_wp2
        replace BK392 := bd_ BK392
        replace BK393 := bd_ BK393
        replace HB := am_ (below_drew1 HB.out)
        have p409 : 0 ≤ (x6_2 : Int) := od_
        have q409 : x6_2 < (l1_1.length : Int) := od_
        obtain ⟨ad409, A409_0, c409_0, e409, hx409_0, hl409_0, hi409_0⟩ := at_T122 HR1_1.out x6_2 p409 q409
        have hw409_0 := hx409_0
        obtain rfl : ad402 = ad409 := (by injection e409)
        replace hx409_0 := (HB.out.cell (World.block_lt_of_cell? _ _ hx409_0)).trans hx409_0
        have HR409_0 := am_ hi409_0
        have HC409_0 := am_ hl409_0
        clear hi409_0 hl409_0
        replace p409 := eq_true p409
        replace q409 := eq_true q409
        have p410 : 0 ≤ (x7_3 : Int) := od_
        have q410 : x7_3 < (((rd_T122 l1_1 x6_2).f0).length : Int) := od_
        obtain ⟨ad410, e410, hx410_0⟩ := Kd.at_string HR409_0.out x7_3 p410 q410
        have hw410_0 := hx410_0
        cases e410
        replace hx410_0 := (HB.out.cell (World.block_lt_of_cell? _ _ hx410_0)).trans hx410_0
        replace p410 := eq_true p410
        replace q410 := eq_true q410
        refine start_ (n := 14) (S := fun w' => w'.cell? ⟨gb392, 0, none⟩ = some (.int .i64 a0_0) ∧ w'.cell? ⟨gb392, 1, none⟩ = some (.int .i64 a0_1) ∧ w'.cell? ⟨gb392, 2, none⟩ = some (.int .i64 a0_2) ∧ w'.cell? ⟨gb392, 3, none⟩ = some (.int .i64 a0_3) ∧ w'.cell? ⟨gb393, 0, none⟩ = some (.string a1_0) ∧ w'.cell? ⟨gb393, 1, none⟩ = some (.slice (some ad402) l1_1.length c1_1) ∧ w'.cell? (ad402.add (x6_2).toNat) = some (.slice (some ad410) ((rd_T122 l1_1 x6_2).f0).length c409_0) ∧ w'.cell? (ad410.add (x7_3).toNat) = some (.string (rdOf ByteArray.empty ((rd_T122 l1_1 x6_2).f0) x7_3))) (ds := []) (bs 14 0) (by kernel_rfl) rfl rfl ⟨(blk_cell BK392.out 0).trans rfl, (blk_cell BK392.out 1).trans rfl, (blk_cell BK392.out 2).trans rfl, (blk_cell BK392.out 3).trans rfl, (blk_cell BK393.out 0).trans rfl, (blk_cell BK393.out 1).trans rfl, ((HB.out.cell (World.block_lt_of_cell? _ _ hw409_0)).trans hw409_0), ((HB.out.cell (World.block_lt_of_cell? _ _ hw410_0)).trans hw410_0)⟩ (fun hHeld => ?_); refine with_tabW F45.tab13 F45.bits13 (fun HT_ HW_ => ?_)
        generalize wr.drew = w49 at BK392 BK393 HB HR409_0 hx409_0 hx410_0 hHeld ⊢
        refine pu_ 0 52 (bs 14 1) HT_ ?_ rfl rfl
        refine pu_ 2 54 (bs 14 5) HT_ ?_ rfl rfl
        refine pu_ 4 56 (bs 14 21) HT_ ?_ rfl rfl
        refine pu_ 8 60 (bs 14 277) HT_ ?_ rfl rfl
        refine tk_ 1 53 (bs 14 279) HT_ HW_ hHeld au3_4 ?_ rfl rfl
        refine tk_ 3 55 (bs 14 287) HT_ HW_ hHeld au3_4 ?_ rfl rfl
        refine pu_ 5 57 (bs 14 319) HT_ ?_ rfl rfl
        refine pu_ 6 58 (bs 14 383) HT_ ?_ rfl rfl
        refine tk_ 7 59 (bs 14 511) HT_ HW_ hHeld au3_4 ?_ rfl rfl
        refine pu_ 9 61 (bs 14 1023) HT_ ?_ rfl rfl
        refine tk_ 10 62 (bs 14 2047) HT_ HW_ hHeld au3_4 ?_ rfl rfl
        refine one_ (i := 11) (N := some 63) (bs 14 4095) rfl rfl (one_of HT_.out (by kernel_rfl)) (by decide) (fun K hK => ?_)
        refine gr_ Try.func80 #[.agg #[.int .i64 a0_0, .int .i64 a0_1, .int .i64 a0_2, .int .i64 a0_3], .string (rdOf ByteArray.empty ((rd_T122 l1_1 x6_2).f0) x7_3)] (by rfl) ?_ rfl rfl rfl
        with_reducible refine (F80.calls k3 a0_0 a0_1 a0_2 a0_3 (rdOf ByteArray.empty ((rd_T122 l1_1 x6_2).f0) x7_3) t411 _ A45.out).mono ?_
        rintro e w50 ⟨rfl, hb⟩
        refine ⟨_, rfl, ?_⟩
        replace BK392 := bb_ BK392 hb
        replace BK393 := bb_ BK393 hb
        replace HB := hs_ w hb
        (try clear hb)
        (try clear hb2)
        (try clear hk)
        (try clear hi)
        refine hK.out _ _ ⟨(blk_cell BK392.out 0).trans rfl, (blk_cell BK392.out 1).trans rfl, (blk_cell BK392.out 2).trans rfl, (blk_cell BK392.out 3).trans rfl, (blk_cell BK393.out 0).trans rfl, (blk_cell BK393.out 1).trans rfl, ((HB.out.cell (World.block_lt_of_cell? _ _ hw409_0)).trans hw409_0), ((HB.out.cell (World.block_lt_of_cell? _ _ hw410_0)).trans hw410_0)⟩ (fun hHeld => ?_)
        clear hK K
        refine no_ 63 ?_
        refine pu_ 12 64 (bs 14 8191) HT_ ?_ rfl rfl
        refine pu_ 13 5 (bs 14 16383) HT_ ?_ rfl rfl
        refine done_ (done_of HT_.out (by kernel_rfl)) ?_
        try go_wp2
        go_roundg k3
        case measure => have := HJ2.out; have := HK2.out; have := HK3.out; omega
        case rel => exact ⟨(x5_3 ++ t411), (wrap64 (x7_3 + 1)), er_, er_, H', ⟨au3_14⟩, ⟨bk_ BK392⟩, ⟨bk_ BK393⟩, ⟨bl_⟩⟩
       obtain ⟨y403, hy403⟩ : ∃ y_ : List Int, y_ = (([(a0_2) % 256] : List Int)) := ⟨_, rfl⟩
       replace H : (if x5_3.size + (strOfNums y403).size ≤ 9223372036854775807 then (if 0 ≤ x7_3 then ((F80.f k3 a0_0 a0_1 a0_2 a0_3 (rdOf ByteArray.empty ((rd_T122 l1_1 x6_2).f0) x7_3)).bind fun t408 => (if (x5_3 ++ (strOfNums y403)).size + t408.size ≤ 9223372036854775807 then (F45.l1 k3 ((x5_3 ++ (strOfNums y403)) ++ t408) x6_2 (wrap64 (x7_3 + 1)) a0_0 a0_1 a0_2 a0_3 a1_0 l1_1) else (none))) else (none)) else (none)) = some r := by first | (rw [hy403]; exact H) | exact H
       have Ny403 := am_ hy403
       clear hy403
       by_cases c32 : x5_3.size + (strOfNums y403).size ≤ 9223372036854775807
       rotate_left
       ·rw [if_neg c32] at H
        exact absurd H (by simp)
       rw [if_pos c32] at H
       have c32b0 := eq_true c32
       have c32b1 : decide (x5_3.size + (strOfNums y403).size ≤ 9223372036854775807) = true := decide_eq_true c32
       try have c32b2 : (9223372036854775807 < x5_3.size + (strOfNums y403).size) = False := eq_false (Nat.not_lt.2 c32)
       replace H := itn_ H; rcases H with ⟨c33b0, H⟩
       replace H := bi_ H; rcases H with ⟨t408, A34, H⟩
       by_cases c35 : (x5_3 ++ (strOfNums y403)).size + t408.size ≤ 9223372036854775807
       rotate_left
       ·rw [if_neg c35] at H
        exact absurd H (by simp)
       rw [if_pos c35] at H
       have c35b0 := eq_true c35
       have c35b1 : decide ((x5_3 ++ (strOfNums y403)).size + t408.size ≤ 9223372036854775807) = true := decide_eq_true c35
       try have c35b2 : (9223372036854775807 < (x5_3 ++ (strOfNums y403)).size + t408.size) = False := eq_false (Nat.not_lt.2 c35)
       try (have c35b3 := c35b2; simp only [ByteArray.size_append] at c35b3)
       have H' := am_ H
       clear H
       have hnb36 := NB393_392.out
       have hnc36 := NB392_393.out
       obtain ⟨hcz37_0, hcz37_1, hfz37_0, hfz37_1⟩ := cellsF2 BK393.out
       have p402 : 0 ≤ (x6_2 : Int) := od_
       have q402 : x6_2 < (l1_1.length : Int) := od_
       obtain ⟨ad402, A402_0, c402_0, e402, hx402_0, hl402_0, hi402_0⟩ := at_T122 HR1_1.out x6_2 p402 q402
       cases e402
       replace hx402_0 := (HB.out.cell (World.block_lt_of_cell? _ _ hx402_0)).trans hx402_0
       have HR402_0 := am_ hi402_0
       have HC402_0 := am_ hl402_0
       clear hi402_0 hl402_0
       replace p402 := eq_true p402
       replace q402 := eq_true q402
       obtain ⟨hcz38_0, hcz38_1, hcz38_2, hcz38_3, hfz38_0, hfz38_1, hfz38_2, hfz38_3⟩ := cellsF4 BK392.out
       try go_wp2_with (first | ((with_reducible refine gate_dst (N := 49) rfl ?_); refine Kd.R_lit (Kd.int .u8) _ 5 ?hg (N := 49) ?hd (xs := ([(a0_2) % 256] : List Int)) (inner := [.int .u8 ((a0_2) % 256)]) (ok := fun _ => True) (okp := fun _ => True) ?hr ?hp (fun _ hk => hk) trivial (Below.refl _ _) (Nat.le_refl _) (by simp) ?_; (case hd => rfl); (case hg => rfl); (case hr => exact hr_); (case hp => exact (Reps.one (show Kd.M (Kd.int .u8) _ _ _ ((a0_2) % 256) [.int .u8 ((a0_2) % 256)] from rfl) (Reps.none _ _))); intro v404 w39 ho40 hb hg_ hnew_; clear hg_ hnew_; (first | rw [← Ny403.out] at ho40 | (simp only [Int.reduceToNat] at ho40; rw [← Ny403.out] at ho40)); have HO405 := am_ (Kd.R_lower ho40 (below_size bl_)); replace BK392 := bb_ BK392 hb; replace BK393 := bb_ BK393 hb; replace HB := hs_ w hb; clear hb ho40; have hcv41 := own_string (P := Try.prog) Try.underlying43 Try.underlying5 Try.underlying9 (Kd.own_of_R HO405.out)))
       replace HO405 := am_ (Kd.R_drew HO405.out)
       replace BK392 := bd_ BK392
       replace BK393 := bd_ BK393
       replace HB := am_ (below_drew1 HB.out)
       have p406 : 0 ≤ (x6_2 : Int) := od_
       have q406 : x6_2 < (l1_1.length : Int) := od_
       obtain ⟨ad406, A406_0, c406_0, e406, hx406_0, hl406_0, hi406_0⟩ := at_T122 HR1_1.out x6_2 p406 q406
       have hw406_0 := hx406_0
       obtain rfl : ad402 = ad406 := (by injection e406)
       replace hx406_0 := (HB.out.cell (World.block_lt_of_cell? _ _ hx406_0)).trans hx406_0
       have HR406_0 := am_ hi406_0
       have HC406_0 := am_ hl406_0
       clear hi406_0 hl406_0
       replace p406 := eq_true p406
       replace q406 := eq_true q406
       have p407 : 0 ≤ (x7_3 : Int) := od_
       have q407 : x7_3 < (((rd_T122 l1_1 x6_2).f0).length : Int) := od_
       obtain ⟨ad407, e407, hx407_0⟩ := Kd.at_string HR406_0.out x7_3 p407 q407
       have hw407_0 := hx407_0
       cases e407
       replace hx407_0 := (HB.out.cell (World.block_lt_of_cell? _ _ hx407_0)).trans hx407_0
       replace p407 := eq_true p407
       replace q407 := eq_true q407
       refine start_ (n := 14) (S := fun w' => w'.cell? ⟨gb392, 0, none⟩ = some (.int .i64 a0_0) ∧ w'.cell? ⟨gb392, 1, none⟩ = some (.int .i64 a0_1) ∧ w'.cell? ⟨gb392, 2, none⟩ = some (.int .i64 a0_2) ∧ w'.cell? ⟨gb392, 3, none⟩ = some (.int .i64 a0_3) ∧ w'.cell? ⟨gb393, 0, none⟩ = some (.string a1_0) ∧ w'.cell? ⟨gb393, 1, none⟩ = some (.slice (some ad402) l1_1.length c1_1) ∧ w'.cell? (ad402.add (x6_2).toNat) = some (.slice (some ad407) ((rd_T122 l1_1 x6_2).f0).length c406_0) ∧ w'.cell? (ad407.add (x7_3).toNat) = some (.string (rdOf ByteArray.empty ((rd_T122 l1_1 x6_2).f0) x7_3))) (ds := []) (bs 14 0) (by kernel_rfl) rfl rfl ⟨(blk_cell BK392.out 0).trans rfl, (blk_cell BK392.out 1).trans rfl, (blk_cell BK392.out 2).trans rfl, (blk_cell BK392.out 3).trans rfl, (blk_cell BK393.out 0).trans rfl, (blk_cell BK393.out 1).trans rfl, ((HB.out.cell (World.block_lt_of_cell? _ _ hw406_0)).trans hw406_0), ((HB.out.cell (World.block_lt_of_cell? _ _ hw407_0)).trans hw407_0)⟩ (fun hHeld => ?_); refine with_tabW F45.tab13 F45.bits13 (fun HT_ HW_ => ?_)
       generalize w39.drew = w42 at HO405 BK392 BK393 HB HR406_0 hx406_0 hx407_0 hHeld ⊢
       refine pu_ 0 52 (bs 14 1) HT_ ?_ rfl rfl
       refine pu_ 2 54 (bs 14 5) HT_ ?_ rfl rfl
       refine pu_ 4 56 (bs 14 21) HT_ ?_ rfl rfl
       refine pu_ 8 60 (bs 14 277) HT_ ?_ rfl rfl
       refine tk_ 1 53 (bs 14 279) HT_ HW_ hHeld au3_4 ?_ rfl rfl
       refine tk_ 3 55 (bs 14 287) HT_ HW_ hHeld au3_4 ?_ rfl rfl
       refine pu_ 5 57 (bs 14 319) HT_ ?_ rfl rfl
       refine pu_ 6 58 (bs 14 383) HT_ ?_ rfl rfl
       refine tk_ 7 59 (bs 14 511) HT_ HW_ hHeld au3_4 ?_ rfl rfl
       refine pu_ 9 61 (bs 14 1023) HT_ ?_ rfl rfl
       refine tk_ 10 62 (bs 14 2047) HT_ HW_ hHeld au3_4 ?_ rfl rfl
       refine one_ (i := 11) (N := some 63) (bs 14 4095) rfl rfl (one_of HT_.out (by kernel_rfl)) (by decide) (fun K hK => ?_)
       refine gr_ Try.func80 #[.agg #[.int .i64 a0_0, .int .i64 a0_1, .int .i64 a0_2, .int .i64 a0_3], .string (rdOf ByteArray.empty ((rd_T122 l1_1 x6_2).f0) x7_3)] (by rfl) ?_ rfl rfl rfl
       with_reducible refine (F80.calls k3 a0_0 a0_1 a0_2 a0_3 (rdOf ByteArray.empty ((rd_T122 l1_1 x6_2).f0) x7_3) t408 _ A34.out).mono ?_
       rintro e w43 ⟨rfl, hb⟩
       refine ⟨_, rfl, ?_⟩
       replace HO405 := am_ (Kd.R_below (rk_ HO405) hb)
       replace BK392 := bb_ BK392 hb
       replace BK393 := bb_ BK393 hb
       replace HB := hs_ w hb
       (try clear hb)
       (try clear hb2)
       (try clear hk)
       (try clear hi)
       refine hK.out _ _ ⟨(blk_cell BK392.out 0).trans rfl, (blk_cell BK392.out 1).trans rfl, (blk_cell BK392.out 2).trans rfl, (blk_cell BK392.out 3).trans rfl, (blk_cell BK393.out 0).trans rfl, (blk_cell BK393.out 1).trans rfl, ((HB.out.cell (World.block_lt_of_cell? _ _ hw406_0)).trans hw406_0), ((HB.out.cell (World.block_lt_of_cell? _ _ hw407_0)).trans hw407_0)⟩ (fun hHeld => ?_)
       clear hK K
       refine no_ 63 ?_
       refine pu_ 12 64 (bs 14 8191) HT_ ?_ rfl rfl
       refine pu_ 13 5 (bs 14 16383) HT_ ?_ rfl rfl
       refine done_ (done_of HT_.out (by kernel_rfl)) ?_
       try go_wp2
       go_roundg k3
       case measure => have := HJ2.out; have := HK2.out; have := HK3.out; omega
       case rel => exact ⟨((x5_3 ++ (strOfNums y403)) ++ t408), (wrap64 (x7_3 + 1)), er_, er_, H', ⟨au3_14⟩, ⟨bk_ BK392⟩, ⟨bk_ BK393⟩, ⟨bl_⟩⟩
/-! ### F19: function 19 -/
mutual
def F19.j0 : Nat → List (S88) → ByteArray → Bool → Int → Int → Int → Int → Option (ByteArray)
  | 0, _, _, _, _, _, _, _ => none
  | k + 1, x1, x5, x14, x413000, x413001, x413002, x413003 => if x14 = true then (some x5) else (F19.l0 k x1 x5 0 x413000 x413001 x413002 x413003)
def F19.l0 : Nat → List (S88) → ByteArray → Int → Int → Int → Int → Int → Option (ByteArray)
  | 0, _, _, _, _, _, _, _ => none
  | k + 1, x1, x5, x6, x413000, x413001, x413002, x413003 => if x6 < (x1.length : Int) then (if 0 ≤ x6 then ((F44.f k ((rd_T88 x1 x6).f0) ((rd_T88 x1 x6).f1)).bind fun t415 => (if t415 = true then ((F45.f k x413000 x413001 x413002 x413003 ((rd_T88 x1 x6).f0) ((rd_T88 x1 x6).f1)).bind fun t417 => (if x5.size + t417.size ≤ 9223372036854775807 then (F19.l0 k x1 (x5 ++ t417) (wrap64 (x6 + 1)) x413000 x413001 x413002 x413003) else (none))) else (some (⟨#[]⟩ : ByteArray)))) else (none)) else (if (x5.size : Int) > 20000 then (some (⟨#[]⟩ : ByteArray)) else (some x5))
end
def F19.f (k : Nat) (a0_0 : Int) (a0_1 : Int) (a0_2 : Int) (a0_3 : Int) (l1 : List (S88)) : Option (ByteArray) := (F43.f k a0_0 a0_1 a0_2 a0_3).bind fun t413 => (if t413 = true then (F19.j0 k l1 (⟨#[]⟩ : ByteArray) (decide ((l1.length : Int) > 200)) a0_0 a0_1 a0_2 a0_3) else (F19.j0 k l1 (⟨#[]⟩ : ByteArray) true a0_0 a0_1 a0_2 a0_3))
theorem F19.mono_l : ∀ k, (∀ y0 y1 y2 y3 y4 y5 y6, LeO (F19.j0 k y0 y1 y2 y3 y4 y5 y6) (F19.j0 (k + 1) y0 y1 y2 y3 y4 y5 y6)) ∧ (∀ y0 y1 y2 y3 y4 y5 y6, LeO (F19.l0 k y0 y1 y2 y3 y4 y5 y6) (F19.l0 (k + 1) y0 y1 y2 y3 y4 y5 y6))
 | 0 => ⟨fun _ _ _ _ _ _ _ r h => by simp [F19.j0] at h, fun _ _ _ _ _ _ _ r h => by simp [F19.l0] at h⟩
 | k + 1 => by
  obtain ⟨ih0, ih1⟩ := F19.mono_l k
  refine ⟨?_, ?_⟩
  rotate_left
  ·intro y0 y1 y2 y3 y4 y5 y6
   unfold F19.l0
   repeat' with_reducible first | exact ih0 _ _ _ _ _ _ _ | exact ih1 _ _ _ _ _ _ _ | exact F44.mono _ _ _ | exact F45.mono _ _ _ _ _ _ _ | exact F43.mono _ _ _ _ _ | exact LeO.refl _ | exact LeO.none _ | refine LeO.ite ?_ ?_ | refine LeO.bind ?_ (fun _ => ?_)
  intro y0 y1 y2 y3 y4 y5 y6
  unfold F19.j0
  repeat' with_reducible first | exact ih0 _ _ _ _ _ _ _ | exact ih1 _ _ _ _ _ _ _ | exact F44.mono _ _ _ | exact F45.mono _ _ _ _ _ _ _ | exact F43.mono _ _ _ _ _ | exact LeO.refl _ | exact LeO.none _ | refine LeO.ite ?_ ?_ | refine LeO.bind ?_ (fun _ => ?_)
theorem F19.mono : ∀ a0 a1 a2 a3 a4 k, LeO (F19.f k a0 a1 a2 a3 a4) (F19.f (k + 1) a0 a1 a2 a3 a4) := by
 intro a0 a1 a2 a3 a4 k
 obtain ⟨ih0, ih1⟩ := F19.mono_l k
 unfold F19.f
 repeat' with_reducible first | exact ih0 _ _ _ _ _ _ _ | exact ih1 _ _ _ _ _ _ _ | exact F44.mono _ _ _ | exact F45.mono _ _ _ _ _ _ _ | exact F43.mono _ _ _ _ _ | exact LeO.refl _ | exact LeO.none _ | refine LeO.ite ?_ ?_ | refine LeO.bind ?_ (fun _ => ?_)
def F19.T9 : Bool × List (List Nat × List Nat) := (true, [([], []), ([], []), ([], []), ([], []), ([2, 3], [2, 3]), ([4], [4]), ([1, 5], [1, 5]), ([0, 6], [0, 6]), ([7, 6, 0, 1, 2, 3, 4, 5, 6, 7], [0, 7])])
def F19.B9 : List Nat := [0, 0, 0, 0, 12, 28, 62, 127, 255]
theorem F19.tab9 : rtab .any (opsOf Try.f19 9) = F19.T9 := by kernel_rfl
theorem F19.bits9 : waitsOk F19.T9.2 F19.B9 = true := by kernel_rfl
theorem F19.calls (k : Nat) (a0_0 : Int) (a0_1 : Int) (a0_2 : Int) (a0_3 : Int) (A1 : Option Addr) (c1 : Nat) (l1 : List (S88)) (r : ByteArray) (w : World) (hr1 : Kd.C k88 w A1 l1.length l1) (hc1 : l1.length ≤ c1) (h : F19.f k a0_0 a0_1 a0_2 a0_3 l1 = some r) :
  Calls Try.prog 19 #[.agg #[.int .i64 a0_0, .int .i64 a0_1, .int .i64 a0_2, .int .i64 a0_3], .slice A1 l1.length c1] w fun e w' => e = .returned (.string r) ∧ Below w.heap.size w w' := by
 have hu45 := Try.underlying45
 have hu88 := Try.underlying88
 have HR1 := am_ hr1
 have HC1 := am_ hc1
 clear hr1 hc1
 have HB := am_ (Below.refl w.heap.size w)
 have H : ((F43.f k a0_0 a0_1 a0_2 a0_3).bind fun t413 => (if t413 = true then (F19.j0 k l1 (⟨#[]⟩ : ByteArray) (decide ((l1.length : Int) > 200)) a0_0 a0_1 a0_2 a0_3) else (F19.j0 k l1 (⟨#[]⟩ : ByteArray) true a0_0 a0_1 a0_2 a0_3))) = some r := h
 clear h
 have HC3 := am_ H
 clear H
 go_enter Try.func19, Try.ntmps19
 go_upto_region 2 with (first | ((with_reducible refine gate_dst (N := 2) rfl ?_); (try (refine gate_guard (by rfl) ?_; dsimp only)); refine be_ 2 #[.int .i64 a0_0, .int .i64 a0_1, .int .i64 a0_2, .int .i64 a0_3] 45 ?_; intro gb412 hg w4 hbox hb; have BK412 := am_ (hbox); have GW412 := am_ (gw_ hg bl_); have GE412 := GW412; replace HB := hs_ w hb; clear hb hbox hg))
 (try simp only [Act.put, List.setIfInBounds_toArray, List.set_cons_zero, List.set_cons_succ])
 go_cut [14] (fun v14 wc => ∃ (kq : Nat) (x14_2 : Bool), v14 = .bool x14_2 ∧ Aside0 (F19.j0 kq l1 (⟨#[]⟩ : ByteArray) x14_2 a0_0 a0_1 a0_2 a0_3 = some r) ∧ Aside0 (kq ≤ k) ∧ Aside0 (wc.heap[gb412]? = some (.cells #[.int .i64 a0_0, .int .i64 a0_1, .int .i64 a0_2, .int .i64 a0_3] 45 (0, 0))) ∧ Aside0 (Below w.heap.size w wc))
 case first =>
  have H := HC3.out
  clear HC3
  replace H := bi_ H; rcases H with ⟨t413, A5, H⟩
  replace H := ib_ H; rcases H with ⟨rfl, H⟩ | ⟨rfl, H⟩
  rotate_left
  ·have H' := am_ H
   clear H
   obtain ⟨hcz9_0, hcz9_1, hcz9_2, hcz9_3, hfz9_0, hfz9_1, hfz9_2, hfz9_3⟩ := cellsF4 BK412.out
   go_wp2_with (first | ((with_reducible refine gate_callee (f := 43) rfl ?_); refine gl_ 8 Try.func43 #[.agg #[.int .i64 a0_0, .int .i64 a0_1, .int .i64 a0_2, .int .i64 a0_3]] ?_ rfl rfl rfl rfl; (with_reducible refine (F43.calls k a0_0 a0_1 a0_2 a0_3 false _ A5.out).mono ?_); rintro e w10 ⟨rfl, hb⟩; refine ⟨_, rfl, ?_⟩; replace BK412 := bb_ BK412 hb; replace HB := hs_ w hb; (try clear hb)))
   go_meet
   case rel => exact ⟨_, (true), er_, H', ⟨au3_15⟩, ⟨bk_ BK412⟩, ⟨bl_⟩⟩
  have H' := am_ H
  clear H
  obtain ⟨hcz7_0, hcz7_1, hcz7_2, hcz7_3, hfz7_0, hfz7_1, hfz7_2, hfz7_3⟩ := cellsF4 BK412.out
  go_wp2_with (first | ((with_reducible refine gate_callee (f := 43) rfl ?_); refine gl_ 8 Try.func43 #[.agg #[.int .i64 a0_0, .int .i64 a0_1, .int .i64 a0_2, .int .i64 a0_3]] ?_ rfl rfl rfl rfl; (with_reducible refine (F43.calls k a0_0 a0_1 a0_2 a0_3 true _ A5.out).mono ?_); rintro e w8 ⟨rfl, hb⟩; refine ⟨_, rfl, ?_⟩; replace BK412 := bb_ BK412 hb; replace HB := hs_ w hb; (try clear hb)))
  go_meet
  case rel => exact ⟨_, (decide ((l1.length : Int) > 200)), er_, H', ⟨au3_15⟩, ⟨bk_ BK412⟩, ⟨bl_⟩⟩
 case rest =>
  clear HC3
  try clear c1
  try clear hcz7_0 hcz7_1 hcz7_2 hcz7_3
  try clear hcz9_0 hcz9_1 hcz9_2 hcz9_3
  try clear hfz7_0 hfz7_1 hfz7_2 hfz7_3
  try clear hfz9_0 hfz9_1 hfz9_2 hfz9_3
  obtain ⟨kq, x14_2, rfl, HA, HJ2, BK412, HB⟩ := hcut
  cases kq with
  | zero => exact absurd HA.out (by simp [F19.j0])
  | succ kj2 =>
   have H := HA.out
   clear HA
   simp only [F19.j0] at H
   replace H := ib_ H; rcases H with ⟨rfl, H⟩ | ⟨rfl, H⟩
   ·obtain rfl := Option.some.inj H
    go_wp2
    go_ret
    exact ⟨au3_0, bl_⟩
   have H' := am_ H
   clear H
   go_wp2
   go_loopg [5, 6] kj2 (fun kq v5 v6 w' => ∃ (x5_2 : ByteArray) (x6_2 : Int), v5 = .string x5_2 ∧ v6 = .int .i64 x6_2 ∧ Aside0 (F19.l0 kq l1 x5_2 x6_2 a0_0 a0_1 a0_2 a0_3 = some r) ∧ Aside0 (kq ≤ kj2) ∧ Aside0 (w'.heap[gb412]? = some (.cells #[.int .i64 a0_0, .int .i64 a0_1, .int .i64 a0_2, .int .i64 a0_3] 45 (0, 0))) ∧ Aside0 (Below w.heap.size w w'))
   case atStart => exact ⟨((⟨#[]⟩ : ByteArray)), (0), er_, er_, H', ⟨Nat.le_refl _⟩, ⟨bk_ BK412⟩, ⟨bl_⟩⟩
   case round =>
    clear H'
    try clear c1
    try clear hcz7_0 hcz7_1 hcz7_2 hcz7_3
    try clear hcz9_0 hcz9_1 hcz9_2 hcz9_3
    try clear hfz7_0 hfz7_1 hfz7_2 hfz7_3
    try clear hfz9_0 hfz9_1 hfz9_2 hfz9_3
    obtain ⟨x5_2, x6_2, rfl, rfl, HA, HK2, BK412, HB⟩ := hrel
    cases gk with
    | zero => exact absurd HA.out (by simp [F19.l0])
    | succ k2 =>
     have H := HA.out
     clear HA
     simp only [F19.l0] at H
     replace H := it_ H; rcases H with ⟨c12b0, H⟩ | ⟨c12b0, H⟩
     rotate_left
     ·replace H := it_ H; rcases H with ⟨(c22b0 : decide (20000 < (x5_2.size : Int)) = true), H⟩ | ⟨(c22b0 : decide (20000 < (x5_2.size : Int)) = false), H⟩
      ·have c22b1 : decide (20000 < x5_2.size) = true := n2_ c22b0
       obtain rfl := Option.some.inj H
       go_wp2
       go_ret
       exact ⟨au3_0, bl_⟩
      have c22b1 : decide (20000 < x5_2.size) = false := n2_ c22b0
      obtain rfl := Option.some.inj H
      go_wp2
      go_ret
      exact ⟨au3_0, bl_⟩

     replace H := itn_ H; rcases H with ⟨c13b0, H⟩
     replace H := bi_ H; rcases H with ⟨t415, A14, H⟩
     replace H := ib_ H; rcases H with ⟨rfl, H⟩ | ⟨rfl, H⟩
     rotate_left
     ·obtain rfl := Option.some.inj H
      have p414 : 0 ≤ (x6_2 : Int) := od_
      have q414 : x6_2 < (l1.length : Int) := od_
      obtain ⟨ad414, A414_1, c414_1, e414, hx414_0, hx414_1, hl414_1, hi414_1⟩ := at_T88 HR1.out x6_2 p414 q414
      cases e414
      replace hx414_0 := (HB.out.cell (World.block_lt_of_cell? _ _ hx414_0)).trans hx414_0
      replace hx414_1 := (HB.out.cell (World.block_lt_of_cell? _ _ hx414_1)).trans hx414_1
      have HR414_1 := am_ hi414_1
      have HC414_1 := am_ hl414_1
      clear hi414_1 hl414_1
      replace p414 := eq_true p414
      replace q414 := eq_true q414
      go_wp2_with (first | ((with_reducible refine gate_callee (f := 44) rfl ?_); refine gl_ 26 Try.func44 #[.agg #[.string ((rd_T88 l1 x6_2).f0), .slice A414_1 ((rd_T88 l1 x6_2).f1).length c414_1]] ?_ rfl rfl rfl rfl; (with_reducible refine (F44.calls k2 ((rd_T88 l1 x6_2).f0) _ _ ((rd_T88 l1 x6_2).f1) false _ ?s1 ?s2 A14.out).mono ?_); (case s1 => exact au3_8); (case s2 => exact HC414_1.out); rintro e w21 ⟨rfl, hb⟩; refine ⟨_, rfl, ?_⟩; replace BK412 := bb_ BK412 hb; replace HB := hs_ w hb; (try clear hb)))
      go_ret
      exact ⟨au3_0, bl_⟩
     replace H := bi_ H; rcases H with ⟨t417, A16, H⟩
     by_cases c17 : x5_2.size + t417.size ≤ 9223372036854775807
     rotate_left
     ·rw [if_neg c17] at H
      exact absurd H (by simp)
     rw [if_pos c17] at H
     have c17b0 := eq_true c17
     have c17b1 : decide (x5_2.size + t417.size ≤ 9223372036854775807) = true := decide_eq_true c17
     try have c17b2 : (9223372036854775807 < x5_2.size + t417.size) = False := eq_false (Nat.not_lt.2 c17)
     have H' := am_ H
     clear H
     have p414 : 0 ≤ (x6_2 : Int) := od_
     have q414 : x6_2 < (l1.length : Int) := od_
     obtain ⟨ad414, A414_1, c414_1, e414, hx414_0, hx414_1, hl414_1, hi414_1⟩ := at_T88 HR1.out x6_2 p414 q414
     cases e414
     replace hx414_0 := (HB.out.cell (World.block_lt_of_cell? _ _ hx414_0)).trans hx414_0
     replace hx414_1 := (HB.out.cell (World.block_lt_of_cell? _ _ hx414_1)).trans hx414_1
     have HR414_1 := am_ hi414_1
     have HC414_1 := am_ hl414_1
     clear hi414_1 hl414_1
     replace p414 := eq_true p414
     replace q414 := eq_true q414
     try go_wp2_with (first | ((with_reducible refine gate_callee (f := 44) rfl ?_); refine gl_ 26 Try.func44 #[.agg #[.string ((rd_T88 l1 x6_2).f0), .slice A414_1 ((rd_T88 l1 x6_2).f1).length c414_1]] ?_ rfl rfl rfl rfl; (with_reducible refine (F44.calls k2 ((rd_T88 l1 x6_2).f0) _ _ ((rd_T88 l1 x6_2).f1) true _ ?s1 ?s2 A14.out).mono ?_); (case s1 => exact au3_8); (case s2 => exact HC414_1.out); rintro e w18 ⟨rfl, hb⟩; refine ⟨_, rfl, ?_⟩; replace BK412 := bb_ BK412 hb; replace HB := hs_ w hb; (try clear hb)))
     replace BK412 := bd_ BK412
     replace HB := am_ (below_drew1 HB.out)
     have p416 : 0 ≤ (x6_2 : Int) := od_
     have q416 : x6_2 < (l1.length : Int) := od_
     obtain ⟨ad416, A416_1, c416_1, e416, hx416_0, hx416_1, hl416_1, hi416_1⟩ := at_T88 HR1.out x6_2 p416 q416
     have hw416_1 := hx416_1
     have hw416_0 := hx416_0
     obtain rfl : ad414 = ad416 := (by injection e416)
     replace hx416_0 := (HB.out.cell (World.block_lt_of_cell? _ _ hx416_0)).trans hx416_0
     replace hx416_1 := (HB.out.cell (World.block_lt_of_cell? _ _ hx416_1)).trans hx416_1
     have HR416_1 := am_ hi416_1
     have HC416_1 := am_ hl416_1
     clear hi416_1 hl416_1
     replace p416 := eq_true p416
     replace q416 := eq_true q416
     refine start_ (n := 9) (S := fun w' => w'.cell? ⟨gb412, 0, none⟩ = some (.int .i64 a0_0) ∧ w'.cell? ⟨gb412, 1, none⟩ = some (.int .i64 a0_1) ∧ w'.cell? ⟨gb412, 2, none⟩ = some (.int .i64 a0_2) ∧ w'.cell? ⟨gb412, 3, none⟩ = some (.int .i64 a0_3) ∧ w'.cell? (ad414.add ((x6_2).toNat * 2)) = some (.string ((rd_T88 l1 x6_2).f0)) ∧ w'.cell? ⟨(ad414.add ((x6_2).toNat * 2)).block, (ad414.add ((x6_2).toNat * 2)).off + 1, none⟩ = some (.slice A416_1 ((rd_T88 l1 x6_2).f1).length c416_1)) (ds := []) (bs 9 0) (by kernel_rfl) rfl rfl ⟨(blk_cell BK412.out 0).trans rfl, (blk_cell BK412.out 1).trans rfl, (blk_cell BK412.out 2).trans rfl, (blk_cell BK412.out 3).trans rfl, ((HB.out.cell (World.block_lt_of_cell? _ _ hw416_0)).trans hw416_0), ((HB.out.cell (World.block_lt_of_cell? _ _ hw416_1)).trans hw416_1)⟩ (fun hHeld => ?_); refine with_tabW F19.tab9 F19.bits9 (fun HT_ HW_ => ?_)
     generalize w18.drew = w19 at BK412 HB HR416_1 hx416_0 hx416_1 hHeld ⊢
     refine pu_ 0 28 (bs 9 1) HT_ ?_ rfl rfl
     refine pu_ 2 30 (bs 9 5) HT_ ?_ rfl rfl
     refine pu_ 3 31 (bs 9 13) HT_ ?_ rfl rfl
     refine pu_ 4 32 (bs 9 29) HT_ ?_ rfl rfl
     refine tk_ 1 29 (bs 9 31) HT_ HW_ hHeld (by rintro w' ⟨s0, s1, s2, s3, s4, s5⟩; go_simp; with_reducible rfl) ?_ rfl rfl
     refine tk_ 5 33 (bs 9 63) HT_ HW_ hHeld (by rintro w' ⟨s0, s1, s2, s3, s4, s5⟩; go_simp; with_reducible rfl) ?_ rfl rfl
     refine one_ (i := 6) (N := some 34) (bs 9 127) rfl rfl (one_of HT_.out (by kernel_rfl)) (by decide) (fun K hK => ?_)
     refine gr_ Try.func45 #[.agg #[.int .i64 a0_0, .int .i64 a0_1, .int .i64 a0_2, .int .i64 a0_3], .agg #[.string ((rd_T88 l1 x6_2).f0), .slice A416_1 ((rd_T88 l1 x6_2).f1).length c416_1]] (by rfl) ?_ rfl rfl rfl
     with_reducible refine (F45.calls k2 a0_0 a0_1 a0_2 a0_3 ((rd_T88 l1 x6_2).f0) _ _ ((rd_T88 l1 x6_2).f1) t417 _ ?s1 ?s2 A16.out).mono ?_
     (case s1 => repeat (first | exact (Kd.C_below HR416_1.out HB.out) | (with_reducible refine Kd.C_alloc ?_ _) | (with_reducible refine Kd.C_drewN ?_ _) | (with_reducible refine Kd.C_drew ?_)))
     (case s2 => exact HC416_1.out)
     rintro e w20 ⟨rfl, hb⟩
     refine ⟨_, rfl, ?_⟩
     replace BK412 := bb_ BK412 hb
     replace HB := hs_ w hb
     (try clear hb)
     (try clear hb2)
     (try clear hk)
     (try clear hi)
     refine hK.out _ _ ⟨(blk_cell BK412.out 0).trans rfl, (blk_cell BK412.out 1).trans rfl, (blk_cell BK412.out 2).trans rfl, (blk_cell BK412.out 3).trans rfl, ((HB.out.cell (World.block_lt_of_cell? _ _ hw416_0)).trans hw416_0), ((HB.out.cell (World.block_lt_of_cell? _ _ hw416_1)).trans hw416_1)⟩ (fun hHeld => ?_)
     clear hK K
     refine no_ 34 ?_
     refine pu_ 7 35 (bs 9 255) HT_ ?_ rfl rfl
     refine pu_ 8 5 (bs 9 511) HT_ ?_ rfl rfl
     refine done_ (done_of HT_.out (by kernel_rfl)) ?_
     try go_wp2
     go_roundg k2
     case measure => have := HJ2.out; have := HK2.out; omega
     case rel => exact ⟨(x5_2 ++ t417), (wrap64 (x6_2 + 1)), er_, er_, H', ⟨by have := HJ2.out; have := HK2.out; omega⟩, ⟨bk_ BK412⟩, ⟨bl_⟩⟩
/-! ### F61: function 61 -/
def F61.f (a0 : Int) (a1 : Int) (a2 : Int) : Option (Bool) := if a1 ≤ a0 then (some (decide (a0 ≤ a2))) else (some false)
theorem F61.calls (a0 : Int) (a1 : Int) (a2 : Int) (r : Bool) (w : World) (h : F61.f a0 a1 a2 = some r) :
  Calls Try.prog 61 #[.int .i64 a0, .int .i64 a1, .int .i64 a2] w fun e w' => e = .returned (.bool r) ∧ Drawn0 w w' := by
 have H : (if a1 ≤ a0 then (some (decide (a0 ≤ a2))) else (some false)) = some r := h
 clear h
 replace H := it_ H; rcases H with ⟨c4b0, H⟩ | ⟨c4b0, H⟩
 ·obtain rfl := Option.some.inj H
  go_enter Try.func61, Try.ntmps61
  go_wp2
  go_ret
  exact ⟨er_, dn_⟩
 obtain rfl := Option.some.inj H
 go_enter Try.func61, Try.ntmps61
 go_wp2
 go_ret
 exact ⟨er_, dn_⟩

/-! ### F81: function 81 -/
def F81.f (a0_0 : Int) (a0_1 : Int) (a0_2 : Int) (a0_3 : Int) : Option (List Int) := some (([a0_0, a0_1, a0_2, a0_3] : List Int))
theorem F81.calls (a0_0 : Int) (a0_1 : Int) (a0_2 : Int) (a0_3 : Int) (r : List Int) (w : World) (h : F81.f a0_0 a0_1 a0_2 a0_3 = some r) :
  Calls Try.prog 81 #[.agg #[.int .i64 a0_0, .int .i64 a0_1, .int .i64 a0_2, .int .i64 a0_3]] w fun e w' => ∃ v0_ : Value, e = .returned (v0_) ∧ Kd.R (Kd.int .i64) 2 w' w.heap.size (fun _ => True) v0_ r ∧ Below w.heap.size w w' := by
 have hu45 := Try.underlying45
 have HB := am_ (Below.refl w.heap.size w)
 have H : (some (([a0_0, a0_1, a0_2, a0_3] : List Int))) = some r := h
 clear h
 obtain ⟨y419, hy419⟩ : ∃ y_ : List Int, y_ = (([a0_0, a0_1, a0_2, a0_3] : List Int)) := ⟨_, rfl⟩
 replace H : (some y419) = some r := by first | (rw [hy419]; exact H) | exact H
 have Ny419 := am_ hy419
 clear hy419
 obtain rfl := Option.some.inj H
 go_enter Try.func81, Try.ntmps81
 go_wp2_with (first | ((with_reducible refine gate_dst (N := 1) rfl ?_); refine be_ 1 #[.int .i64 a0_0, .int .i64 a0_1, .int .i64 a0_2, .int .i64 a0_3] 45 ?_; intro gb418 hg w2 hbox hb; have BK418 := am_ (hbox); have GW418 := am_ (gw_ hg bl_); have GE418 := GW418; replace HB := hs_ w hb; clear hb hbox hg; obtain ⟨hcz3_0, hcz3_1, hcz3_2, hcz3_3, hfz3_0, hfz3_1, hfz3_2, hfz3_3⟩ := cellsF4 BK418.out) | ((with_reducible refine gate_dst (N := 11) rfl ?_); refine Kd.R_lit (Kd.int .i64) _ 2 ?hg (N := 11) ?hd (xs := ([a0_0, a0_1, a0_2, a0_3] : List Int)) (inner := [.int .i64 a0_0, .int .i64 a0_1, .int .i64 a0_2, .int .i64 a0_3]) (ok := fun _ => True) (okp := fun _ => True) ?hr ?hp (fun _ hk => hk) trivial (Below.refl _ _) (Nat.le_refl _) (by simp) ?_; (case hd => rfl); (case hg => rfl); (case hr => exact hr_); (case hp => exact au3_1); intro v420 w4 ho5 hb hg_ hnew_; clear hg_ hnew_; (first | rw [← Ny419.out] at ho5 | (simp only [Int.reduceToNat] at ho5; rw [← Ny419.out] at ho5)); have HO421 := am_ (Kd.R_lower ho5 (below_size bl_)); replace BK418 := bb_ BK418 hb; replace HB := hs_ w hb; clear hb ho5))
 go_ret
 exact ⟨_, au3_0, rk_ HO421, bl_⟩

/-! ### F105: function 105 -/
def F105.l0 : Nat → List Int → Int → Int → Int → Option (Int)
  | 0, _, _, _, _ => none
  | k + 1, x0, x1, x7, x8 => if x8 < x7 then (if 0 ≤ x8 then (if x8 < (x0.length : Int) then (if x1 = (rd x0 x8) then (some x8) else (F105.l0 k x0 x1 x7 (wrap64 (x8 + 1)))) else (none)) else (none)) else (some (-1))
def F105.f (k : Nat) (l0 : List Int) (a1 : Int) : Option (Int) := F105.l0 k l0 a1 (l0.length : Int) 0
theorem F105.mono_l : ∀ k, (∀ y0 y1 y2 y3, LeO (F105.l0 k y0 y1 y2 y3) (F105.l0 (k + 1) y0 y1 y2 y3))
 | 0 => fun _ _ _ _ r h => by simp [F105.l0] at h
 | k + 1 => by
  have ih0 := F105.mono_l k
  intro y0 y1 y2 y3
  unfold F105.l0
  repeat' with_reducible first | exact ih0 _ _ _ _ | exact LeO.refl _ | exact LeO.none _ | refine LeO.ite ?_ ?_ | refine LeO.bind ?_ (fun _ => ?_)
theorem F105.mono : ∀ a0 a1 k, LeO (F105.f k a0 a1) (F105.f (k + 1) a0 a1) := by
 intro a0 a1 k
 have ih0 := F105.mono_l k
 unfold F105.f
 repeat' with_reducible first | exact ih0 _ _ _ _ | exact LeO.refl _ | exact LeO.none _ | refine LeO.ite ?_ ?_ | refine LeO.bind ?_ (fun _ => ?_)
theorem F105.calls (k : Nat) (A0 : Option Addr) (c0 : Nat) (l0 : List Int) (a1 : Int) (r : Int) (w : World) (hr0 : Kd.C (Kd.int .i64) w A0 l0.length l0) (hc0 : l0.length ≤ c0) (h : F105.f k l0 a1 = some r) :
  Calls Try.prog 105 #[.slice A0 l0.length c0, .int .i64 a1] w fun e w' => e = .returned (.int .i64 r) ∧ Drawn0 w w' := by
 have HR0 := am_ hr0
 have HC0 := am_ hc0
 clear hr0 hc0
 have H : (F105.l0 k l0 a1 (l0.length : Int) 0) = some r := h
 clear h
 have H' := am_ H
 clear H
 go_enter Try.func105, Try.ntmps105
 go_wp2
 go_loopg [8] k (fun kq v8 w' => ∃ (x8_1 : Int), v8 = .int .i64 x8_1 ∧ Aside0 (F105.l0 kq l0 a1 (l0.length : Int) x8_1 = some r) ∧ Aside0 (kq ≤ k) ∧ Drawn0 w w')
 case atStart => exact ⟨(0), er_, H', ⟨Nat.le_refl _⟩, dn_⟩
 case round =>
  clear H'
  obtain ⟨x8_1, rfl, HA, HK1, ⟨m1, rfl⟩⟩ := hrel
  cases gk with
  | zero => exact absurd HA.out (by simp [F105.l0])
  | succ k1 =>
   have H := HA.out
   clear HA
   simp only [F105.l0] at H
   replace H := it_ H; rcases H with ⟨c3b0, H⟩ | ⟨c3b0, H⟩
   rotate_left
   ·obtain rfl := Option.some.inj H
    go_wp2
    go_ret
    exact ⟨er_, dn_⟩

   replace H := itn_ H; rcases H with ⟨c4b0, H⟩
   replace H := itn_ H; rcases H with ⟨c5b0, H⟩
   by_cases c6 : a1 = (rd l0 x8_1)
   ·rw [if_pos c6] at H
    have c6b0 : (a1 == (rd l0 x8_1)) = true := beq_iff_eq.mpr c6
    have c6b1 : (a1 != (rd l0 x8_1)) = false := bne_eq_false_iff_eq.mpr c6
    clear c6
    obtain rfl := Option.some.inj H
    have p422 : 0 ≤ (x8_1 : Int) := od_
    have q422 : x8_1 < (l0.length : Int) := od_
    obtain ⟨ad422, e422, hx422_0⟩ := Kd.at_int HR0.out x8_1 p422 q422
    cases e422
    replace p422 := eq_true p422
    replace q422 := eq_true q422
    go_wp2
    go_ret
    exact ⟨er_, dn_⟩
   rw [if_neg c6] at H
   have c6b0 : (a1 == (rd l0 x8_1)) = false := beq_eq_false_iff_ne.mpr c6
   have c6b1 : (a1 != (rd l0 x8_1)) = true := bne_iff_ne.mpr c6
   have H' := am_ H
   clear H
   have p422 : 0 ≤ (x8_1 : Int) := od_
   have q422 : x8_1 < (l0.length : Int) := od_
   obtain ⟨ad422, e422, hx422_0⟩ := Kd.at_int HR0.out x8_1 p422 q422
   cases e422
   replace p422 := eq_true p422
   replace q422 := eq_true q422
   go_wp2
   go_roundg k1
   case measure => have := HK1.out; omega
   case rel => exact ⟨(wrap64 (x8_1 + 1)), er_, H', ⟨by have := HK1.out; omega⟩, dn_⟩
/-! ### F82: function 82 -/
def F82.f (k : Nat) (l0 : List Int) (a1 : Int) : Option (Bool) := (F105.f k l0 a1).bind fun t423 => (some (decide (t423 ≥ 0)))
theorem F82.mono : ∀ a0 a1 k, LeO (F82.f k a0 a1) (F82.f (k + 1) a0 a1) := by
 intro a0 a1 k
 unfold F82.f
 repeat' with_reducible first | exact F105.mono _ _ _ | exact LeO.refl _ | exact LeO.none _ | refine LeO.ite ?_ ?_ | refine LeO.bind ?_ (fun _ => ?_)
theorem F82.calls (k : Nat) (A0 : Option Addr) (c0 : Nat) (l0 : List Int) (a1 : Int) (r : Bool) (w : World) (hr0 : Kd.C (Kd.int .i64) w A0 l0.length l0) (hc0 : l0.length ≤ c0) (h : F82.f k l0 a1 = some r) :
  Calls Try.prog 82 #[.slice A0 l0.length c0, .int .i64 a1] w fun e w' => e = .returned (.bool r) ∧ Drawn0 w w' := by
 have HR0 := am_ hr0
 have HC0 := am_ hc0
 clear hr0 hc0
 have H : ((F105.f k l0 a1).bind fun t423 => (some (decide (t423 ≥ 0)))) = some r := h
 clear h
 replace H := bi_ H; rcases H with ⟨t423, A3, H⟩
 obtain rfl := Option.some.inj H
 go_enter Try.func82, Try.ntmps82
 go_wp2_with (first | ((with_reducible refine gate_callee (f := 105) rfl ?_); refine gl_ 7 Try.func105 #[.slice A0 l0.length c0, .int .i64 a1] ?_ rfl rfl rfl rfl; (with_reducible refine (F105.calls k _ _ l0 a1 t423 _ ?s1 ?s2 A3.out).mono ?_); (case s1 => exact au3_3); (case s2 => exact HC0.out); rintro e w' ⟨rfl, ⟨nd, rfl⟩⟩; refine ⟨_, rfl, ?_⟩))
 go_ret
 exact ⟨er_, dn_⟩

/-! ### F83: function 83 -/
def F83.f (a0 : Int) : Option (Bool) := if a0 ≥ 65 then (some (decide (a0 ≤ 90))) else (some false)
theorem F83.calls (a0 : Int) (r : Bool) (w : World) (h : F83.f a0 = some r) :
  Calls Try.prog 83 #[.int .u8 a0] w fun e w' => e = .returned (.bool r) ∧ Drawn0 w w' := by
 have H : (if a0 ≥ 65 then (some (decide (a0 ≤ 90))) else (some false)) = some r := h
 clear h
 replace H := it_ H; rcases H with ⟨(c2b0 : decide (65 ≤ a0) = true), H⟩ | ⟨(c2b0 : decide (65 ≤ a0) = false), H⟩
 ·obtain rfl := Option.some.inj H
  go_enter Try.func83, Try.ntmps83
  go_wp2
  go_ret
  exact ⟨er_, dn_⟩
 obtain rfl := Option.some.inj H
 go_enter Try.func83, Try.ntmps83
 go_wp2
 go_ret
 exact ⟨er_, dn_⟩

/-! ### F84: function 84 -/
def F84.f (a0 : Int) : Option (Bool) := if a0 ≥ 48 then (some (decide (a0 ≤ 57))) else (some false)
theorem F84.calls (a0 : Int) (r : Bool) (w : World) (h : F84.f a0 = some r) :
  Calls Try.prog 84 #[.int .u8 a0] w fun e w' => e = .returned (.bool r) ∧ Drawn0 w w' := by
 have H : (if a0 ≥ 48 then (some (decide (a0 ≤ 57))) else (some false)) = some r := h
 clear h
 replace H := it_ H; rcases H with ⟨(c2b0 : decide (48 ≤ a0) = true), H⟩ | ⟨(c2b0 : decide (48 ≤ a0) = false), H⟩
 ·obtain rfl := Option.some.inj H
  go_enter Try.func84, Try.ntmps84
  go_wp2
  go_ret
  exact ⟨er_, dn_⟩
 obtain rfl := Option.some.inj H
 go_enter Try.func84, Try.ntmps84
 go_wp2
 go_ret
 exact ⟨er_, dn_⟩

/-! ### F46: function 46 -/
mutual
def F46.l0 : Nat → List Int → List Int → Int → Int → Option (Bool)
  | 0, _, _, _, _ => none
  | k + 1, x3, x9, x10, x11 => if x11 < x10 then (if 0 ≤ x11 then (if x11 < (x9.length : Int) then ((F61.f (rd x9 x11) 33 126).bind fun t429 => (if t429 = true then (if x11 ≤ (x3.length : Int) then ((F82.f k (x3.take (x11 : Int).toNat) (rd x9 x11)).bind fun t434 => (F46.j1 k x3 (rd x9 x11) x9 x10 x11 t434)) else (none)) else (F46.j1 k x3 (rd x9 x11) x9 x10 x11 true))) else (none)) else (none)) else (some true)
def F46.j1 : Nat → List Int → Int → List Int → Int → Int → Bool → Option (Bool)
  | 0, _, _, _, _, _, _ => none
  | k + 1, x3, x5, x9, x10, x11, x25 => if x25 = true then (some false) else ((F83.f ((x5) % 256)).bind fun t435 => (if t435 = true then (some false) else (if ((x5) % 256) ≥ 97 then (if ((x5) % 256) ≤ 122 then (some false) else ((F84.f ((x5) % 256)).bind fun t436 => (if t436 = true then (some false) else (if ((x5) % 256) = 45 then (some false) else (F46.l0 k x3 x9 x10 (wrap64 (x11 + 1))))))) else ((F84.f ((x5) % 256)).bind fun t437 => (if t437 = true then (some false) else (if ((x5) % 256) = 45 then (some false) else (F46.l0 k x3 x9 x10 (wrap64 (x11 + 1)))))))))
end
def F46.f (k : Nat) (a0_0 : Int) (a0_1 : Int) (a0_2 : Int) (a0_3 : Int) : Option (Bool) := (F81.f a0_0 a0_1 a0_2 a0_3).bind fun t425 => (F46.l0 k t425 t425 (t425.length : Int) 0)
theorem F46.mono_l : ∀ k, (∀ y0 y1 y2 y3, LeO (F46.l0 k y0 y1 y2 y3) (F46.l0 (k + 1) y0 y1 y2 y3)) ∧ (∀ y0 y1 y2 y3 y4 y5, LeO (F46.j1 k y0 y1 y2 y3 y4 y5) (F46.j1 (k + 1) y0 y1 y2 y3 y4 y5))
 | 0 => ⟨fun _ _ _ _ r h => by simp [F46.l0] at h, fun _ _ _ _ _ _ r h => by simp [F46.j1] at h⟩
 | k + 1 => by
  obtain ⟨ih0, ih1⟩ := F46.mono_l k
  refine ⟨?_, ?_⟩
  rotate_left
  ·intro y0 y1 y2 y3 y4 y5
   unfold F46.j1
   repeat' with_reducible first | exact ih0 _ _ _ _ | exact ih1 _ _ _ _ _ _ | exact F82.mono _ _ _ | exact LeO.refl _ | exact LeO.none _ | refine LeO.ite ?_ ?_ | refine LeO.bind ?_ (fun _ => ?_)
  intro y0 y1 y2 y3
  unfold F46.l0
  repeat' with_reducible first | exact ih0 _ _ _ _ | exact ih1 _ _ _ _ _ _ | exact F82.mono _ _ _ | exact LeO.refl _ | exact LeO.none _ | refine LeO.ite ?_ ?_ | refine LeO.bind ?_ (fun _ => ?_)
theorem F46.mono : ∀ a0 a1 a2 a3 k, LeO (F46.f k a0 a1 a2 a3) (F46.f (k + 1) a0 a1 a2 a3) := by
 intro a0 a1 a2 a3 k
 obtain ⟨ih0, ih1⟩ := F46.mono_l k
 unfold F46.f
 repeat' with_reducible first | exact ih0 _ _ _ _ | exact ih1 _ _ _ _ _ _ | exact F82.mono _ _ _ | exact LeO.refl _ | exact LeO.none _ | refine LeO.ite ?_ ?_ | refine LeO.bind ?_ (fun _ => ?_)
theorem F46.calls (k : Nat) (a0_0 : Int) (a0_1 : Int) (a0_2 : Int) (a0_3 : Int) (r : Bool) (w : World) (h : F46.f k a0_0 a0_1 a0_2 a0_3 = some r) :
  Calls Try.prog 46 #[.agg #[.int .i64 a0_0, .int .i64 a0_1, .int .i64 a0_2, .int .i64 a0_3]] w fun e w' => e = .returned (.bool r) ∧ Below w.heap.size w w' := by
 have hu45 := Try.underlying45
 have HB := am_ (Below.refl w.heap.size w)
 have H : ((F81.f a0_0 a0_1 a0_2 a0_3).bind fun t425 => (F46.l0 k t425 t425 (t425.length : Int) 0)) = some r := h
 clear h
 replace H := bi_ H; rcases H with ⟨t425, A2, H⟩
 have H' := am_ H
 clear H
 go_enter Try.func46, Try.ntmps46
 go_wp2_with (first | ((with_reducible refine gate_dst (N := 1) rfl ?_); refine be_ 1 #[.int .i64 a0_0, .int .i64 a0_1, .int .i64 a0_2, .int .i64 a0_3] 45 ?_; intro gb424 hg w3 hbox hb; have BK424 := am_ (hbox); have GW424 := am_ (gw_ hg bl_); have GE424 := GW424; replace HB := hs_ w hb; clear hb hbox hg; obtain ⟨hcz4_0, hcz4_1, hcz4_2, hcz4_3, hfz4_0, hfz4_1, hfz4_2, hfz4_3⟩ := cellsF4 BK424.out) | ((with_reducible refine gate_callee (f := 81) rfl ?_); refine gl_ 8 Try.func81 #[.agg #[.int .i64 a0_0, .int .i64 a0_1, .int .i64 a0_2, .int .i64 a0_3]] ?_ rfl rfl rfl rfl; (with_reducible refine (F81.calls a0_0 a0_1 a0_2 a0_3 t425 _ A2.out).mono ?_); rintro e w5 ⟨v426, rfl, ho0, hb⟩; refine ⟨_, rfl, ?_⟩; have HO427 := am_ (Kd.R_lower ho0 (below_size bl_)); replace BK424 := bb_ BK424 hb; replace HB := hs_ w hb; (try clear hb); (try clear ho0); obtain ⟨Ao6, co6, eo6⟩ := Kd.R_slice HO427.out; subst eo6))
 go_loopg [11] k (fun kq v11 w' => ∃ (x11_1 : Int), v11 = .int .i64 x11_1 ∧ Aside0 (F46.l0 kq t425 t425 (t425.length : Int) x11_1 = some r) ∧ Aside0 (kq ≤ k) ∧ Aside0 (Kd.R (Kd.int .i64) 2 w' w.heap.size (fun _ => True) (.slice Ao6 t425.length co6) t425) ∧ Aside0 (Kd.R (Kd.int .i64) 2 w' w.heap.size (fun _ => True) (.slice Ao6 t425.length co6) t425) ∧ Aside0 (w'.heap[gb424]? = some (.cells #[.int .i64 a0_0, .int .i64 a0_1, .int .i64 a0_2, .int .i64 a0_3] 45 (0, 0))) ∧ Aside0 (Below w.heap.size w w'))
 case atStart => exact ⟨(0), er_, H', ⟨Nat.le_refl _⟩, ⟨rk_ HO427⟩, ⟨rk_ HO427⟩, ⟨bk_ BK424⟩, ⟨bl_⟩⟩
 case round =>
  clear H'
  try clear hcz4_0 hcz4_1 hcz4_2 hcz4_3
  try clear hfz4_0 hfz4_1 hfz4_2 hfz4_3
  obtain ⟨x11_1, rfl, HA, HK1, HO_3, HO_9, BK424, HB⟩ := hrel
  cases gk with
  | zero => exact absurd HA.out (by simp [F46.l0])
  | succ k1 =>
   have H := HA.out
   clear HA
   simp only [F46.l0] at H
   replace H := it_ H; rcases H with ⟨c7b0, H⟩ | ⟨c7b0, H⟩
   rotate_left
   ·obtain rfl := Option.some.inj H
    go_wp2
    go_ret
    exact ⟨au3_0, bl_⟩

   replace H := itn_ H; rcases H with ⟨c8b0, H⟩
   replace H := itn_ H; rcases H with ⟨c9b0, H⟩
   have HC10 := am_ H
   clear H
   have p428 : 0 ≤ (x11_1 : Int) := od_
   have q428 : x11_1 < (t425.length : Int) := od_
   obtain ⟨ad428, e428, hx428_0⟩ := Kd.at_int (Kd.R_reads' HO_9.out).2.2 x11_1 p428 q428
   cases e428
   replace p428 := eq_true p428
   replace q428 := eq_true q428
   go_upto_region 5 with (fail)
   go_cut [25] (fun v25 wc => ∃ (kq : Nat) (x25_9 : Bool), v25 = .bool x25_9 ∧ Aside0 (F46.j1 kq t425 (rd t425 x11_1) t425 (t425.length : Int) x11_1 x25_9 = some r) ∧ Aside0 (kq ≤ k1) ∧ Aside0 (Kd.R (Kd.int .i64) 2 wc w.heap.size (fun _ => True) (.slice (some ad428) t425.length co6) t425) ∧ Aside0 (Kd.R (Kd.int .i64) 2 wc w.heap.size (fun _ => True) (.slice (some ad428) t425.length co6) t425) ∧ Aside0 (wc.heap[gb424]? = some (.cells #[.int .i64 a0_0, .int .i64 a0_1, .int .i64 a0_2, .int .i64 a0_3] 45 (0, 0))) ∧ Aside0 (Below w.heap.size w wc))
   case first =>
    have H := HC10.out
    clear HC10
    replace H := bi_ H; rcases H with ⟨t429, A11, H⟩
    replace H := ib_ H; rcases H with ⟨rfl, H⟩ | ⟨rfl, H⟩
    rotate_left
    ·have H' := am_ H
     clear H
     go_wp2_with (first | ((with_reducible refine gate_callee (f := 61) rfl ?_); refine gl_ 17 Try.func61 #[.int .i64 (rd t425 x11_1), .int .i64 33, .int .i64 126] ?_ rfl rfl rfl rfl; (with_reducible refine (F61.calls (rd t425 x11_1) 33 126 false _ A11.out).mono ?_); rintro e w' ⟨rfl, ⟨nd, rfl⟩⟩; refine ⟨_, rfl, ?_⟩))
     go_meet
     case rel => exact ⟨_, (true), er_, H', ⟨au3_12⟩, ⟨rk_ HO_3⟩, ⟨rk_ HO_9⟩, ⟨bk_ BK424⟩, ⟨bl_⟩⟩
    have c13b0 := eq_true (of_decide_eq_true as_ : 0 ≤ x11_1)
    by_cases c14 : x11_1 ≤ (t425.length : Int)
    rotate_left
    ·rw [if_neg c14] at H
     exact absurd H (by simp)
    rw [if_pos c14] at H
    have c14b0 := eq_true c14
    have c14b1 : decide (x11_1 ≤ (t425.length : Int)) = true := decide_eq_true c14
    clear c14
    obtain ⟨y430, hy430⟩ : ∃ y_ : List Int, y_ = (t425.take (x11_1 : Int).toNat) := ⟨_, rfl⟩
    replace H : ((F82.f k1 y430 (rd t425 x11_1)).bind fun t434 => (F46.j1 k1 t425 (rd t425 x11_1) t425 (t425.length : Int) x11_1 t434)) = some r := by first | (rw [hy430]; exact H) | exact H
    have Ny430 := am_ hy430
    clear hy430
    replace H := bi_ H; rcases H with ⟨t434, A15, H⟩
    have H' := am_ H
    clear H
    go_wp2_with (first | ((with_reducible refine gate_callee (f := 61) rfl ?_); refine gl_ 17 Try.func61 #[.int .i64 (rd t425 x11_1), .int .i64 33, .int .i64 126] ?_ rfl rfl rfl rfl; (with_reducible refine (F61.calls (rd t425 x11_1) 33 126 true _ A11.out).mono ?_); rintro e w' ⟨rfl, ⟨nd, rfl⟩⟩; refine ⟨_, rfl, ?_⟩; have q16 : (x11_1 : Int) ≤ ((t425.length : Int) : Int) := od_; obtain ⟨i016, hi016, _, hsz16, _⟩ := info_parts info2; have hroom16 : t425.length ≤ co6 := (Kd.R_reads' HO_3.out).2.1; have hC16 : Kd.C (Kd.int .i64) _ (some ad428) t425.length t425 := (Kd.R_reads' HO_3.out).2.2; have hcut16 := cut_to (P := Try.prog) 117 2 .i64 Try.underlying117 hi016 (some ad428) t425.length co6 x11_1 (of_decide_eq_true as_) q16 hroom16; have hr16 := Kd.C_take (m := (x11_1 : Int).toNat) hC16 (by omega); have hy16 : y430.length = (x11_1 : Int).toNat := (by rw [Ny430.out, List.length_take]; omega); rw [← Ny430.out] at hr16; rw [← hy16] at hcut16; have HR433 := am_ hr16; have HC433 := am_ (show y430.length ≤ co6 from by omega); clear hr16 hC16 hroom16 hi016 hsz16; have KY16 := am_ hy16; clear hy16; have KL16 := am_ (show (x11_1 : Int).toNat ≤ t425.length from by omega); replace q16 := eq_true q16) | (go_at_call 82; (with_reducible refine (F82.calls k1 _ _ y430 (rd t425 x11_1) t434 _ ?s1 ?s2 A15.out).mono ?_); (case s1 => repeat (first | exact (by repeat (first | (with_reducible exact HR433.out) | (with_reducible refine Kd.C_alloc ?_ _) | (with_reducible refine Kd.C_drewN ?_ _) | (with_reducible refine Kd.C_drew ?_) | exact HR433.out)) | (with_reducible refine Kd.C_alloc ?_ _) | (with_reducible refine Kd.C_drewN ?_ _) | (with_reducible refine Kd.C_drew ?_))); (case s2 => exact HC433.out); rintro e w' ⟨rfl, ⟨nd, rfl⟩⟩))
    go_meet
    case rel => exact ⟨_, (t434), er_, H', ⟨au3_12⟩, ⟨rk_ HO_3⟩, ⟨rk_ HO_9⟩, ⟨bk_ BK424⟩, ⟨bl_⟩⟩
   case rest =>
    clear HC10
    try clear c7b0
    try clear c8b0
    try clear c9b0
    try clear c13b0
    try clear c14
    try clear c14b0
    try clear c14b1
    try clear q16
    try clear hcz4_0 hcz4_1 hcz4_2 hcz4_3
    try clear hfz4_0 hfz4_1 hfz4_2 hfz4_3
    try clear hx428_0
    try clear p428
    try clear q16
    try clear q428
    obtain ⟨kq, x25_9, rfl, HA, HJ9, HO_3, HO_9, BK424, HB⟩ := hcut
    cases kq with
    | zero => exact absurd HA.out (by simp [F46.j1])
    | succ kj9 =>
     have H := HA.out
     clear HA
     simp only [F46.j1] at H
     replace H := ib_ H; rcases H with ⟨rfl, H⟩ | ⟨rfl, H⟩
     ·obtain rfl := Option.some.inj H
      go_wp2
      go_ret
      exact ⟨au3_0, bl_⟩
     replace H := bi_ H; rcases H with ⟨t435, A18, H⟩
     replace H := ib_ H; rcases H with ⟨rfl, H⟩ | ⟨rfl, H⟩
     ·obtain rfl := Option.some.inj H
      go_wp2_with (first | ((with_reducible refine gate_callee (f := 83) rfl ?_); refine gl_ 29 Try.func83 #[.int .u8 (((rd t425 x11_1)) % 256)] ?_ rfl rfl rfl rfl; (with_reducible refine (F83.calls (((rd t425 x11_1)) % 256) true _ A18.out).mono ?_); rintro e w' ⟨rfl, ⟨nd, rfl⟩⟩; refine ⟨_, rfl, ?_⟩))
      go_ret
      exact ⟨au3_0, bl_⟩
     replace H := it_ H; rcases H with ⟨(c20b0 : decide (97 ≤ (((rd t425 x11_1)) % 256)) = true), H⟩ | ⟨(c20b0 : decide (97 ≤ (((rd t425 x11_1)) % 256)) = false), H⟩
     rotate_left
     ·replace H := bi_ H; rcases H with ⟨t437, A25, H⟩
      replace H := ib_ H; rcases H with ⟨rfl, H⟩ | ⟨rfl, H⟩
      ·obtain rfl := Option.some.inj H
       go_wp2_with (first | ((with_reducible refine gate_callee (f := 83) rfl ?_); refine gl_ 29 Try.func83 #[.int .u8 (((rd t425 x11_1)) % 256)] ?_ rfl rfl rfl rfl; (with_reducible refine (F83.calls (((rd t425 x11_1)) % 256) false _ A18.out).mono ?_); rintro e w' ⟨rfl, ⟨nd, rfl⟩⟩; refine ⟨_, rfl, ?_⟩) | (go_at_call 84; (with_reducible refine (F84.calls (((rd t425 x11_1)) % 256) true _ A25.out).mono ?_); rintro e w' ⟨rfl, ⟨nd, rfl⟩⟩))
       go_ret
       exact ⟨au3_0, bl_⟩
      by_cases c27 : (((rd t425 x11_1)) % 256) = 45
      ·rw [if_pos c27] at H
       have c27b0 : ((((rd t425 x11_1)) % 256) == 45) = true := beq_iff_eq.mpr c27
       have c27b1 : ((((rd t425 x11_1)) % 256) != 45) = false := bne_eq_false_iff_eq.mpr c27
       clear c27
       obtain rfl := Option.some.inj H
       go_wp2_with (first | ((with_reducible refine gate_callee (f := 83) rfl ?_); refine gl_ 29 Try.func83 #[.int .u8 (((rd t425 x11_1)) % 256)] ?_ rfl rfl rfl rfl; (with_reducible refine (F83.calls (((rd t425 x11_1)) % 256) false _ A18.out).mono ?_); rintro e w' ⟨rfl, ⟨nd, rfl⟩⟩; refine ⟨_, rfl, ?_⟩) | (go_at_call 84; (with_reducible refine (F84.calls (((rd t425 x11_1)) % 256) false _ A25.out).mono ?_); rintro e w' ⟨rfl, ⟨nd, rfl⟩⟩))
       go_ret
       exact ⟨au3_0, bl_⟩
      rw [if_neg c27] at H
      have c27b0 : ((((rd t425 x11_1)) % 256) == 45) = false := beq_eq_false_iff_ne.mpr c27
      have c27b1 : ((((rd t425 x11_1)) % 256) != 45) = true := bne_iff_ne.mpr c27
      have H' := am_ H
      clear H
      go_wp2_with (first | ((with_reducible refine gate_callee (f := 83) rfl ?_); refine gl_ 29 Try.func83 #[.int .u8 (((rd t425 x11_1)) % 256)] ?_ rfl rfl rfl rfl; (with_reducible refine (F83.calls (((rd t425 x11_1)) % 256) false _ A18.out).mono ?_); rintro e w' ⟨rfl, ⟨nd, rfl⟩⟩; refine ⟨_, rfl, ?_⟩) | (go_at_call 84; (with_reducible refine (F84.calls (((rd t425 x11_1)) % 256) false _ A25.out).mono ?_); rintro e w' ⟨rfl, ⟨nd, rfl⟩⟩))
      go_roundg kj9
      case measure => have := HK1.out; have := HJ9.out; omega
      case rel => exact ⟨(wrap64 (x11_1 + 1)), er_, H', ⟨by have := HK1.out; have := HJ9.out; omega⟩, ⟨rk_ HO_3⟩, ⟨rk_ HO_9⟩, ⟨bk_ BK424⟩, ⟨bl_⟩⟩
     replace H := it_ H; rcases H with ⟨c21b0, H⟩ | ⟨c21b0, H⟩
     ·obtain rfl := Option.some.inj H
      go_wp2_with (first | ((with_reducible refine gate_callee (f := 83) rfl ?_); refine gl_ 29 Try.func83 #[.int .u8 (((rd t425 x11_1)) % 256)] ?_ rfl rfl rfl rfl; (with_reducible refine (F83.calls (((rd t425 x11_1)) % 256) false _ A18.out).mono ?_); rintro e w' ⟨rfl, ⟨nd, rfl⟩⟩; refine ⟨_, rfl, ?_⟩))
      go_ret
      exact ⟨au3_0, bl_⟩
     replace H := bi_ H; rcases H with ⟨t436, A22, H⟩
     replace H := ib_ H; rcases H with ⟨rfl, H⟩ | ⟨rfl, H⟩
     ·obtain rfl := Option.some.inj H
      go_wp2_with (first | ((with_reducible refine gate_callee (f := 83) rfl ?_); refine gl_ 29 Try.func83 #[.int .u8 (((rd t425 x11_1)) % 256)] ?_ rfl rfl rfl rfl; (with_reducible refine (F83.calls (((rd t425 x11_1)) % 256) false _ A18.out).mono ?_); rintro e w' ⟨rfl, ⟨nd, rfl⟩⟩; refine ⟨_, rfl, ?_⟩) | (go_at_call 84; (with_reducible refine (F84.calls (((rd t425 x11_1)) % 256) true _ A22.out).mono ?_); rintro e w' ⟨rfl, ⟨nd, rfl⟩⟩))
      go_ret
      exact ⟨au3_0, bl_⟩
     by_cases c24 : (((rd t425 x11_1)) % 256) = 45
     ·rw [if_pos c24] at H
      have c24b0 : ((((rd t425 x11_1)) % 256) == 45) = true := beq_iff_eq.mpr c24
      have c24b1 : ((((rd t425 x11_1)) % 256) != 45) = false := bne_eq_false_iff_eq.mpr c24
      clear c24
      obtain rfl := Option.some.inj H
      go_wp2_with (first | ((with_reducible refine gate_callee (f := 83) rfl ?_); refine gl_ 29 Try.func83 #[.int .u8 (((rd t425 x11_1)) % 256)] ?_ rfl rfl rfl rfl; (with_reducible refine (F83.calls (((rd t425 x11_1)) % 256) false _ A18.out).mono ?_); rintro e w' ⟨rfl, ⟨nd, rfl⟩⟩; refine ⟨_, rfl, ?_⟩) | (go_at_call 84; (with_reducible refine (F84.calls (((rd t425 x11_1)) % 256) false _ A22.out).mono ?_); rintro e w' ⟨rfl, ⟨nd, rfl⟩⟩))
      go_ret
      exact ⟨au3_0, bl_⟩
     rw [if_neg c24] at H
     have c24b0 : ((((rd t425 x11_1)) % 256) == 45) = false := beq_eq_false_iff_ne.mpr c24
     have c24b1 : ((((rd t425 x11_1)) % 256) != 45) = true := bne_iff_ne.mpr c24
     have H' := am_ H
     clear H
     go_wp2_with (first | ((with_reducible refine gate_callee (f := 83) rfl ?_); refine gl_ 29 Try.func83 #[.int .u8 (((rd t425 x11_1)) % 256)] ?_ rfl rfl rfl rfl; (with_reducible refine (F83.calls (((rd t425 x11_1)) % 256) false _ A18.out).mono ?_); rintro e w' ⟨rfl, ⟨nd, rfl⟩⟩; refine ⟨_, rfl, ?_⟩) | (go_at_call 84; (with_reducible refine (F84.calls (((rd t425 x11_1)) % 256) false _ A22.out).mono ?_); rintro e w' ⟨rfl, ⟨nd, rfl⟩⟩))
     go_roundg kj9
     case measure => have := HK1.out; have := HJ9.out; omega
     case rel => exact ⟨(wrap64 (x11_1 + 1)), er_, H', ⟨by have := HK1.out; have := HJ9.out; omega⟩, ⟨rk_ HO_3⟩, ⟨rk_ HO_9⟩, ⟨bk_ BK424⟩, ⟨bl_⟩⟩
/-! ### F107: function 107 -/
def F107.l0 : Nat → ByteArray → Int → Int → Option (Bool)
  | 0, _, _, _ => none
  | k + 1, x0, x5, x6 => if x6 < x5 then (if 0 ≤ x6 then (if x6 < (x0.size : Int) then (if (bt x0 x6) < 32 then (some false) else (if (bt x0 x6) > 126 then (some false) else (F107.l0 k x0 x5 (wrap64 (x6 + 1))))) else (none)) else (none)) else (some true)
def F107.f (k : Nat) (a0 : ByteArray) : Option (Bool) := F107.l0 k a0 (a0.size : Int) 0
theorem F107.mono_l : ∀ k, (∀ y0 y1 y2, LeO (F107.l0 k y0 y1 y2) (F107.l0 (k + 1) y0 y1 y2))
 | 0 => fun _ _ _ r h => by simp [F107.l0] at h
 | k + 1 => by
  have ih0 := F107.mono_l k
  intro y0 y1 y2
  unfold F107.l0
  repeat' with_reducible first | exact ih0 _ _ _ | exact LeO.refl _ | exact LeO.none _ | refine LeO.ite ?_ ?_ | refine LeO.bind ?_ (fun _ => ?_)
theorem F107.mono : ∀ a0 k, LeO (F107.f k a0) (F107.f (k + 1) a0) := by
 intro a0 k
 have ih0 := F107.mono_l k
 unfold F107.f
 repeat' with_reducible first | exact ih0 _ _ _ | exact LeO.refl _ | exact LeO.none _ | refine LeO.ite ?_ ?_ | refine LeO.bind ?_ (fun _ => ?_)
theorem F107.calls (k : Nat) (a0 : ByteArray) (r : Bool) (w : World) (h : F107.f k a0 = some r) :
  Calls Try.prog 107 #[.string a0] w fun e w' => e = .returned (.bool r) ∧ Drawn0 w w' := by
 have H : (F107.l0 k a0 (a0.size : Int) 0) = some r := h
 clear h
 have H' := am_ H
 clear H
 go_enter Try.func107, Try.ntmps107
 go_wp2
 go_loopg [6] k (fun kq v6 w' => ∃ (x6_1 : Int), v6 = .int .i64 x6_1 ∧ Aside0 (F107.l0 kq a0 (a0.size : Int) x6_1 = some r) ∧ Aside0 (kq ≤ k) ∧ Drawn0 w w')
 case atStart => exact ⟨(0), er_, H', ⟨Nat.le_refl _⟩, dn_⟩
 case round =>
  clear H'
  obtain ⟨x6_1, rfl, HA, HK1, ⟨m1, rfl⟩⟩ := hrel
  cases gk with
  | zero => exact absurd HA.out (by simp [F107.l0])
  | succ k1 =>
   have H := HA.out
   clear HA
   simp only [F107.l0] at H
   replace H := it_ H; rcases H with ⟨c2b0, H⟩ | ⟨c2b0, H⟩
   rotate_left
   ·obtain rfl := Option.some.inj H
    go_wp2
    go_ret
    exact ⟨er_, dn_⟩

   replace H := itn_ H; rcases H with ⟨c3b0, H⟩
   replace H := itn_ H; rcases H with ⟨c4b0, H⟩
   replace H := it_ H; rcases H with ⟨c6b0, H⟩ | ⟨c6b0, H⟩
   ·obtain rfl := Option.some.inj H
    have p5 : 0 ≤ (x6_1 : Int) := od_
    have q5 : x6_1 < (a0.size : Int) := od_
    have hx5 := bt_at a0 x6_1
    replace p5 := eq_true p5
    replace q5 := eq_true q5
    go_wp2
    go_ret
    exact ⟨er_, dn_⟩
   replace H := it_ H; rcases H with ⟨(c8b0 : decide (126 < (bt a0 x6_1)) = true), H⟩ | ⟨(c8b0 : decide (126 < (bt a0 x6_1)) = false), H⟩
   ·obtain rfl := Option.some.inj H
    have p5 : 0 ≤ (x6_1 : Int) := od_
    have q5 : x6_1 < (a0.size : Int) := od_
    have hx5 := bt_at a0 x6_1
    replace p5 := eq_true p5
    replace q5 := eq_true q5
    have p7 : 0 ≤ (x6_1 : Int) := od_
    have q7 : x6_1 < (a0.size : Int) := od_
    have hx7 := bt_at a0 x6_1
    replace p7 := eq_true p7
    replace q7 := eq_true q7
    go_wp2
    go_ret
    exact ⟨er_, dn_⟩
   have H' := am_ H
   clear H
   have p5 : 0 ≤ (x6_1 : Int) := od_
   have q5 : x6_1 < (a0.size : Int) := od_
   have hx5 := bt_at a0 x6_1
   replace p5 := eq_true p5
   replace q5 := eq_true q5
   have p7 : 0 ≤ (x6_1 : Int) := od_
   have q7 : x6_1 < (a0.size : Int) := od_
   have hx7 := bt_at a0 x6_1
   replace p7 := eq_true p7
   replace q7 := eq_true q7
   go_wp2
   go_roundg k1
   case measure => have := HK1.out; omega
   case rel => exact ⟨(wrap64 (x6_1 + 1)), er_, H', ⟨by have := HK1.out; omega⟩, dn_⟩
/-! ### F88: function 88 -/
def F88.f (k : Nat) (a0 : ByteArray) : Option (Bool) := if (a0.size : Int) ≤ 40 then ((F107.f k a0).bind fun t438 => (some t438)) else (some false)
theorem F88.mono : ∀ a0 k, LeO (F88.f k a0) (F88.f (k + 1) a0) := by
 intro a0 k
 unfold F88.f
 repeat' with_reducible first | exact F107.mono _ _ | exact LeO.refl _ | exact LeO.none _ | refine LeO.ite ?_ ?_ | refine LeO.bind ?_ (fun _ => ?_)
theorem F88.calls (k : Nat) (a0 : ByteArray) (r : Bool) (w : World) (h : F88.f k a0 = some r) :
  Calls Try.prog 88 #[.string a0] w fun e w' => e = .returned (.bool r) ∧ Drawn0 w w' := by
 have H : (if (a0.size : Int) ≤ 40 then ((F107.f k a0).bind fun t438 => (some t438)) else (some false)) = some r := h
 clear h
 replace H := it_ H; rcases H with ⟨c2b0, H⟩ | ⟨c2b0, H⟩
 rotate_left
 ·have c2b1 : decide (a0.size ≤ 40) = false := n2_ c2b0
  obtain rfl := Option.some.inj H
  go_enter Try.func88, Try.ntmps88
  go_wp2
  go_ret
  exact ⟨er_, dn_⟩

 have c2b1 : decide (a0.size ≤ 40) = true := n2_ c2b0
 replace H := bi_ H; rcases H with ⟨t438, A3, H⟩
 obtain rfl := Option.some.inj H
 go_enter Try.func88, Try.ntmps88
 go_wp2_with (first | (go_at_call 107; (with_reducible refine (F107.calls k a0 t438 _ A3.out).mono ?_); rintro e w' ⟨rfl, ⟨nd, rfl⟩⟩))
 go_ret
 exact ⟨er_, dn_⟩
/-! ### F87: function 87 -/
def F87.f (k : Nat) (a0 : ByteArray) : Option (Bool) := (F88.f k a0).bind fun t439 => (some (!t439))
theorem F87.mono : ∀ a0 k, LeO (F87.f k a0) (F87.f (k + 1) a0) := by
 intro a0 k
 unfold F87.f
 repeat' with_reducible first | exact F88.mono _ _ | exact LeO.refl _ | exact LeO.none _ | refine LeO.ite ?_ ?_ | refine LeO.bind ?_ (fun _ => ?_)
theorem F87.calls (k : Nat) (a0 : ByteArray) (r : Bool) (w : World) (h : F87.f k a0 = some r) :
  Calls Try.prog 87 #[.string a0] w fun e w' => e = .returned (.bool r) ∧ Drawn0 w w' := by
 have H : ((F88.f k a0).bind fun t439 => (some (!t439))) = some r := h
 clear h
 replace H := bi_ H; rcases H with ⟨t439, A2, H⟩
 obtain rfl := Option.some.inj H
 go_enter Try.func87, Try.ntmps87
 go_wp2_with (first | ((with_reducible refine gate_callee (f := 88) rfl ?_); refine gl_ 4 Try.func88 #[.string a0] ?_ rfl rfl rfl rfl; (with_reducible refine (F88.calls k a0 t439 _ A2.out).mono ?_); rintro e w' ⟨rfl, ⟨nd, rfl⟩⟩; refine ⟨_, rfl, ?_⟩))
 go_ret
 exact ⟨er_, dn_⟩

/-! ### F89: function 89 -/
def F89.f (a0 : ByteArray) : Option (Bool) := if (a0.size : Int) = 3 then (if 0 < (a0.size : Int) then ((F83.f (bt a0 0)).bind fun t440 => (if t440 = true then (if 1 < (a0.size : Int) then ((F83.f (bt a0 1)).bind fun t441 => (if t441 = true then (if 2 < (a0.size : Int) then ((F83.f (bt a0 2)).bind fun t442 => (some t442)) else (none)) else (some false))) else (none)) else (some false))) else (none)) else (some false)
theorem F89.calls (a0 : ByteArray) (r : Bool) (w : World) (h : F89.f a0 = some r) :
  Calls Try.prog 89 #[.string a0] w fun e w' => e = .returned (.bool r) ∧ Drawn0 w w' := by
 have H : (if (a0.size : Int) = 3 then (if 0 < (a0.size : Int) then ((F83.f (bt a0 0)).bind fun t440 => (if t440 = true then (if 1 < (a0.size : Int) then ((F83.f (bt a0 1)).bind fun t441 => (if t441 = true then (if 2 < (a0.size : Int) then ((F83.f (bt a0 2)).bind fun t442 => (some t442)) else (none)) else (some false))) else (none)) else (some false))) else (none)) else (some false)) = some r := h
 clear h
 by_cases c2 : (a0.size : Int) = 3
 rotate_left
 ·rw [if_neg c2] at H
  have c2b0 : ((a0.size : Int) == 3) = false := beq_eq_false_iff_ne.mpr c2
  have c2b1 : ((a0.size : Int) != 3) = true := bne_iff_ne.mpr c2
  obtain rfl := Option.some.inj H
  go_enter Try.func89, Try.ntmps89
  go_wp2
  go_ret
  exact ⟨er_, dn_⟩

 rw [if_pos c2] at H
 have c2b0 : ((a0.size : Int) == 3) = true := beq_iff_eq.mpr c2
 have c2b1 : ((a0.size : Int) != 3) = false := bne_eq_false_iff_eq.mpr c2
 clear c2
 replace H := itn_ H; rcases H with ⟨c3b0, H⟩
 have c3b1 : decide (0 < a0.size) = true := n2_ c3b0
 replace H := bi_ H; rcases H with ⟨t440, A5, H⟩
 replace H := ib_ H; rcases H with ⟨rfl, H⟩ | ⟨rfl, H⟩
 rotate_left
 ·obtain rfl := Option.some.inj H
  have p4 : 0 ≤ (0 : Int) := (by omega)
  have q4 : 0 < a0.size := (by have : (0 : Int) < (a0.size : Int) := od_; omega)
  have hx4 : ∀ h : 0 < a0.size, ((a0[0]'h).toNat : Int) = bt a0 0 := bt_at a0 0
  clear p4
  have qi4 : (0 < (a0.size : Int)) = True := eq_true (of_decide_eq_true as_)
  replace q4 := eq_true q4
  go_enter Try.func89, Try.ntmps89
  go_wp2_with (first | (go_at_call 83; (with_reducible refine (F83.calls (bt a0 0) false _ A5.out).mono ?_); rintro e w' ⟨rfl, ⟨nd, rfl⟩⟩))
  go_ret
  exact ⟨er_, dn_⟩
 replace H := itn_ H; rcases H with ⟨c7b0, H⟩
 have c7b1 : decide (1 < a0.size) = true := n2_ c7b0
 replace H := bi_ H; rcases H with ⟨t441, A9, H⟩
 replace H := ib_ H; rcases H with ⟨rfl, H⟩ | ⟨rfl, H⟩
 rotate_left
 ·obtain rfl := Option.some.inj H
  have p4 : 0 ≤ (0 : Int) := (by omega)
  have q4 : 0 < a0.size := (by have : (0 : Int) < (a0.size : Int) := od_; omega)
  have hx4 : ∀ h : 0 < a0.size, ((a0[0]'h).toNat : Int) = bt a0 0 := bt_at a0 0
  clear p4
  have qi4 : (0 < (a0.size : Int)) = True := eq_true (of_decide_eq_true as_)
  replace q4 := eq_true q4
  go_enter Try.func89, Try.ntmps89
  go_wp2_with (first | (go_at_call 83; (with_reducible refine (F83.calls (bt a0 0) true _ A5.out).mono ?_); rintro e w' ⟨rfl, ⟨nd, rfl⟩⟩; have p8 : 0 ≤ (1 : Int) := (by omega); have q8 : 1 < a0.size := (by have : (1 : Int) < (a0.size : Int) := od_; omega); have hx8 : ∀ h : 1 < a0.size, ((a0[1]'h).toNat : Int) = bt a0 1 := bt_at a0 1; clear p8; have qi8 : (1 < (a0.size : Int)) = True := eq_true (of_decide_eq_true as_); replace q8 := eq_true q8) | (go_at_call 83; (with_reducible refine (F83.calls (bt a0 1) false _ A9.out).mono ?_); rintro e w' ⟨rfl, ⟨nd, rfl⟩⟩))
  go_ret
  exact ⟨er_, dn_⟩
 replace H := itn_ H; rcases H with ⟨c11b0, H⟩
 have c11b1 : decide (2 < a0.size) = true := n2_ c11b0
 replace H := bi_ H; rcases H with ⟨t442, A13, H⟩
 obtain rfl := Option.some.inj H
 have p4 : 0 ≤ (0 : Int) := (by omega)
 have q4 : 0 < a0.size := (by have : (0 : Int) < (a0.size : Int) := od_; omega)
 have hx4 : ∀ h : 0 < a0.size, ((a0[0]'h).toNat : Int) = bt a0 0 := bt_at a0 0
 clear p4
 have qi4 : (0 < (a0.size : Int)) = True := eq_true (of_decide_eq_true as_)
 replace q4 := eq_true q4
 go_enter Try.func89, Try.ntmps89
 go_wp2_with (first | (go_at_call 83; (with_reducible refine (F83.calls (bt a0 0) true _ A5.out).mono ?_); rintro e w' ⟨rfl, ⟨nd, rfl⟩⟩; have p8 : 0 ≤ (1 : Int) := (by omega); have q8 : 1 < a0.size := (by have : (1 : Int) < (a0.size : Int) := od_; omega); have hx8 : ∀ h : 1 < a0.size, ((a0[1]'h).toNat : Int) = bt a0 1 := bt_at a0 1; clear p8; have qi8 : (1 < (a0.size : Int)) = True := eq_true (of_decide_eq_true as_); replace q8 := eq_true q8) | (go_at_call 83; (with_reducible refine (F83.calls (bt a0 1) true _ A9.out).mono ?_); rintro e w' ⟨rfl, ⟨nd, rfl⟩⟩; have p12 : 0 ≤ (2 : Int) := (by omega); have q12 : 2 < a0.size := (by have : (2 : Int) < (a0.size : Int) := od_; omega); have hx12 : ∀ h : 2 < a0.size, ((a0[2]'h).toNat : Int) = bt a0 2 := bt_at a0 2; clear p12; have qi12 : (2 < (a0.size : Int)) = True := eq_true (of_decide_eq_true as_); replace q12 := eq_true q12) | (go_at_call 83; (with_reducible refine (F83.calls (bt a0 2) t442 _ A13.out).mono ?_); rintro e w' ⟨rfl, ⟨nd, rfl⟩⟩))
 go_ret
 exact ⟨er_, dn_⟩
/-! ### F106: function 106 -/
def F106.l0 : Nat → List ByteArray → Int → Int → Option (Int)
  | 0, _, _, _ => none
  | k + 1, x0, x7, x8 => if x8 < x7 then (if 0 ≤ x8 then (if x8 < (x0.length : Int) then ((F87.f k (rdOf ByteArray.empty x0 x8)).bind fun t444 => (if t444 = true then (some x8) else (F106.l0 k x0 x7 (wrap64 (x8 + 1))))) else (none)) else (none)) else (some (-1))
def F106.f (k : Nat) (l0 : List ByteArray)  : Option (Int) := F106.l0 k l0 (l0.length : Int) 0
theorem F106.mono_l : ∀ k, (∀ y0 y1 y2, LeO (F106.l0 k y0 y1 y2) (F106.l0 (k + 1) y0 y1 y2))
 | 0 => fun _ _ _ r h => by simp [F106.l0] at h
 | k + 1 => by
  have ih0 := F106.mono_l k
  intro y0 y1 y2
  unfold F106.l0
  repeat' with_reducible first | exact ih0 _ _ _ | exact F87.mono _ _ | exact LeO.refl _ | exact LeO.none _ | refine LeO.ite ?_ ?_ | refine LeO.bind ?_ (fun _ => ?_)
theorem F106.mono : ∀ a0 k, LeO (F106.f k a0) (F106.f (k + 1) a0) := by
 intro a0 k
 have ih0 := F106.mono_l k
 unfold F106.f
 repeat' with_reducible first | exact ih0 _ _ _ | exact F87.mono _ _ | exact LeO.refl _ | exact LeO.none _ | refine LeO.ite ?_ ?_ | refine LeO.bind ?_ (fun _ => ?_)
theorem F106.calls (k : Nat) (A0 : Option Addr) (c0 : Nat) (l0 : List ByteArray)  (r : Int) (w : World) (hr0 : Kd.C Kd.string w A0 l0.length l0) (hc0 : l0.length ≤ c0) (h : F106.f k l0 = some r) :
  Calls Try.prog 106 #[.slice A0 l0.length c0, .func (.func 87) #[] #[]] w fun e w' => e = .returned (.int .i64 r) ∧ Drawn0 w w' := by
 have HR0 := am_ hr0
 have HC0 := am_ hc0
 clear hr0 hc0
 have H : (F106.l0 k l0 (l0.length : Int) 0) = some r := h
 clear h
 have H' := am_ H
 clear H
 go_enter Try.func106, Try.ntmps106
 go_wp2
 go_loopg [8] k (fun kq v8 w' => ∃ (x8_1 : Int), v8 = .int .i64 x8_1 ∧ Aside0 (F106.l0 kq l0 (l0.length : Int) x8_1 = some r) ∧ Aside0 (kq ≤ k) ∧ Drawn0 w w')
 case atStart => exact ⟨(0), er_, H', ⟨Nat.le_refl _⟩, dn_⟩
 case round =>
  clear H'
  obtain ⟨x8_1, rfl, HA, HK1, ⟨m1, rfl⟩⟩ := hrel
  cases gk with
  | zero => exact absurd HA.out (by simp [F106.l0])
  | succ k1 =>
   have H := HA.out
   clear HA
   simp only [F106.l0] at H
   replace H := it_ H; rcases H with ⟨c3b0, H⟩ | ⟨c3b0, H⟩
   rotate_left
   ·obtain rfl := Option.some.inj H
    go_wp2
    go_ret
    exact ⟨er_, dn_⟩

   replace H := itn_ H; rcases H with ⟨c4b0, H⟩
   replace H := itn_ H; rcases H with ⟨c5b0, H⟩
   replace H := bi_ H; rcases H with ⟨t444, A6, H⟩
   replace H := ib_ H; rcases H with ⟨rfl, H⟩ | ⟨rfl, H⟩
   ·obtain rfl := Option.some.inj H
    have p443 : 0 ≤ (x8_1 : Int) := od_
    have q443 : x8_1 < (l0.length : Int) := od_
    obtain ⟨ad443, e443, hx443_0⟩ := Kd.at_string HR0.out x8_1 p443 q443
    cases e443
    replace p443 := eq_true p443
    replace q443 := eq_true q443
    go_wp2_with (first | (go_at_call 87; (with_reducible refine (F87.calls k1 (rdOf ByteArray.empty l0 x8_1) true _ A6.out).mono ?_); rintro e w' ⟨rfl, ⟨nd, rfl⟩⟩))
    go_ret
    exact ⟨er_, dn_⟩
   have H' := am_ H
   clear H
   have p443 : 0 ≤ (x8_1 : Int) := od_
   have q443 : x8_1 < (l0.length : Int) := od_
   obtain ⟨ad443, e443, hx443_0⟩ := Kd.at_string HR0.out x8_1 p443 q443
   cases e443
   replace p443 := eq_true p443
   replace q443 := eq_true q443
   go_wp2_with (first | (go_at_call 87; (with_reducible refine (F87.calls k1 (rdOf ByteArray.empty l0 x8_1) false _ A6.out).mono ?_); rintro e w' ⟨rfl, ⟨nd, rfl⟩⟩))
   go_roundg k1
   case measure => have := HK1.out; omega
   case rel => exact ⟨(wrap64 (x8_1 + 1)), er_, H', ⟨by have := HK1.out; omega⟩, dn_⟩
/-! ### F86: function 86 -/
def F86.f (k : Nat) (l0 : List ByteArray)  : Option (Bool) := (F106.f k l0).bind fun t445 => (some (decide (t445 ≥ 0)))
theorem F86.mono : ∀ a0 k, LeO (F86.f k a0) (F86.f (k + 1) a0) := by
 intro a0 k
 unfold F86.f
 repeat' with_reducible first | exact F106.mono _ _ | exact LeO.refl _ | exact LeO.none _ | refine LeO.ite ?_ ?_ | refine LeO.bind ?_ (fun _ => ?_)
theorem F86.calls (k : Nat) (A0 : Option Addr) (c0 : Nat) (l0 : List ByteArray)  (r : Bool) (w : World) (hr0 : Kd.C Kd.string w A0 l0.length l0) (hc0 : l0.length ≤ c0) (h : F86.f k l0 = some r) :
  Calls Try.prog 86 #[.slice A0 l0.length c0, .func (.func 87) #[] #[]] w fun e w' => e = .returned (.bool r) ∧ Drawn0 w w' := by
 have HR0 := am_ hr0
 have HC0 := am_ hc0
 clear hr0 hc0
 have H : ((F106.f k l0).bind fun t445 => (some (decide (t445 ≥ 0)))) = some r := h
 clear h
 replace H := bi_ H; rcases H with ⟨t445, A3, H⟩
 obtain rfl := Option.some.inj H
 go_enter Try.func86, Try.ntmps86
 go_wp2_with (first | ((with_reducible refine gate_callee (f := 106) rfl ?_); refine gl_ 7 Try.func106 #[.slice A0 l0.length c0, .func (.func 87) #[] #[]] ?_ rfl rfl rfl rfl; (with_reducible refine (F106.calls k _ _ l0  t445 _ ?s1 ?s2 A3.out).mono ?_); (case s1 => exact au3_3); (case s2 => exact HC0.out); rintro e w' ⟨rfl, ⟨nd, rfl⟩⟩; refine ⟨_, rfl, ?_⟩))
 go_ret
 exact ⟨er_, dn_⟩

/-! ### F49: function 49 -/
mutual
def F49.l0 : Nat → List (S122) → Int → Int → ByteArray → List (S122) → Option (Bool)
  | 0, _, _, _, _, _ => none
  | k + 1, x7, x8, x9, x447000, x447001 => if x9 < x8 then (if 0 ≤ x9 then (if x9 < (x7.length : Int) then ((F61.f (((rd_T122 x7 x9).f0).length : Int) 1 4).bind fun t450 => (if t450 = true then ((F86.f k ((rd_T122 x7 x9).f0)).bind fun t451 => (F49.j1 k x9 (((rd_T122 x7 x9).f0).length : Int) x7 x8 x9 t451 x447000 x447001 ((rd_T122 x7 x9).f0))) else (F49.j1 k x9 (((rd_T122 x7 x9).f0).length : Int) x7 x8 x9 true x447000 x447001 ((rd_T122 x7 x9).f0)))) else (none)) else (none)) else ((F89.f x447000).bind fun t447 => (if t447 = true then (some (decide ((x447001.length : Int) ≤ 10))) else (some false)))
def F49.j1 : Nat → Int → Int → List (S122) → Int → Int → Bool → ByteArray → List (S122) → List ByteArray → Option (Bool)
  | 0, _, _, _, _, _, _, _, _, _ => none
  | k + 1, x3, x5, x7, x8, x9, x24, x447000, x447001, x450000 => if x24 = true then (some false) else (if 0 ≤ (wrap64 (x5 - 1)) then (if (wrap64 (x5 - 1)) < (x450000.length : Int) then (if (rdOf ByteArray.empty x450000 (wrap64 (x5 - 1))).toList = ([] : List UInt8) then (if x5 > 1 then (some false) else (if x3 = (wrap64 ((x447001.length : Int) - 1)) then (some false) else (F49.l0 k x7 x8 (wrap64 (x9 + 1)) x447000 x447001))) else (F49.l0 k x7 x8 (wrap64 (x9 + 1)) x447000 x447001)) else (none)) else (none))
end
def F49.f (k : Nat) (a0_0 : ByteArray) (l0_1 : List (S122)) : Option (Bool) := F49.l0 k l0_1 (l0_1.length : Int) 0 a0_0 l0_1
theorem F49.mono_l : ∀ k, (∀ y0 y1 y2 y3 y4, LeO (F49.l0 k y0 y1 y2 y3 y4) (F49.l0 (k + 1) y0 y1 y2 y3 y4)) ∧ (∀ y0 y1 y2 y3 y4 y5 y6 y7 y8, LeO (F49.j1 k y0 y1 y2 y3 y4 y5 y6 y7 y8) (F49.j1 (k + 1) y0 y1 y2 y3 y4 y5 y6 y7 y8))
 | 0 => ⟨fun _ _ _ _ _ r h => by simp [F49.l0] at h, fun _ _ _ _ _ _ _ _ _ r h => by simp [F49.j1] at h⟩
 | k + 1 => by
  obtain ⟨ih0, ih1⟩ := F49.mono_l k
  refine ⟨?_, ?_⟩
  rotate_left
  ·intro y0 y1 y2 y3 y4 y5 y6 y7 y8
   unfold F49.j1
   repeat' with_reducible first | exact ih0 _ _ _ _ _ | exact ih1 _ _ _ _ _ _ _ _ _ | exact F86.mono _ _ | exact LeO.refl _ | exact LeO.none _ | refine LeO.ite ?_ ?_ | refine LeO.bind ?_ (fun _ => ?_)
  intro y0 y1 y2 y3 y4
  unfold F49.l0
  repeat' with_reducible first | exact ih0 _ _ _ _ _ | exact ih1 _ _ _ _ _ _ _ _ _ | exact F86.mono _ _ | exact LeO.refl _ | exact LeO.none _ | refine LeO.ite ?_ ?_ | refine LeO.bind ?_ (fun _ => ?_)
theorem F49.mono : ∀ a0 a1 k, LeO (F49.f k a0 a1) (F49.f (k + 1) a0 a1) := by
 intro a0 a1 k
 obtain ⟨ih0, ih1⟩ := F49.mono_l k
 unfold F49.f
 repeat' with_reducible first | exact ih0 _ _ _ _ _ | exact ih1 _ _ _ _ _ _ _ _ _ | exact F86.mono _ _ | exact LeO.refl _ | exact LeO.none _ | refine LeO.ite ?_ ?_ | refine LeO.bind ?_ (fun _ => ?_)
theorem F49.calls (k : Nat) (a0_0 : ByteArray) (A0_1 : Option Addr) (c0_1 : Nat) (l0_1 : List (S122)) (r : Bool) (w : World) (hr0_1 : Kd.C k122 w A0_1 l0_1.length l0_1) (hc0_1 : l0_1.length ≤ c0_1) (h : F49.f k a0_0 l0_1 = some r) :
  Calls Try.prog 49 #[.agg #[.string a0_0, .slice A0_1 l0_1.length c0_1]] w fun e w' => e = .returned (.bool r) ∧ Below w.heap.size w w' := by
 have hu88 := Try.underlying88
 have hu122 := Try.underlying122
 have HR0_1 := am_ hr0_1
 have HC0_1 := am_ hc0_1
 clear hr0_1 hc0_1
 have HB := am_ (Below.refl w.heap.size w)
 have H : (F49.l0 k l0_1 (l0_1.length : Int) 0 a0_0 l0_1) = some r := h
 clear h
 have H' := am_ H
 clear H
 go_enter Try.func49, Try.ntmps49
 go_wp2_with (first | ((with_reducible refine gate_dst (N := 1) rfl ?_); (try (refine gate_guard (by rfl) ?_; dsimp only)); refine be_ 1 #[.string a0_0, .slice A0_1 l0_1.length c0_1] 88 ?_; intro gb446 hg w2 hbox hb; have BK446 := am_ (hbox); have GW446 := am_ (gw_ hg bl_); have GE446 := GW446; replace HB := hs_ w hb; clear hb hbox hg; obtain ⟨hcz3_0, hcz3_1, hfz3_0, hfz3_1⟩ := cellsF2 BK446.out))
 go_loopg [9] k (fun kq v9 w' => ∃ (x9_1 : Int), v9 = .int .i64 x9_1 ∧ Aside0 (F49.l0 kq l0_1 (l0_1.length : Int) x9_1 a0_0 l0_1 = some r) ∧ Aside0 (kq ≤ k) ∧ Aside0 (w'.heap[gb446]? = some (.cells #[.string a0_0, (.slice A0_1 l0_1.length c0_1)] 88 (0, 0))) ∧ Aside0 (Below w.heap.size w w'))
 case atStart => exact ⟨(0), er_, H', ⟨Nat.le_refl _⟩, ⟨bk_ BK446⟩, ⟨bl_⟩⟩
 case round =>
  clear H'
  try clear hcz3_0 hcz3_1
  try clear hfz3_0 hfz3_1
  obtain ⟨x9_1, rfl, HA, HK1, BK446, HB⟩ := hrel
  cases gk with
  | zero => exact absurd HA.out (by simp [F49.l0])
  | succ k1 =>
   have H := HA.out
   clear HA
   simp only [F49.l0] at H
   replace H := it_ H; rcases H with ⟨c4b0, H⟩ | ⟨c4b0, H⟩
   rotate_left
   ·replace H := bi_ H; rcases H with ⟨t447, A33, H⟩
    replace H := ib_ H; rcases H with ⟨rfl, H⟩ | ⟨rfl, H⟩
    ·obtain rfl := Option.some.inj H
     obtain ⟨hcz35_0, hcz35_1, hfz35_0, hfz35_1⟩ := cellsF2 BK446.out
     go_wp2_with (first | ((with_reducible refine gate_callee (f := 89) rfl ?_); refine gl_ 47 Try.func89 #[.string a0_0] ?_ rfl rfl rfl rfl; (with_reducible refine (F89.calls a0_0 true _ A33.out).mono ?_); rintro e w' ⟨rfl, ⟨nd, rfl⟩⟩; refine ⟨_, rfl, ?_⟩))
     go_ret
     exact ⟨au3_0, bl_⟩
    obtain rfl := Option.some.inj H
    obtain ⟨hcz36_0, hcz36_1, hfz36_0, hfz36_1⟩ := cellsF2 BK446.out
    go_wp2_with (first | ((with_reducible refine gate_callee (f := 89) rfl ?_); refine gl_ 47 Try.func89 #[.string a0_0] ?_ rfl rfl rfl rfl; (with_reducible refine (F89.calls a0_0 false _ A33.out).mono ?_); rintro e w' ⟨rfl, ⟨nd, rfl⟩⟩; refine ⟨_, rfl, ?_⟩))
    go_ret
    exact ⟨au3_0, bl_⟩

   replace H := itn_ H; rcases H with ⟨c5b0, H⟩
   replace H := itn_ H; rcases H with ⟨c6b0, H⟩
   have HC7 := am_ H
   clear H
   have p448 : 0 ≤ (x9_1 : Int) := od_
   have q448 : x9_1 < (l0_1.length : Int) := od_
   obtain ⟨ad448, A448_0, c448_0, e448, hx448_0, hl448_0, hi448_0⟩ := at_T122 HR0_1.out x9_1 p448 q448
   cases e448
   replace hx448_0 := (HB.out.cell (World.block_lt_of_cell? _ _ hx448_0)).trans hx448_0
   have HR448_0 := am_ hi448_0
   have HC448_0 := am_ hl448_0
   clear hi448_0 hl448_0
   replace p448 := eq_true p448
   replace q448 := eq_true q448
   go_upto_region 5 with (first | ((with_reducible refine gate_dst (N := 4) rfl ?_); (try (refine gate_guard (by rfl) ?_; dsimp only)); refine be_ 4 #[.slice none 0 0] 122 ?_; intro gb449 hg w8 hbox hb; have BK449 := am_ (hbox); have GW449 := am_ (gw_ hg bl_); have GE449 := GW449; replace HB := hs_ w hb; have NB446_449 := am_ (gn_ hg (blkl_ BK446)); have NB449_446 := am_ (gm_ hg (blkl_ BK446)); replace BK446 := bb_ BK446 hb; clear hb hbox hg; have hnb9 := NB449_446.out; have hnc9 := NB446_449.out; have hcz10_0 : w8.cell? ⟨gb449, 0, none⟩ = some (.slice none 0 0) := (blk_cell BK449.out 0).trans rfl; have hfz10_0 := blk_frozen BK449.out 0))
   (try simp only [Act.put, List.setIfInBounds_toArray, List.set_cons_zero, List.set_cons_succ])
   go_cut [24] (fun v24 wc => ∃ (kq : Nat) (x24_6 : Bool), v24 = .bool x24_6 ∧ Aside0 (F49.j1 kq x9_1 (((rd_T122 l0_1 x9_1).f0).length : Int) l0_1 (l0_1.length : Int) x9_1 x24_6 a0_0 l0_1 ((rd_T122 l0_1 x9_1).f0) = some r) ∧ Aside0 (kq ≤ k1) ∧ Aside0 (wc.heap[gb446]? = some (.cells #[.string a0_0, (.slice (some ad448) l0_1.length c0_1)] 88 (0, 0))) ∧ Aside0 (wc.heap[gb449]? = some (.cells #[(.slice A448_0 ((rd_T122 l0_1 x9_1).f0).length c448_0)] 122 (0, 0))) ∧ Aside0 (Below w.heap.size w wc))
   case first =>
    have H := HC7.out
    clear HC7
    replace H := bi_ H; rcases H with ⟨t450, A11, H⟩
    replace H := ib_ H; rcases H with ⟨rfl, H⟩ | ⟨rfl, H⟩
    rotate_left
    ·have H' := am_ H
     clear H
     go_wp2_with (first | ((with_reducible refine gate_callee (f := 61) rfl ?_); refine gl_ 18 Try.func61 #[.int .i64 (((rd_T122 l0_1 x9_1).f0).length : Int), .int .i64 1, .int .i64 4] ?_ rfl rfl rfl rfl; (with_reducible refine (F61.calls (((rd_T122 l0_1 x9_1).f0).length : Int) 1 4 false _ A11.out).mono ?_); rintro e w' ⟨rfl, ⟨nd, rfl⟩⟩; refine ⟨_, rfl, ?_⟩))
     go_meet
     case rel => exact ⟨_, (true), er_, H', ⟨au3_12⟩, ⟨bf_ BK446⟩, ⟨bq_ BK449⟩, ⟨bl_⟩⟩
    replace H := bi_ H; rcases H with ⟨t451, A13, H⟩
    have H' := am_ H
    clear H
    go_wp2_with (first | ((with_reducible refine gate_callee (f := 61) rfl ?_); refine gl_ 18 Try.func61 #[.int .i64 (((rd_T122 l0_1 x9_1).f0).length : Int), .int .i64 1, .int .i64 4] ?_ rfl rfl rfl rfl; (with_reducible refine (F61.calls (((rd_T122 l0_1 x9_1).f0).length : Int) 1 4 true _ A11.out).mono ?_); rintro e w' ⟨rfl, ⟨nd, rfl⟩⟩; refine ⟨_, rfl, ?_⟩; have hnb14 := NB449_446.out; have hnc14 := NB446_449.out; have hcz15_0 : w8.cell? ⟨gb449, 0, none⟩ = some (.slice none 0 0) := (blk_cell BK449.out 0).trans rfl; have hfz15_0 := blk_frozen BK449.out 0) | (go_at_call 86; (with_reducible refine (F86.calls k1 _ _ ((rd_T122 l0_1 x9_1).f0)  t451 _ ?s1 ?s2 A13.out).mono ?_); (case s1 => exact Kd.C_below HR448_0.out bl_); (case s2 => exact HC448_0.out); rintro e w' ⟨rfl, ⟨nd, rfl⟩⟩))
    go_meet
    case rel => exact ⟨_, (t451), er_, H', ⟨au3_12⟩, ⟨bf_ BK446⟩, ⟨bq_ BK449⟩, ⟨bl_⟩⟩
   case rest =>
    clear HC7
    try clear c4b0
    try clear c5b0
    try clear c6b0
    try clear hcz10_0
    try clear hcz15_0
    try clear hcz3_0 hcz3_1
    try clear hfz10_0
    try clear hfz15_0
    try clear hfz3_0 hfz3_1
    try clear hx448_0
    try clear p448
    try clear q448
    obtain ⟨kq, x24_6, rfl, HA, HJ6, BK446, BK449, HB⟩ := hcut
    cases kq with
    | zero => exact absurd HA.out (by simp [F49.j1])
    | succ kj6 =>
     have H := HA.out
     clear HA
     simp only [F49.j1] at H
     replace H := ib_ H; rcases H with ⟨rfl, H⟩ | ⟨rfl, H⟩
     ·obtain rfl := Option.some.inj H
      go_wp2
      go_ret
      exact ⟨au3_0, bl_⟩
     obtain ⟨ji17, hji17⟩ : ∃ j_ : Int, (wrap64 ((((rd_T122 l0_1 x9_1).f0).length : Int) - 1)) = j_ := ⟨_, rfl⟩
     replace H : (if 0 ≤ (ji17) then (if (ji17) < (((rd_T122 l0_1 x9_1).f0).length : Int) then (if (rdOf ByteArray.empty ((rd_T122 l0_1 x9_1).f0) (ji17)).toList = ([] : List UInt8) then (if (((rd_T122 l0_1 x9_1).f0).length : Int) > 1 then (some false) else (if x9_1 = (wrap64 ((l0_1.length : Int) - 1)) then (some false) else (F49.l0 kj6 l0_1 (l0_1.length : Int) (wrap64 (x9_1 + 1)) a0_0 l0_1))) else (F49.l0 kj6 l0_1 (l0_1.length : Int) (wrap64 (x9_1 + 1)) a0_0 l0_1)) else (none)) else (none)) = some r := by first | (rw [hji17] at H; exact H) | (simp only [hji17] at H ⊢; exact H)
     have hji17w : (IntKind.i64.wrap ((((rd_T122 l0_1 x9_1).f0).length : Int) - 1)) = ji17 := (i64_w _).trans hji17
     replace H := itn_ H; rcases H with ⟨c18b0, H⟩
     replace H := itn_ H; rcases H with ⟨c19b0, H⟩
     by_cases c20 : (rdOf ByteArray.empty ((rd_T122 l0_1 x9_1).f0) (ji17)).toList = ([] : List UInt8)
     rotate_left
     ·rw [if_neg c20] at H
      have c20b0 : ((rdOf ByteArray.empty ((rd_T122 l0_1 x9_1).f0) (ji17)).toList == ([] : List UInt8)) = false := beq_eq_false_iff_ne.mpr c20
      have c20b1 : ((rdOf ByteArray.empty ((rd_T122 l0_1 x9_1).f0) (ji17)).toList != ([] : List UInt8)) = true := bne_iff_ne.mpr c20
      have H' := am_ H
      clear H
      have hnb31 := NB449_446.out
      have hnc31 := NB446_449.out
      have hcz32_0 : wc.cell? ⟨gb449, 0, none⟩ = some (.slice A448_0 ((rd_T122 l0_1 x9_1).f0).length c448_0) := (blk_cell BK449.out 0).trans rfl
      have hfz32_0 := blk_frozen BK449.out 0
      have p452 : 0 ≤ ((ji17) : Int) := od_
      have q452 : (ji17) < (((rd_T122 l0_1 x9_1).f0).length : Int) := od_
      obtain ⟨ad452, e452, hx452_0⟩ := Kd.at_string HR448_0.out (ji17) p452 q452
      cases e452
      replace hx452_0 := (HB.out.cell (World.block_lt_of_cell? _ _ hx452_0)).trans hx452_0
      replace p452 := eq_true p452
      replace q452 := eq_true q452
      go_wp2
      go_roundg kj6
      case measure => have := HK1.out; have := HJ6.out; omega
      case rel => exact ⟨(wrap64 (x9_1 + 1)), er_, H', ⟨by have := HK1.out; have := HJ6.out; omega⟩, ⟨bk_ BK446⟩, ⟨bl_⟩⟩
     rw [if_pos c20] at H
     have c20b0 : ((rdOf ByteArray.empty ((rd_T122 l0_1 x9_1).f0) (ji17)).toList == ([] : List UInt8)) = true := beq_iff_eq.mpr c20
     have c20b1 : ((rdOf ByteArray.empty ((rd_T122 l0_1 x9_1).f0) (ji17)).toList != ([] : List UInt8)) = false := bne_eq_false_iff_eq.mpr c20
     clear c20
     replace H := it_ H; rcases H with ⟨(c21b0 : decide (1 < (((rd_T122 l0_1 x9_1).f0).length : Int)) = true), H⟩ | ⟨(c21b0 : decide (1 < (((rd_T122 l0_1 x9_1).f0).length : Int)) = false), H⟩
     ·have c21b1 : decide (1 < ((rd_T122 l0_1 x9_1).f0).length) = true := n2_ c21b0
      obtain rfl := Option.some.inj H
      have hnb22 := NB449_446.out
      have hnc22 := NB446_449.out
      have hcz23_0 : wc.cell? ⟨gb449, 0, none⟩ = some (.slice A448_0 ((rd_T122 l0_1 x9_1).f0).length c448_0) := (blk_cell BK449.out 0).trans rfl
      have hfz23_0 := blk_frozen BK449.out 0
      have p452 : 0 ≤ ((ji17) : Int) := od_
      have q452 : (ji17) < (((rd_T122 l0_1 x9_1).f0).length : Int) := od_
      obtain ⟨ad452, e452, hx452_0⟩ := Kd.at_string HR448_0.out (ji17) p452 q452
      cases e452
      replace hx452_0 := (HB.out.cell (World.block_lt_of_cell? _ _ hx452_0)).trans hx452_0
      replace p452 := eq_true p452
      replace q452 := eq_true q452
      go_wp2
      go_ret
      exact ⟨au3_11, bl_⟩
     have c21b1 : decide (1 < ((rd_T122 l0_1 x9_1).f0).length) = false := n2_ c21b0
     by_cases c24 : x9_1 = (wrap64 ((l0_1.length : Int) - 1))
     ·rw [if_pos c24] at H
      have c24b0 : (x9_1 == (wrap64 ((l0_1.length : Int) - 1))) = true := beq_iff_eq.mpr c24
      have c24b1 : (x9_1 != (wrap64 ((l0_1.length : Int) - 1))) = false := bne_eq_false_iff_eq.mpr c24
      clear c24
      obtain rfl := Option.some.inj H
      have hnb25 := NB449_446.out
      have hnc25 := NB446_449.out
      have hcz26_0 : wc.cell? ⟨gb449, 0, none⟩ = some (.slice A448_0 ((rd_T122 l0_1 x9_1).f0).length c448_0) := (blk_cell BK449.out 0).trans rfl
      have hfz26_0 := blk_frozen BK449.out 0
      have p452 : 0 ≤ ((ji17) : Int) := od_
      have q452 : (ji17) < (((rd_T122 l0_1 x9_1).f0).length : Int) := od_
      obtain ⟨ad452, e452, hx452_0⟩ := Kd.at_string HR448_0.out (ji17) p452 q452
      cases e452
      replace hx452_0 := (HB.out.cell (World.block_lt_of_cell? _ _ hx452_0)).trans hx452_0
      replace p452 := eq_true p452
      replace q452 := eq_true q452
      obtain ⟨hcz27_0, hcz27_1, hfz27_0, hfz27_1⟩ := cellsF2 BK446.out
      go_wp2
      go_ret
      exact ⟨au3_11, bl_⟩
     rw [if_neg c24] at H
     have c24b0 : (x9_1 == (wrap64 ((l0_1.length : Int) - 1))) = false := beq_eq_false_iff_ne.mpr c24
     have c24b1 : (x9_1 != (wrap64 ((l0_1.length : Int) - 1))) = true := bne_iff_ne.mpr c24
     have H' := am_ H
     clear H
     have hnb28 := NB449_446.out
     have hnc28 := NB446_449.out
     have hcz29_0 : wc.cell? ⟨gb449, 0, none⟩ = some (.slice A448_0 ((rd_T122 l0_1 x9_1).f0).length c448_0) := (blk_cell BK449.out 0).trans rfl
     have hfz29_0 := blk_frozen BK449.out 0
     have p452 : 0 ≤ ((ji17) : Int) := od_
     have q452 : (ji17) < (((rd_T122 l0_1 x9_1).f0).length : Int) := od_
     obtain ⟨ad452, e452, hx452_0⟩ := Kd.at_string HR448_0.out (ji17) p452 q452
     cases e452
     replace hx452_0 := (HB.out.cell (World.block_lt_of_cell? _ _ hx452_0)).trans hx452_0
     replace p452 := eq_true p452
     replace q452 := eq_true q452
     obtain ⟨hcz30_0, hcz30_1, hfz30_0, hfz30_1⟩ := cellsF2 BK446.out
     go_wp2
     go_roundg kj6
     case measure => have := HK1.out; have := HJ6.out; omega
     case rel => exact ⟨(wrap64 (x9_1 + 1)), er_, H', ⟨by have := HK1.out; have := HJ6.out; omega⟩, ⟨bk_ BK446⟩, ⟨bl_⟩⟩
/-! ### F48: function 48 -/
def F48.f (k : Nat) (a0_0 : ByteArray) (l0_1 : List (S122)) : Option (Bool) := (F49.f k a0_0 l0_1).bind fun t454 => (some (!t454))
theorem F48.mono : ∀ a0 a1 k, LeO (F48.f k a0 a1) (F48.f (k + 1) a0 a1) := by
 intro a0 a1 k
 unfold F48.f
 repeat' with_reducible first | exact F49.mono _ _ _ | exact LeO.refl _ | exact LeO.none _ | refine LeO.ite ?_ ?_ | refine LeO.bind ?_ (fun _ => ?_)
theorem F48.calls (k : Nat) (a0_0 : ByteArray) (A0_1 : Option Addr) (c0_1 : Nat) (l0_1 : List (S122)) (r : Bool) (w : World) (hr0_1 : Kd.C k122 w A0_1 l0_1.length l0_1) (hc0_1 : l0_1.length ≤ c0_1) (h : F48.f k a0_0 l0_1 = some r) :
  Calls Try.prog 48 #[.agg #[.string a0_0, .slice A0_1 l0_1.length c0_1]] w fun e w' => e = .returned (.bool r) ∧ Below w.heap.size w w' := by
 have hu88 := Try.underlying88
 have HR0_1 := am_ hr0_1
 have HC0_1 := am_ hc0_1
 clear hr0_1 hc0_1
 have HB := am_ (Below.refl w.heap.size w)
 have H : ((F49.f k a0_0 l0_1).bind fun t454 => (some (!t454))) = some r := h
 clear h
 replace H := bi_ H; rcases H with ⟨t454, A2, H⟩
 obtain rfl := Option.some.inj H
 go_enter Try.func48, Try.ntmps48
 go_wp2_with (first | ((with_reducible refine gate_dst (N := 1) rfl ?_); refine be_ 1 #[.string a0_0, .slice A0_1 l0_1.length c0_1] 88 ?_; intro gb453 hg w3 hbox hb; have BK453 := am_ (hbox); have GW453 := am_ (gw_ hg bl_); have GE453 := GW453; replace HB := hs_ w hb; clear hb hbox hg; obtain ⟨hcz4_0, hcz4_1, hfz4_0, hfz4_1⟩ := cellsF2 BK453.out) | ((with_reducible refine gate_callee (f := 49) rfl ?_); refine gl_ 4 Try.func49 #[.agg #[.string a0_0, .slice A0_1 l0_1.length c0_1]] ?_ rfl rfl rfl rfl; (with_reducible refine (F49.calls k a0_0 _ _ l0_1 t454 _ ?s1 ?s2 A2.out).mono ?_); (case s1 => repeat (first | exact (Kd.C_below HR0_1.out HB.out) | (with_reducible refine Kd.C_alloc ?_ _) | (with_reducible refine Kd.C_drewN ?_ _) | (with_reducible refine Kd.C_drew ?_))); (case s2 => exact HC0_1.out); rintro e w5 ⟨rfl, hb⟩; refine ⟨_, rfl, ?_⟩; replace BK453 := bb_ BK453 hb; replace HB := hs_ w hb; (try clear hb)))
 go_ret
 exact ⟨au3_0, bl_⟩

/-! ### F92: function 92 -/
def F92.f (a0 : ByteArray) : Option (Bool) := some (decide ((a0.size : Int) > 20000))
theorem F92.calls (a0 : ByteArray) (r : Bool) (w : World) (h : F92.f a0 = some r) :
  Calls Try.prog 92 #[.string a0] w fun e w' => e = .returned (.bool r) ∧ Drawn0 w w' := by
 have H : (some (decide ((a0.size : Int) > 20000))) = some r := h
 clear h
 obtain rfl := Option.some.inj H
 go_enter Try.func92, Try.ntmps92
 go_wp2
 go_ret
 exact ⟨er_, dn_⟩

/-! ### F106a: function 106 -/
def F106a.l0 : Nat → List ByteArray → Int → Int → Option (Int)
  | 0, _, _, _ => none
  | k + 1, x0, x7, x8 => if x8 < x7 then (if 0 ≤ x8 then (if x8 < (x0.length : Int) then ((F92.f (rdOf ByteArray.empty x0 x8)).bind fun t456 => (if t456 = true then (some x8) else (F106a.l0 k x0 x7 (wrap64 (x8 + 1))))) else (none)) else (none)) else (some (-1))
def F106a.f (k : Nat) (l0 : List ByteArray)  : Option (Int) := F106a.l0 k l0 (l0.length : Int) 0
theorem F106a.mono_l : ∀ k, (∀ y0 y1 y2, LeO (F106a.l0 k y0 y1 y2) (F106a.l0 (k + 1) y0 y1 y2))
 | 0 => fun _ _ _ r h => by simp [F106a.l0] at h
 | k + 1 => by
  have ih0 := F106a.mono_l k
  intro y0 y1 y2
  unfold F106a.l0
  repeat' with_reducible first | exact ih0 _ _ _ | exact LeO.refl _ | exact LeO.none _ | refine LeO.ite ?_ ?_ | refine LeO.bind ?_ (fun _ => ?_)
theorem F106a.mono : ∀ a0 k, LeO (F106a.f k a0) (F106a.f (k + 1) a0) := by
 intro a0 k
 have ih0 := F106a.mono_l k
 unfold F106a.f
 repeat' with_reducible first | exact ih0 _ _ _ | exact LeO.refl _ | exact LeO.none _ | refine LeO.ite ?_ ?_ | refine LeO.bind ?_ (fun _ => ?_)
theorem F106a.calls (k : Nat) (A0 : Option Addr) (c0 : Nat) (l0 : List ByteArray)  (r : Int) (w : World) (hr0 : Kd.C Kd.string w A0 l0.length l0) (hc0 : l0.length ≤ c0) (h : F106a.f k l0 = some r) :
  Calls Try.prog 106 #[.slice A0 l0.length c0, .func (.func 92) #[] #[]] w fun e w' => e = .returned (.int .i64 r) ∧ Drawn0 w w' := by
 have HR0 := am_ hr0
 have HC0 := am_ hc0
 clear hr0 hc0
 have H : (F106a.l0 k l0 (l0.length : Int) 0) = some r := h
 clear h
 have H' := am_ H
 clear H
 go_enter Try.func106, Try.ntmps106
 go_wp2
 go_loopg [8] k (fun kq v8 w' => ∃ (x8_1 : Int), v8 = .int .i64 x8_1 ∧ Aside0 (F106a.l0 kq l0 (l0.length : Int) x8_1 = some r) ∧ Aside0 (kq ≤ k) ∧ Drawn0 w w')
 case atStart => exact ⟨(0), er_, H', ⟨Nat.le_refl _⟩, dn_⟩
 case round =>
  clear H'
  obtain ⟨x8_1, rfl, HA, HK1, ⟨m1, rfl⟩⟩ := hrel
  cases gk with
  | zero => exact absurd HA.out (by simp [F106a.l0])
  | succ k1 =>
   have H := HA.out
   clear HA
   simp only [F106a.l0] at H
   replace H := it_ H; rcases H with ⟨c3b0, H⟩ | ⟨c3b0, H⟩
   rotate_left
   ·obtain rfl := Option.some.inj H
    go_wp2
    go_ret
    exact ⟨er_, dn_⟩

   replace H := itn_ H; rcases H with ⟨c4b0, H⟩
   replace H := itn_ H; rcases H with ⟨c5b0, H⟩
   replace H := bi_ H; rcases H with ⟨t456, A6, H⟩
   replace H := ib_ H; rcases H with ⟨rfl, H⟩ | ⟨rfl, H⟩
   ·obtain rfl := Option.some.inj H
    have p455 : 0 ≤ (x8_1 : Int) := od_
    have q455 : x8_1 < (l0.length : Int) := od_
    obtain ⟨ad455, e455, hx455_0⟩ := Kd.at_string HR0.out x8_1 p455 q455
    cases e455
    replace p455 := eq_true p455
    replace q455 := eq_true q455
    go_wp2_with (first | (go_at_call 92; (with_reducible refine (F92.calls (rdOf ByteArray.empty l0 x8_1) true _ A6.out).mono ?_); rintro e w' ⟨rfl, ⟨nd, rfl⟩⟩))
    go_ret
    exact ⟨er_, dn_⟩
   have H' := am_ H
   clear H
   have p455 : 0 ≤ (x8_1 : Int) := od_
   have q455 : x8_1 < (l0.length : Int) := od_
   obtain ⟨ad455, e455, hx455_0⟩ := Kd.at_string HR0.out x8_1 p455 q455
   cases e455
   replace p455 := eq_true p455
   replace q455 := eq_true q455
   go_wp2_with (first | (go_at_call 92; (with_reducible refine (F92.calls (rdOf ByteArray.empty l0 x8_1) false _ A6.out).mono ?_); rintro e w' ⟨rfl, ⟨nd, rfl⟩⟩))
   go_roundg k1
   case measure => have := HK1.out; omega
   case rel => exact ⟨(wrap64 (x8_1 + 1)), er_, H', ⟨by have := HK1.out; omega⟩, dn_⟩
/-! ### F86a: function 86 -/
def F86a.f (k : Nat) (l0 : List ByteArray)  : Option (Bool) := (F106a.f k l0).bind fun t457 => (some (decide (t457 ≥ 0)))
theorem F86a.mono : ∀ a0 k, LeO (F86a.f k a0) (F86a.f (k + 1) a0) := by
 intro a0 k
 unfold F86a.f
 repeat' with_reducible first | exact F106a.mono _ _ | exact LeO.refl _ | exact LeO.none _ | refine LeO.ite ?_ ?_ | refine LeO.bind ?_ (fun _ => ?_)
theorem F86a.calls (k : Nat) (A0 : Option Addr) (c0 : Nat) (l0 : List ByteArray)  (r : Bool) (w : World) (hr0 : Kd.C Kd.string w A0 l0.length l0) (hc0 : l0.length ≤ c0) (h : F86a.f k l0 = some r) :
  Calls Try.prog 86 #[.slice A0 l0.length c0, .func (.func 92) #[] #[]] w fun e w' => e = .returned (.bool r) ∧ Drawn0 w w' := by
 have HR0 := am_ hr0
 have HC0 := am_ hc0
 clear hr0 hc0
 have H : ((F106a.f k l0).bind fun t457 => (some (decide (t457 ≥ 0)))) = some r := h
 clear h
 replace H := bi_ H; rcases H with ⟨t457, A3, H⟩
 obtain rfl := Option.some.inj H
 go_enter Try.func86, Try.ntmps86
 go_wp2_with (first | ((with_reducible refine gate_callee (f := 106) rfl ?_); refine gl_ 7 Try.func106 #[.slice A0 l0.length c0, .func (.func 92) #[] #[]] ?_ rfl rfl rfl rfl; (with_reducible refine (F106a.calls k _ _ l0  t457 _ ?s1 ?s2 A3.out).mono ?_); (case s1 => exact au3_3); (case s2 => exact HC0.out); rintro e w' ⟨rfl, ⟨nd, rfl⟩⟩; refine ⟨_, rfl, ?_⟩))
 go_ret
 exact ⟨er_, dn_⟩

/-! ### F51: function 51 -/
def F51.f (k : Nat) (l0 : List ByteArray) : Option (Bool) := (F86a.f k l0).bind fun t458 => (some t458)
theorem F51.mono : ∀ a0 k, LeO (F51.f k a0) (F51.f (k + 1) a0) := by
 intro a0 k
 unfold F51.f
 repeat' with_reducible first | exact F86a.mono _ _ | exact LeO.refl _ | exact LeO.none _ | refine LeO.ite ?_ ?_ | refine LeO.bind ?_ (fun _ => ?_)
theorem F51.calls (k : Nat) (A0 : Option Addr) (c0 : Nat) (l0 : List ByteArray) (r : Bool) (w : World) (hr0 : Kd.C Kd.string w A0 l0.length l0) (hc0 : l0.length ≤ c0) (h : F51.f k l0 = some r) :
  Calls Try.prog 51 #[.slice A0 l0.length c0] w fun e w' => e = .returned (.bool r) ∧ Drawn0 w w' := by
 have HR0 := am_ hr0
 have HC0 := am_ hc0
 clear hr0 hc0
 have H : ((F86a.f k l0).bind fun t458 => (some t458)) = some r := h
 clear h
 replace H := bi_ H; rcases H with ⟨t458, A2, H⟩
 obtain rfl := Option.some.inj H
 go_enter Try.func51, Try.ntmps51
 go_wp2_with (first | ((with_reducible refine gate_callee (f := 86) rfl ?_); refine gl_ 4 Try.func86 #[.slice A0 l0.length c0, .func (.func 92) #[] #[]] ?_ rfl rfl rfl rfl; (with_reducible refine (F86a.calls k _ _ l0  t458 _ ?s1 ?s2 A2.out).mono ?_); (case s1 => exact au3_3); (case s2 => exact HC0.out); rintro e w' ⟨rfl, ⟨nd, rfl⟩⟩; refine ⟨_, rfl, ?_⟩))
 go_ret
 exact ⟨er_, dn_⟩

/-! ### F119: function 119 -/
def F119.f (k : Nat) (a0_0 : Int) (a0_1 : Int) (a0_2 : Int) (a0_3 : Int) (a1 : Int) : Option (Bool) := (F81.f a0_0 a0_1 a0_2 a0_3).bind fun t460 => ((F82.f k t460 (wrap64 (a1))).bind fun t463 => (some t463))
theorem F119.mono : ∀ a0 a1 a2 a3 a4 k, LeO (F119.f k a0 a1 a2 a3 a4) (F119.f (k + 1) a0 a1 a2 a3 a4) := by
 intro a0 a1 a2 a3 a4 k
 unfold F119.f
 repeat' with_reducible first | exact F82.mono _ _ _ | exact LeO.refl _ | exact LeO.none _ | refine LeO.ite ?_ ?_ | refine LeO.bind ?_ (fun _ => ?_)
theorem F119.calls (k : Nat) (a0_0 : Int) (a0_1 : Int) (a0_2 : Int) (a0_3 : Int) (a1 : Int) (r : Bool) (w : World) (h : F119.f k a0_0 a0_1 a0_2 a0_3 a1 = some r) :
  Calls Try.prog 119 #[.agg #[.int .i64 a0_0, .int .i64 a0_1, .int .i64 a0_2, .int .i64 a0_3], .int .u8 a1] w fun e w' => e = .returned (.bool r) ∧ Below w.heap.size w w' := by
 have hu45 := Try.underlying45
 have HB := am_ (Below.refl w.heap.size w)
 have H : ((F81.f a0_0 a0_1 a0_2 a0_3).bind fun t460 => ((F82.f k t460 (wrap64 (a1))).bind fun t463 => (some t463))) = some r := h
 clear h
 replace H := bi_ H; rcases H with ⟨t460, A3, H⟩
 replace H := bi_ H; rcases H with ⟨t463, A4, H⟩
 obtain rfl := Option.some.inj H
 go_enter Try.func119, Try.ntmps119
 go_wp2_with (first | ((with_reducible refine gate_dst (N := 2) rfl ?_); refine be_ 2 #[.int .i64 a0_0, .int .i64 a0_1, .int .i64 a0_2, .int .i64 a0_3] 45 ?_; intro gb459 hg w5 hbox hb; have BK459 := am_ (hbox); have GW459 := am_ (gw_ hg bl_); have GE459 := GW459; replace HB := hs_ w hb; clear hb hbox hg; obtain ⟨hcz6_0, hcz6_1, hcz6_2, hcz6_3, hfz6_0, hfz6_1, hfz6_2, hfz6_3⟩ := cellsF4 BK459.out) | ((with_reducible refine gate_callee (f := 81) rfl ?_); refine gl_ 6 Try.func81 #[.agg #[.int .i64 a0_0, .int .i64 a0_1, .int .i64 a0_2, .int .i64 a0_3]] ?_ rfl rfl rfl rfl; (with_reducible refine (F81.calls a0_0 a0_1 a0_2 a0_3 t460 _ A3.out).mono ?_); rintro e w7 ⟨v461, rfl, ho0, hb⟩; refine ⟨_, rfl, ?_⟩; have HO462 := am_ (Kd.R_lower ho0 (below_size bl_)); replace BK459 := bb_ BK459 hb; replace HB := hs_ w hb; (try clear hb); (try clear ho0); obtain ⟨Ao8, co8, eo8⟩ := Kd.R_slice HO462.out; subst eo8) | ((with_reducible refine gate_callee (f := 82) rfl ?_); refine gl_ 9 Try.func82 #[.slice Ao8 t460.length co8, .int .i64 (wrap64 (a1))] ?_ rfl rfl rfl rfl; (with_reducible refine (F82.calls k _ _ t460 (wrap64 (a1)) t463 _ ?s1 ?s2 A4.out).mono ?_); (case s1 => repeat (first | exact (Kd.R_reads' HO462.out).2.2 | (with_reducible refine Kd.C_alloc ?_ _) | (with_reducible refine Kd.C_drewN ?_ _) | (with_reducible refine Kd.C_drew ?_))); (case s2 => exact (Kd.R_reads' HO462.out).2.1); rintro e w' ⟨rfl, ⟨nd, rfl⟩⟩; refine ⟨_, rfl, ?_⟩))
 go_ret
 exact ⟨au3_0, bl_⟩

/-! ### F108: function 108 -/
def F108.l0 : Nat → ByteArray → List Int → Int → Int → Int → Int → Int → Int → Option (ByteArray)
  | 0, _, _, _, _, _, _, _, _ => none
  | k + 1, x1, x5, x9, x10, x465000, x465001, x465002, x465003 => if x10 < x9 then (if 0 ≤ x10 then (if x10 < (x1.size : Int) then ((F119.f k x465000 x465001 x465002 x465003 (bt x1 x10)).bind fun t468 => (if t468 = true then (if x5.length < 140737488355328 then ((some (x5 ++ [(x465003) % 256] : List Int)).bind fun y469 => (if y469.length < 140737488355328 then (F108.l0 k x1 (y469 ++ [bt x1 x10]) x9 (wrap64 (x10 + 1)) x465000 x465001 x465002 x465003) else (none))) else (none)) else (if x5.length < 140737488355328 then (F108.l0 k x1 (x5 ++ [bt x1 x10]) x9 (wrap64 (x10 + 1)) x465000 x465001 x465002 x465003) else (none)))) else (none)) else (none)) else (some (strOfNums x5))
def F108.f (k : Nat) (a0_0 : Int) (a0_1 : Int) (a0_2 : Int) (a0_3 : Int) (a1 : ByteArray) : Option (ByteArray) := F108.l0 k a1 (([] : List Int)) (a1.size : Int) 0 a0_0 a0_1 a0_2 a0_3
theorem F108.mono_l : ∀ k, (∀ y0 y1 y2 y3 y4 y5 y6 y7, LeO (F108.l0 k y0 y1 y2 y3 y4 y5 y6 y7) (F108.l0 (k + 1) y0 y1 y2 y3 y4 y5 y6 y7))
 | 0 => fun _ _ _ _ _ _ _ _ r h => by simp [F108.l0] at h
 | k + 1 => by
  have ih0 := F108.mono_l k
  intro y0 y1 y2 y3 y4 y5 y6 y7
  unfold F108.l0
  repeat' with_reducible first | exact ih0 _ _ _ _ _ _ _ _ | exact F119.mono _ _ _ _ _ _ | exact LeO.refl _ | exact LeO.none _ | refine LeO.ite ?_ ?_ | refine LeO.bind ?_ (fun _ => ?_)
theorem F108.mono : ∀ a0 a1 a2 a3 a4 k, LeO (F108.f k a0 a1 a2 a3 a4) (F108.f (k + 1) a0 a1 a2 a3 a4) := by
 intro a0 a1 a2 a3 a4 k
 have ih0 := F108.mono_l k
 unfold F108.f
 repeat' with_reducible first | exact ih0 _ _ _ _ _ _ _ _ | exact F119.mono _ _ _ _ _ _ | exact LeO.refl _ | exact LeO.none _ | refine LeO.ite ?_ ?_ | refine LeO.bind ?_ (fun _ => ?_)
theorem F108.calls (k : Nat) (a0_0 : Int) (a0_1 : Int) (a0_2 : Int) (a0_3 : Int) (a1 : ByteArray) (r : ByteArray) (w : World) (h : F108.f k a0_0 a0_1 a0_2 a0_3 a1 = some r) :
  Calls Try.prog 108 #[.agg #[.int .i64 a0_0, .int .i64 a0_1, .int .i64 a0_2, .int .i64 a0_3], .string a1] w fun e w' => e = .returned (.string r) ∧ Below w.heap.size w w' := by
 have hu45 := Try.underlying45
 have HB := am_ (Below.refl w.heap.size w)
 have H : (F108.l0 k a1 (([] : List Int)) (a1.size : Int) 0 a0_0 a0_1 a0_2 a0_3) = some r := h
 clear h
 obtain ⟨y465, hy465⟩ : ∃ y_ : List Int, y_ = (([] : List Int)) := ⟨_, rfl⟩
 replace H : (F108.l0 k a1 y465 (a1.size : Int) 0 a0_0 a0_1 a0_2 a0_3) = some r := by first | (rw [hy465]; exact H) | exact H
 have Ny465 := am_ hy465
 clear hy465
 have H' := am_ H
 clear H
 go_enter Try.func108, Try.ntmps108
 go_wp2_with (first | ((with_reducible refine gate_dst (N := 2) rfl ?_); refine be_ 2 #[.int .i64 a0_0, .int .i64 a0_1, .int .i64 a0_2, .int .i64 a0_3] 45 ?_; intro gb464 hg w3 hbox hb; have BK464 := am_ (hbox); have GW464 := am_ (gw_ hg bl_); have GE464 := GW464; replace HB := hs_ w hb; clear hb hbox hg) | ((with_reducible refine gate_dst (N := 7) rfl ?_); refine Kd.R_lit (Kd.int .u8) _ 5 ?hg (N := 7) ?hd (xs := ([] : List Int)) (inner := []) (ok := fun _ => True) (okp := fun _ => True) ?hr ?hp (fun _ hk => hk) trivial (Below.refl _ _) (Nat.le_refl _) (by simp) ?_; (case hd => rfl); (case hg => rfl); (case hr => exact hr_); (case hp => exact (Reps.none _ _)); intro v466 w4 ho5 hb hg_ hnew_; clear hg_ hnew_; (first | rw [← Ny465.out] at ho5 | (simp only [Int.reduceToNat] at ho5; rw [← Ny465.out] at ho5)); have HO467 := am_ (Kd.R_lower ho5 (below_size bl_)); replace BK464 := bb_ BK464 hb; replace HB := hs_ w hb; clear hb ho5))
 go_loopg [5, 10] k (fun kq v5 v10 w' => ∃ (x5_1 : List Int) (x10_1 : Int), v10 = .int .i64 x10_1 ∧ Aside0 (F108.l0 kq a1 x5_1 (a1.size : Int) x10_1 a0_0 a0_1 a0_2 a0_3 = some r) ∧ Aside0 (kq ≤ k) ∧ Aside0 (Kd.R (Kd.int .u8) 5 w' w.heap.size (fun _ => True) v5 x5_1) ∧ Aside0 (w'.heap[gb464]? = some (.cells #[.int .i64 a0_0, .int .i64 a0_1, .int .i64 a0_2, .int .i64 a0_3] 45 (0, 0))) ∧ Aside0 (Below w.heap.size w w'))
 case atStart => exact ⟨(y465), (0), er_, H', ⟨Nat.le_refl _⟩, ⟨rk_ HO467⟩, ⟨bk_ BK464⟩, ⟨bl_⟩⟩
 case round =>
  clear H'
  obtain ⟨x5_1, x10_1, rfl, HA, HK1, HO_5, BK464, HB⟩ := hrel
  cases gk with
  | zero => exact absurd HA.out (by simp [F108.l0])
  | succ k1 =>
   have H := HA.out
   clear HA
   simp only [F108.l0] at H
   replace H := it_ H; rcases H with ⟨c6b0, H⟩ | ⟨c6b0, H⟩
   rotate_left
   ·obtain rfl := Option.some.inj H
    have hcv25 := own_string (P := Try.prog) Try.underlying43 Try.underlying5 Try.underlying9 (Kd.own_of_R HO_5.out)
    go_wp2
    go_ret
    exact ⟨au3_0, bl_⟩

   replace H := itn_ H; rcases H with ⟨c7b0, H⟩
   replace H := itn_ H; rcases H with ⟨c8b0, H⟩
   replace H := bi_ H; rcases H with ⟨t468, A10, H⟩
   replace H := ib_ H; rcases H with ⟨rfl, H⟩ | ⟨rfl, H⟩
   rotate_left
   ·replace H := iln_ H; rcases H with ⟨LMc21, H⟩
    obtain ⟨y475, hy475⟩ : ∃ y_ : List Int, y_ = (x5_1 ++ [bt a1 x10_1]) := ⟨_, rfl⟩
    replace H : (F108.l0 k1 a1 y475 (a1.size : Int) (wrap64 (x10_1 + 1)) a0_0 a0_1 a0_2 a0_3) = some r := by first | (rw [hy475]; exact H) | exact H
    have Ny475 := am_ hy475
    clear hy475
    have H' := am_ H
    clear H
    try go_wp2
    replace HO_5 := am_ (Kd.R_drew HO_5.out)
    replace BK464 := bd_ BK464
    replace HB := am_ (below_drew1 HB.out)
    have p9 : 0 ≤ (x10_1 : Int) := od_
    have q9 : x10_1 < (a1.size : Int) := od_
    have hx9 := bt_at a1 x10_1
    replace p9 := eq_true p9
    replace q9 := eq_true q9
    refine start_ (n := 5) (S := fun w' => w'.cell? ⟨gb464, 0, none⟩ = some (.int .i64 a0_0) ∧ w'.cell? ⟨gb464, 1, none⟩ = some (.int .i64 a0_1) ∧ w'.cell? ⟨gb464, 2, none⟩ = some (.int .i64 a0_2) ∧ w'.cell? ⟨gb464, 3, none⟩ = some (.int .i64 a0_3)) (ds := []) #[false, false, false, false, false] (by kernel_rfl) rfl rfl ⟨(blk_cell BK464.out 0).trans rfl, (blk_cell BK464.out 1).trans rfl, (blk_cell BK464.out 2).trans rfl, (blk_cell BK464.out 3).trans rfl⟩ (fun hHeld => ?_)
    generalize wr.drew = w22 at HO_5 BK464 HB hHeld ⊢
    refine pk_ 1 14 #[false, true, false, false, false] ?_ rfl rfl
    refine pk_ 2 15 #[false, true, true, false, false] ?_ rfl rfl
    refine take_ (i := 0) (N := some 13) (v := ?_) (a' := ?_) #[true, true, true, false, false] rfl rfl (by kernel_rfl) (fun _ _ _ h => h) (Or.inl ⟨by rfl, ?_⟩) hHeld ?_ ?_
    rotate_left
    ·rintro w' ⟨s0, s1, s2, s3⟩
     go_simp
     with_reducible rfl
    rotate_left
    ·simp only [Act.put, List.setIfInBounds_toArray, List.set_cons_zero, List.set_cons_succ, i64_w, i32_w]
     rfl
    refine take_ (i := 3) (N := some 16) (v := ?_) (a' := ?_) #[true, true, true, true, false] rfl rfl (by kernel_rfl) (fun _ _ _ h => h) (Or.inl ⟨by rfl, ?_⟩) hHeld ?_ ?_
    rotate_left
    ·rintro w' ⟨s0, s1, s2, s3⟩
     go_simp
     with_reducible rfl
    rotate_left
    ·simp only [Act.put, List.setIfInBounds_toArray, List.set_cons_zero, List.set_cons_succ, i64_w, i32_w]
     rfl
    refine one_ (i := 4) (N := some 17) #[true, true, true, true, true] rfl rfl (by kernel_rfl) (by decide) (fun K hK => ?_)
    refine gr_ Try.func119 #[.agg #[.int .i64 a0_0, .int .i64 a0_1, .int .i64 a0_2, .int .i64 a0_3], .int .u8 (bt a1 x10_1)] (by rfl) ?_ rfl rfl rfl
    with_reducible refine (F119.calls k1 a0_0 a0_1 a0_2 a0_3 (bt a1 x10_1) false _ A10.out).mono ?_
    rintro e w23 ⟨rfl, hb⟩
    refine ⟨_, rfl, ?_⟩
    replace HO_5 := am_ (Kd.R_below (rk_ HO_5) hb)
    replace BK464 := bb_ BK464 hb
    replace HB := hs_ w hb
    (try clear hb)
    (try clear hb2)
    (try clear hk)
    (try clear hi)
    refine hK.out _ _ ⟨(blk_cell BK464.out 0).trans rfl, (blk_cell BK464.out 1).trans rfl, (blk_cell BK464.out 2).trans rfl, (blk_cell BK464.out 3).trans rfl⟩ (fun hHeld => ?_)
    clear hK K
    refine no_ 17 ?_
    refine done_ (by kernel_rfl) ?_
    have p20 : 0 ≤ (x10_1 : Int) := od_
    have q20 : x10_1 < (a1.size : Int) := od_
    have hx20 := bt_at a1 x10_1
    replace p20 := eq_true p20
    replace q20 := eq_true q20
    try go_wp2_with (first | ((with_reducible refine gate_builtin (b := .append) (xs := #[.tmp 24, .tmp 28]) rfl ?_); at_builtin; refine Kd.R_append (Kd.int .u8) (w0 := w) w.heap.size rfl (.tmp 24) (.tmp 28) 43 5 (.int .u8 0) 1 rfl Try.underlying43 info5 rfl (by decide) (by omega) u5 x5_1 (bt a1 x10_1) [.int .u8 (bt a1 x10_1)] (fun _ => True) (fun _ => False) rfl rfl ?aP (fun _ hk => hk.elim) ?aF ?aO ?aB ?aS ?aL ?_; (case aP => exact rfl); (case aB => exact bl_); (case aF => exact (fun _ _ => trivial)); (case aO => exact (rk_ HO_5)); (case aS => exact (below_size bl_)); (case aL => have := LMc21.out; omega); intro v476 w24 ho hb hg hat; rw [← Ny475.out] at ho; have n0_ := am_ (bg_ BK464 hg (Kd.R_ne HO_5.out BK464.out (by decide))); have n1_ := am_ (hb); have n2_ := am_ (ho); clear BK464; clear HB; clear HO_5; have BK464 := n0_; have HB := n1_; have HO477 := n2_; clear n0_ n1_ n2_; clear ho hb hg hat))
    go_roundg k1
    case measure => have := HK1.out; omega
    case rel => exact ⟨(y475), (wrap64 (x10_1 + 1)), er_, H', ⟨by have := HK1.out; omega⟩, ⟨rk_ HO477⟩, ⟨bk_ BK464⟩, ⟨bl_⟩⟩
   replace H := iln_ H; rcases H with ⟨LMc12, H⟩
   obtain ⟨y469, hy469⟩ : ∃ y_ : List Int, y_ = (x5_1 ++ [(a0_3) % 256]) := ⟨_, rfl⟩
   replace H : (if y469.length < 140737488355328 then (F108.l0 k1 a1 (y469 ++ [bt a1 x10_1]) (a1.size : Int) (wrap64 (x10_1 + 1)) a0_0 a0_1 a0_2 a0_3) else (none)) = some r := by first | (rw [hy469]; exact H) | exact H
   have Ny469 := am_ hy469
   clear hy469
   replace H := iln_ H; rcases H with ⟨LMc14, H⟩
   obtain ⟨y472, hy472⟩ : ∃ y_ : List Int, y_ = (y469 ++ [bt a1 x10_1]) := ⟨_, rfl⟩
   replace H : (F108.l0 k1 a1 y472 (a1.size : Int) (wrap64 (x10_1 + 1)) a0_0 a0_1 a0_2 a0_3) = some r := by first | (rw [hy472]; exact H) | exact H
   have Ny472 := am_ hy472
   clear hy472
   have H' := am_ H
   clear H
   try go_wp2
   replace HO_5 := am_ (Kd.R_drew HO_5.out)
   replace BK464 := bd_ BK464
   replace HB := am_ (below_drew1 HB.out)
   have p9 : 0 ≤ (x10_1 : Int) := od_
   have q9 : x10_1 < (a1.size : Int) := od_
   have hx9 := bt_at a1 x10_1
   replace p9 := eq_true p9
   replace q9 := eq_true q9
   refine start_ (n := 5) (S := fun w' => w'.cell? ⟨gb464, 0, none⟩ = some (.int .i64 a0_0) ∧ w'.cell? ⟨gb464, 1, none⟩ = some (.int .i64 a0_1) ∧ w'.cell? ⟨gb464, 2, none⟩ = some (.int .i64 a0_2) ∧ w'.cell? ⟨gb464, 3, none⟩ = some (.int .i64 a0_3)) (ds := []) #[false, false, false, false, false] (by kernel_rfl) rfl rfl ⟨(blk_cell BK464.out 0).trans rfl, (blk_cell BK464.out 1).trans rfl, (blk_cell BK464.out 2).trans rfl, (blk_cell BK464.out 3).trans rfl⟩ (fun hHeld => ?_)
   generalize wr.drew = w15 at HO_5 BK464 HB hHeld ⊢
   refine pk_ 1 14 #[false, true, false, false, false] ?_ rfl rfl
   refine pk_ 2 15 #[false, true, true, false, false] ?_ rfl rfl
   refine take_ (i := 0) (N := some 13) (v := ?_) (a' := ?_) #[true, true, true, false, false] rfl rfl (by kernel_rfl) (fun _ _ _ h => h) (Or.inl ⟨by rfl, ?_⟩) hHeld ?_ ?_
   rotate_left
   ·rintro w' ⟨s0, s1, s2, s3⟩
    go_simp
    with_reducible rfl
   rotate_left
   ·simp only [Act.put, List.setIfInBounds_toArray, List.set_cons_zero, List.set_cons_succ, i64_w, i32_w]
    rfl
   refine take_ (i := 3) (N := some 16) (v := ?_) (a' := ?_) #[true, true, true, true, false] rfl rfl (by kernel_rfl) (fun _ _ _ h => h) (Or.inl ⟨by rfl, ?_⟩) hHeld ?_ ?_
   rotate_left
   ·rintro w' ⟨s0, s1, s2, s3⟩
    go_simp
    with_reducible rfl
   rotate_left
   ·simp only [Act.put, List.setIfInBounds_toArray, List.set_cons_zero, List.set_cons_succ, i64_w, i32_w]
    rfl
   refine one_ (i := 4) (N := some 17) #[true, true, true, true, true] rfl rfl (by kernel_rfl) (by decide) (fun K hK => ?_)
   refine gr_ Try.func119 #[.agg #[.int .i64 a0_0, .int .i64 a0_1, .int .i64 a0_2, .int .i64 a0_3], .int .u8 (bt a1 x10_1)] (by rfl) ?_ rfl rfl rfl
   with_reducible refine (F119.calls k1 a0_0 a0_1 a0_2 a0_3 (bt a1 x10_1) true _ A10.out).mono ?_
   rintro e w16 ⟨rfl, hb⟩
   refine ⟨_, rfl, ?_⟩
   replace HO_5 := am_ (Kd.R_below (rk_ HO_5) hb)
   replace BK464 := bb_ BK464 hb
   replace HB := hs_ w hb
   (try clear hb)
   (try clear hb2)
   (try clear hk)
   (try clear hi)
   refine hK.out _ _ ⟨(blk_cell BK464.out 0).trans rfl, (blk_cell BK464.out 1).trans rfl, (blk_cell BK464.out 2).trans rfl, (blk_cell BK464.out 3).trans rfl⟩ (fun hHeld => ?_)
   clear hK K
   refine no_ 17 ?_
   refine done_ (by kernel_rfl) ?_
   obtain ⟨hcz17_0, hcz17_1, hcz17_2, hcz17_3, hfz17_0, hfz17_1, hfz17_2, hfz17_3⟩ := cellsF4 BK464.out
   try go_wp2_with (first | ((with_reducible refine gate_builtin (b := .append) (xs := #[.tmp 18, .tmp 22]) rfl ?_); at_builtin; refine Kd.R_append (Kd.int .u8) (w0 := w) w.heap.size rfl (.tmp 18) (.tmp 22) 43 5 (.int .u8 0) 1 rfl Try.underlying43 info5 rfl (by decide) (by omega) u5 x5_1 ((a0_3) % 256) [.int .u8 ((a0_3) % 256)] (fun _ => True) (fun _ => False) rfl rfl ?aP (fun _ hk => hk.elim) ?aF ?aO ?aB ?aS ?aL ?_; (case aP => exact rfl); (case aB => exact bl_); (case aF => exact (fun _ _ => trivial)); (case aO => exact (rk_ HO_5)); (case aS => exact (below_size bl_)); (case aL => have := LMc12.out; omega); intro v470 w18 ho hb hg hat; rw [← Ny469.out] at ho; have n0_ := am_ (bg_ BK464 hg (Kd.R_ne HO_5.out BK464.out (by decide))); have n1_ := am_ (hb); have n2_ := am_ (ho); clear BK464; clear HB; clear HO_5; have BK464 := n0_; have HB := n1_; have HO471 := n2_; clear n0_ n1_ n2_; clear ho hb hg hat; have p13 : 0 ≤ (x10_1 : Int) := od_; have q13 : x10_1 < (a1.size : Int) := od_; have hx13 := bt_at a1 x10_1; replace p13 := eq_true p13; replace q13 := eq_true q13) | ((with_reducible refine gate_builtin (b := .append) (xs := #[.tmp 24, .tmp 28]) rfl ?_); at_builtin; refine Kd.R_append (Kd.int .u8) (w0 := w) w.heap.size rfl (.tmp 24) (.tmp 28) 43 5 (.int .u8 0) 1 rfl Try.underlying43 info5 rfl (by decide) (by omega) v470 y469 (bt a1 x10_1) [.int .u8 (bt a1 x10_1)] (fun _ => True) (fun _ => False) rfl rfl ?aP (fun _ hk => hk.elim) ?aF ?aO ?aB ?aS ?aL ?_; (case aP => exact rfl); (case aB => exact bl_); (case aF => exact (fun _ _ => trivial)); (case aO => exact (rk_ HO471)); (case aS => exact (below_size bl_)); (case aL => have := LMc14.out; omega); intro v473 w19 ho hb hg hat; rw [← Ny472.out] at ho; have n0_ := am_ (bg_ BK464 hg (Kd.R_ne HO471.out BK464.out (by decide))); have n1_ := am_ (hb); have n2_ := am_ (ho); clear BK464; clear HB; clear HO471; have BK464 := n0_; have HB := n1_; have HO474 := n2_; clear n0_ n1_ n2_; clear ho hb hg hat))
   go_roundg k1
   case measure => have := HK1.out; omega
   case rel => exact ⟨(y472), (wrap64 (x10_1 + 1)), er_, H', ⟨by have := HK1.out; omega⟩, ⟨rk_ HO474⟩, ⟨bk_ BK464⟩, ⟨bl_⟩⟩
/-! ### F90: function 90 -/
mutual
def F90.l0 : Nat → List Int → List (S122) → Int → Int → Int → Int → Int → Int → Option (ByteArray)
  | 0, _, _, _, _, _, _, _, _ => none
  | k + 1, x5, x14, x15, x16, x479000, x479001, x479002, x479003 => if x16 < x15 then (if 0 ≤ x16 then (if x16 < (x14.length : Int) then (if x5.length < 140737488355328 then (F90.l1 k (x5 ++ [(x479001) % 256]) x14 x15 x16 ((rd_T122 x14 x16).f0) (((rd_T122 x14 x16).f0).length : Int) 0 x479000 x479001 x479002 x479003) else (none)) else (none)) else (none)) else (if x5.length < 140737488355328 then (some (strOfNums (x5 ++ [(x479000) % 256]))) else (none))
def F90.l1 : Nat → List Int → List (S122) → Int → Int → List ByteArray → Int → Int → Int → Int → Int → Int → Option (ByteArray)
  | 0, _, _, _, _, _, _, _, _, _, _, _ => none
  | k + 1, x5, x14, x15, x16, x27, x28, x29, x479000, x479001, x479002, x479003 => if x29 < x28 then (if 0 ≤ x29 then (if x29 < (x27.length : Int) then (if x29 > 0 then (if x5.length < 140737488355328 then ((some (x5 ++ [(x479002) % 256] : List Int)).bind fun y492 => ((F108.f k x479000 x479001 x479002 x479003 (rdOf ByteArray.empty x27 x29)).bind fun t495 => (if y492.length + t495.size < 140737488355328 then (F90.l1 k (y492 ++ bytesOf t495) x14 x15 x16 x27 x28 (wrap64 (x29 + 1)) x479000 x479001 x479002 x479003) else (none)))) else (none)) else ((F108.f k x479000 x479001 x479002 x479003 (rdOf ByteArray.empty x27 x29)).bind fun t499 => (if x5.length + t499.size < 140737488355328 then (F90.l1 k (x5 ++ bytesOf t499) x14 x15 x16 x27 x28 (wrap64 (x29 + 1)) x479000 x479001 x479002 x479003) else (none)))) else (none)) else (none)) else (F90.l0 k x5 x14 x15 (wrap64 (x16 + 1)) x479000 x479001 x479002 x479003)
end
def F90.f (k : Nat) (a0_0 : Int) (a0_1 : Int) (a0_2 : Int) (a0_3 : Int) (a1_0 : ByteArray) (l1_1 : List (S122)) : Option (ByteArray) := if a1_0.size ≤ 9223372036854775807 then (F90.l0 k (bytesOf a1_0) l1_1 (l1_1.length : Int) 0 a0_0 a0_1 a0_2 a0_3) else (none)
theorem F90.mono_l : ∀ k, (∀ y0 y1 y2 y3 y4 y5 y6 y7, LeO (F90.l0 k y0 y1 y2 y3 y4 y5 y6 y7) (F90.l0 (k + 1) y0 y1 y2 y3 y4 y5 y6 y7)) ∧ (∀ y0 y1 y2 y3 y4 y5 y6 y7 y8 y9 y10, LeO (F90.l1 k y0 y1 y2 y3 y4 y5 y6 y7 y8 y9 y10) (F90.l1 (k + 1) y0 y1 y2 y3 y4 y5 y6 y7 y8 y9 y10))
 | 0 => ⟨fun _ _ _ _ _ _ _ _ r h => by simp [F90.l0] at h, fun _ _ _ _ _ _ _ _ _ _ _ r h => by simp [F90.l1] at h⟩
 | k + 1 => by
  obtain ⟨ih0, ih1⟩ := F90.mono_l k
  refine ⟨?_, ?_⟩
  rotate_left
  ·intro y0 y1 y2 y3 y4 y5 y6 y7 y8 y9 y10
   unfold F90.l1
   repeat' with_reducible first | exact ih0 _ _ _ _ _ _ _ _ | exact ih1 _ _ _ _ _ _ _ _ _ _ _ | exact F108.mono _ _ _ _ _ _ | exact LeO.refl _ | exact LeO.none _ | refine LeO.ite ?_ ?_ | refine LeO.bind ?_ (fun _ => ?_)
  intro y0 y1 y2 y3 y4 y5 y6 y7
  unfold F90.l0
  repeat' with_reducible first | exact ih0 _ _ _ _ _ _ _ _ | exact ih1 _ _ _ _ _ _ _ _ _ _ _ | exact F108.mono _ _ _ _ _ _ | exact LeO.refl _ | exact LeO.none _ | refine LeO.ite ?_ ?_ | refine LeO.bind ?_ (fun _ => ?_)
theorem F90.mono : ∀ a0 a1 a2 a3 a4 a5 k, LeO (F90.f k a0 a1 a2 a3 a4 a5) (F90.f (k + 1) a0 a1 a2 a3 a4 a5) := by
 intro a0 a1 a2 a3 a4 a5 k
 obtain ⟨ih0, ih1⟩ := F90.mono_l k
 unfold F90.f
 repeat' with_reducible first | exact ih0 _ _ _ _ _ _ _ _ | exact ih1 _ _ _ _ _ _ _ _ _ _ _ | exact F108.mono _ _ _ _ _ _ | exact LeO.refl _ | exact LeO.none _ | refine LeO.ite ?_ ?_ | refine LeO.bind ?_ (fun _ => ?_)
theorem F90.calls (k : Nat) (a0_0 : Int) (a0_1 : Int) (a0_2 : Int) (a0_3 : Int) (a1_0 : ByteArray) (A1_1 : Option Addr) (c1_1 : Nat) (l1_1 : List (S122)) (r : ByteArray) (w : World) (hr1_1 : Kd.C k122 w A1_1 l1_1.length l1_1) (hc1_1 : l1_1.length ≤ c1_1) (h : F90.f k a0_0 a0_1 a0_2 a0_3 a1_0 l1_1 = some r) :
  Calls Try.prog 90 #[.agg #[.int .i64 a0_0, .int .i64 a0_1, .int .i64 a0_2, .int .i64 a0_3], .agg #[.string a1_0, .slice A1_1 l1_1.length c1_1]] w fun e w' => e = .returned (.string r) ∧ Below w.heap.size w w' := by
 have hu45 := Try.underlying45
 have hu88 := Try.underlying88
 have hu122 := Try.underlying122
 have HR1_1 := am_ hr1_1
 have HC1_1 := am_ hc1_1
 clear hr1_1 hc1_1
 have HB := am_ (Below.refl w.heap.size w)
 have H : (if a1_0.size ≤ 9223372036854775807 then (F90.l0 k (bytesOf a1_0) l1_1 (l1_1.length : Int) 0 a0_0 a0_1 a0_2 a0_3) else (none)) = some r := h
 clear h
 by_cases c3 : a1_0.size ≤ 9223372036854775807
 rotate_left
 ·rw [if_neg c3] at H
  exact absurd H (by simp)

 rw [if_pos c3] at H
 have c3b0 := eq_true c3
 have c3b1 : decide (a1_0.size ≤ 9223372036854775807) = true := decide_eq_true c3
 try have c3b2 : (9223372036854775807 < a1_0.size) = False := eq_false (Nat.not_lt.2 c3)
 clear c3
 obtain ⟨y480, hy480⟩ : ∃ y_ : List Int, y_ = (bytesOf a1_0) := ⟨_, rfl⟩
 replace H : (F90.l0 k y480 l1_1 (l1_1.length : Int) 0 a0_0 a0_1 a0_2 a0_3) = some r := by first | (rw [hy480]; exact H) | exact H
 have Ny480 := am_ hy480
 clear hy480
 have H' := am_ H
 clear H
 go_enter Try.func90, Try.ntmps90
 go_wp2_with (first | ((with_reducible refine gate_dst (N := 2) rfl ?_); refine be_ 2 #[.int .i64 a0_0, .int .i64 a0_1, .int .i64 a0_2, .int .i64 a0_3] 45 ?_; intro gb478 hg w4 hbox hb; have BK478 := am_ (hbox); have GW478 := am_ (gw_ hg bl_); have GE478 := GW478; replace HB := hs_ w hb; clear hb hbox hg) | ((with_reducible refine gate_dst (N := 3) rfl ?_); refine be_ 3 #[.string a1_0, .slice A1_1 l1_1.length c1_1] 88 ?_; intro gb479 hg w5 hbox hb; have BK479 := am_ (hbox); have GW479 := am_ (gw_ hg bl_); have GE479 := GW479; replace HB := hs_ w hb; have NB478_479 := am_ (gn_ hg (blkl_ BK478)); have NB479_478 := am_ (gm_ hg (blkl_ BK478)); replace BK478 := bb_ BK478 hb; clear hb hbox hg; have hnb6 := NB479_478.out; have hnc6 := NB478_479.out; obtain ⟨hcz7_0, hcz7_1, hfz7_0, hfz7_1⟩ := cellsF2 BK479.out) | ((with_reducible refine gate_dst (N := 12) rfl ?_); refine Go.Proofs.YtlghcbmkhdibdaaW.Mark.RM_bytes _ 5 ?hg (N := 12) ?hd 9 43 _ rfl a1_0 (by first | rfl | (go_simp; done) | (go_simp; rfl)) Try.underlying9 Try.underlying43 Try.underlying5 (ok := fun _ => True) (okp := fun _ => True) (fun _ hk => hk) trivial (Nat.le_trans (of_decide_eq_true as_ : a1_0.size ≤ 9223372036854775807) (Nat.le_refl _)) (Below.refl _ _) (Nat.le_refl _) ?_; (case hd => rfl); (case hg => rfl); intro v481 w8 ho9 hb hg_ hnew_; clear hg_ hnew_; (first | rw [← Ny480.out] at ho9 | (simp only [Int.reduceToNat] at ho9; rw [← Ny480.out] at ho9)); have HO482 := am_ (Go.Proofs.YtlghcbmkhdibdaaW.Mark.RM_lower ho9 (below_size bl_)); replace BK478 := bb_ BK478 hb; replace BK479 := bb_ BK479 hb; replace HB := hs_ w hb; clear hb ho9; obtain ⟨hcz10_0, hcz10_1, hfz10_0, hfz10_1⟩ := cellsF2 BK479.out))
 go_loopg [5, 16] k (fun kq v5 v16 w' => ∃ (x5_1 : List Int) (x16_1 : Int), v16 = .int .i64 x16_1 ∧ Aside0 (F90.l0 kq x5_1 l1_1 (l1_1.length : Int) x16_1 a0_0 a0_1 a0_2 a0_3 = some r) ∧ Aside0 (kq ≤ k) ∧ Aside0 (Go.Proofs.YtlghcbmkhdibdaaW.Mark.RM 5 w' w.heap.size (fun _ => True) v5 x5_1) ∧ Aside0 (w'.heap[gb478]? = some (.cells #[.int .i64 a0_0, .int .i64 a0_1, .int .i64 a0_2, .int .i64 a0_3] 45 (0, 0))) ∧ Aside0 (w'.heap[gb479]? = some (.cells #[.string a1_0, (.slice A1_1 l1_1.length c1_1)] 88 (0, 0))) ∧ Aside0 (Below w.heap.size w w'))
 case atStart => exact ⟨(y480), (0), er_, H', ⟨Nat.le_refl _⟩, ⟨by (with_reducible repeat (first | apply Go.Proofs.YtlghcbmkhdibdaaW.Mark.RM_alloc | apply Go.Proofs.YtlghcbmkhdibdaaW.Mark.RM_drewN | apply Go.Proofs.YtlghcbmkhdibdaaW.Mark.RM_drew)); exact HO482.out⟩, ⟨bk_ BK478⟩, ⟨bk_ BK479⟩, ⟨bl_⟩⟩
 case round =>
  clear H'
  try clear c3
  try clear c3b0
  try clear c3b1
  try clear c3b2
  try clear hcz10_0 hcz10_1
  try clear hcz7_0 hcz7_1
  try clear hfz10_0 hfz10_1
  try clear hfz7_0 hfz7_1
  obtain ⟨x5_1, x16_1, rfl, HA, HK1, HO_5, BK478, BK479, HB⟩ := hrel
  cases gk with
  | zero => exact absurd HA.out (by simp [F90.l0])
  | succ k1 =>
   have H := HA.out
   clear HA
   simp only [F90.l0] at H
   replace H := it_ H; rcases H with ⟨c11b0, H⟩ | ⟨c11b0, H⟩
   rotate_left
   ·replace H := iln_ H; rcases H with ⟨LMc44, H⟩
    obtain ⟨y483, hy483⟩ : ∃ y_ : List Int, y_ = (x5_1 ++ [(a0_0) % 256]) := ⟨_, rfl⟩
    replace H : (some (strOfNums y483)) = some r := by first | (rw [hy483]; exact H) | exact H
    have Ny483 := am_ hy483
    clear hy483
    obtain rfl := Option.some.inj H
    have hnb45 := NB478_479.out
    have hnc45 := NB479_478.out
    obtain ⟨hcz46_0, hcz46_1, hcz46_2, hcz46_3, hfz46_0, hfz46_1, hfz46_2, hfz46_3⟩ := cellsF4 BK478.out
    go_wp2_with (first | ((with_reducible refine gate_builtin (b := .append) (xs := #[.tmp 49, .tmp 53]) rfl ?_); at_builtin; refine Go.Proofs.YtlghcbmkhdibdaaW.Mark.RM_append (w0 := w) w.heap.size rfl (.tmp 49) (.tmp 53) 43 5 (.int .u8 0) 1 rfl Try.underlying43 info5 rfl (by decide) (by omega) u5 x5_1 ((a0_0) % 256) [.int .u8 ((a0_0) % 256)] (fun _ => True) (fun _ => False) rfl rfl ?aP (fun _ hk => hk.elim) ?aF ?aO ?aB ?aS ?aL ?_; (case aP => exact rfl); (case aB => exact bl_); (case aF => exact (fun _ _ => trivial)); (case aO => exact au3_2); (case aS => exact (below_size bl_)); (case aL => have := LMc44.out; omega); intro v484 w47 ho hb hg hat; rw [← Ny483.out] at ho; have n0_ := am_ (bg_ BK478 hg (Go.Proofs.YtlghcbmkhdibdaaW.Mark.RM_ne HO_5.out BK478.out (by decide))); have n1_ := am_ (bg_ BK479 hg (Go.Proofs.YtlghcbmkhdibdaaW.Mark.RM_ne HO_5.out BK479.out (by decide))); have n2_ := am_ (hb); have n3_ := am_ (ho); clear BK478; clear BK479; clear HB; clear HO_5; have BK478 := n0_; have BK479 := n1_; have HB := n2_; have HO485 := n3_; clear n0_ n1_ n2_ n3_; clear ho hb hg hat; have hcv48 := Go.Proofs.YtlghcbmkhdibdaaW.Mark.own_string (P := Try.prog) Try.underlying43 Try.underlying5 Try.underlying9 (Go.Proofs.YtlghcbmkhdibdaaW.Mark.own_of_RM HO485.out)))
    go_ret
    exact ⟨au3_0, bl_⟩
   replace H := itn_ H; rcases H with ⟨c12b0, H⟩
   replace H := itn_ H; rcases H with ⟨c13b0, H⟩
   replace H := iln_ H; rcases H with ⟨LMc14, H⟩
   obtain ⟨y488, hy488⟩ : ∃ y_ : List Int, y_ = (x5_1 ++ [(a0_1) % 256]) := ⟨_, rfl⟩
   replace H : (F90.l1 k1 y488 l1_1 (l1_1.length : Int) x16_1 ((rd_T122 l1_1 x16_1).f0) (((rd_T122 l1_1 x16_1).f0).length : Int) 0 a0_0 a0_1 a0_2 a0_3) = some r := by first | (rw [hy488]; exact H) | exact H
   have Ny488 := am_ hy488
   clear hy488
   have H' := am_ H
   clear H
   have p486 : 0 ≤ (x16_1 : Int) := od_
   have q486 : x16_1 < (l1_1.length : Int) := od_
   obtain ⟨ad486, A486_0, c486_0, e486, hx486_0, hl486_0, hi486_0⟩ := at_T122 HR1_1.out x16_1 p486 q486
   cases e486
   replace hx486_0 := (HB.out.cell (World.block_lt_of_cell? _ _ hx486_0)).trans hx486_0
   have HR486_0 := am_ hi486_0
   have HC486_0 := am_ hl486_0
   clear hi486_0 hl486_0
   replace p486 := eq_true p486
   replace q486 := eq_true q486
   go_wp2_with (first | ((with_reducible refine gate_dst (N := 7) rfl ?_); refine be_ 7 #[.slice none 0 0] 122 ?_; intro gb487 hg w15 hbox hb; replace HO_5 := am_ (Go.Proofs.YtlghcbmkhdibdaaW.Mark.RM_below au3_2 hb); have BK487 := am_ (hbox); have GW487 := am_ (gw_ hg bl_); have GE487 := GW487; replace HB := hs_ w hb; have NB478_487 := am_ (gn_ hg (blkl_ BK478)); have NB487_478 := am_ (gm_ hg (blkl_ BK478)); replace BK478 := bb_ BK478 hb; have NB479_487 := am_ (gn_ hg (blkl_ BK479)); have NB487_479 := am_ (gm_ hg (blkl_ BK479)); replace BK479 := bb_ BK479 hb; clear hb hbox hg; have hnb16 := NB487_478.out; have hnc16 := NB478_487.out; have hnb17 := NB487_479.out; have hnc17 := NB479_487.out; have hcz18_0 : w15.cell? ⟨gb487, 0, none⟩ = some (.slice none 0 0) := (blk_cell BK487.out 0).trans rfl; have hfz18_0 := blk_frozen BK487.out 0; have hnb19 := NB478_479.out; have hnc19 := NB479_478.out; obtain ⟨hcz20_0, hcz20_1, hcz20_2, hcz20_3, hfz20_0, hfz20_1, hfz20_2, hfz20_3⟩ := cellsF4 BK478.out) | ((with_reducible refine gate_builtin (b := .append) (xs := #[.tmp 20, .tmp 24]) rfl ?_); at_builtin; refine Go.Proofs.YtlghcbmkhdibdaaW.Mark.RM_append (w0 := w) w.heap.size rfl (.tmp 20) (.tmp 24) 43 5 (.int .u8 0) 1 rfl Try.underlying43 info5 rfl (by decide) (by omega) u5 x5_1 ((a0_1) % 256) [.int .u8 ((a0_1) % 256)] (fun _ => True) (fun _ => False) rfl (by first | (go_simp; done) | (go_simp; rfl)) ?aP (fun _ hk => hk.elim) ?aF ?aO ?aB ?aS ?aL ?_; (case aP => exact rfl); (case aB => exact bl_); (case aF => exact (fun _ _ => trivial)); (case aO => exact (by (with_reducible repeat (first | apply Go.Proofs.YtlghcbmkhdibdaaW.Mark.RM_alloc | apply Go.Proofs.YtlghcbmkhdibdaaW.Mark.RM_drewN | apply Go.Proofs.YtlghcbmkhdibdaaW.Mark.RM_drew)); exact Go.Proofs.YtlghcbmkhdibdaaW.Mark.RM_mono (Go.Proofs.YtlghcbmkhdibdaaW.Mark.RM_far (p := ⟨gb487, 0, none⟩) (Go.Proofs.YtlghcbmkhdibdaaW.Mark.RM_types HO_5.out BK487.out (by decide)) (fun _ hk => hk.2) (.slice A486_0 ((rd_T122 l1_1 x16_1).f0).length c486_0)) (fun _ hk => trivial))); (case aS => exact (below_size bl_)); (case aL => have := LMc14.out; omega); intro v489 w21 ho hb hg hat; rw [← Ny488.out] at ho; have n0_ := am_ (bg_ BK478 hg (Go.Proofs.YtlghcbmkhdibdaaW.Mark.RM_ne HO_5.out BK478.out (by decide))); have n1_ := am_ (bg_ BK479 hg (Go.Proofs.YtlghcbmkhdibdaaW.Mark.RM_ne HO_5.out BK479.out (by decide))); have n2_ := am_ (blk_grown (g := gb487) (o := .cells #[.slice A486_0 ((rd_T122 l1_1 x16_1).f0).length c486_0] 122 (0, 0)) (bq_ BK487) hg (Go.Proofs.YtlghcbmkhdibdaaW.Mark.RM_ne HO_5.out BK487.out (by decide))); have n3_ := am_ (hb); have n4_ := am_ (ho); clear BK478; clear BK479; clear BK487; clear HB; clear HO_5; have BK478 := n0_; have BK479 := n1_; have BK487 := n2_; have HB := n3_; have HO490 := n4_; clear n0_ n1_ n2_ n3_ n4_; clear ho hb hg hat; have hcz22_0 : w21.cell? ⟨gb487, 0, none⟩ = some (.slice A486_0 ((rd_T122 l1_1 x16_1).f0).length c486_0) := (blk_cell BK487.out 0).trans rfl; have hfz22_0 := blk_frozen BK487.out 0))
   go_loopg [5, 29] k1 (fun kq v5 v29 w' => ∃ (x5_2 : List Int) (x29_2 : Int), v29 = .int .i64 x29_2 ∧ Aside0 (F90.l1 kq x5_2 l1_1 (l1_1.length : Int) x16_1 ((rd_T122 l1_1 x16_1).f0) (((rd_T122 l1_1 x16_1).f0).length : Int) x29_2 a0_0 a0_1 a0_2 a0_3 = some r) ∧ Aside0 (kq ≤ k1) ∧ Aside0 (Go.Proofs.YtlghcbmkhdibdaaW.Mark.RM 5 w' w.heap.size (fun _ => True) v5 x5_2) ∧ Aside0 (w'.heap[gb478]? = some (.cells #[.int .i64 a0_0, .int .i64 a0_1, .int .i64 a0_2, .int .i64 a0_3] 45 (0, 0))) ∧ Aside0 (w'.heap[gb479]? = some (.cells #[.string a1_0, (.slice (some ad486) l1_1.length c1_1)] 88 (0, 0))) ∧ Aside0 (w'.heap[gb487]? = some (.cells #[(.slice A486_0 ((rd_T122 l1_1 x16_1).f0).length c486_0)] 122 (0, 0))) ∧ Aside0 (Below w.heap.size w w'))
   case atStart => exact ⟨(y488), (0), er_, H', ⟨Nat.le_refl _⟩, ⟨by (with_reducible repeat (first | apply Go.Proofs.YtlghcbmkhdibdaaW.Mark.RM_alloc | apply Go.Proofs.YtlghcbmkhdibdaaW.Mark.RM_drewN | apply Go.Proofs.YtlghcbmkhdibdaaW.Mark.RM_drew)); exact HO490.out⟩, ⟨bk_ BK478⟩, ⟨bk_ BK479⟩, ⟨bk_ BK487⟩, ⟨bl_⟩⟩
   case round =>
    clear H'
    try clear c3
    try clear c3b0
    try clear c3b1
    try clear c3b2
    try clear c11b0
    try clear c12b0
    try clear c13b0
    try clear hcz10_0 hcz10_1
    try clear hcz18_0
    try clear hcz20_0 hcz20_1 hcz20_2 hcz20_3
    try clear hcz22_0
    try clear hcz7_0 hcz7_1
    try clear hfz10_0 hfz10_1
    try clear hfz18_0
    try clear hfz20_0 hfz20_1 hfz20_2 hfz20_3
    try clear hfz22_0
    try clear hfz7_0 hfz7_1
    try clear hx486_0
    try clear p486
    try clear q486
    obtain ⟨x5_2, x29_2, rfl, HA, HK2, HO_5, BK478, BK479, BK487, HB⟩ := hrel
    cases gk with
    | zero => exact absurd HA.out (by simp [F90.l1])
    | succ k2 =>
     have H := HA.out
     clear HA
     simp only [F90.l1] at H
     replace H := it_ H; rcases H with ⟨c23b0, H⟩ | ⟨c23b0, H⟩
     rotate_left
     ·have H' := am_ H
      clear H
      go_wp2
      go_roundg k2
      case measure => have := HK1.out; have := HK2.out; omega
      case rel => exact ⟨(x5_2), (wrap64 (x16_1 + 1)), er_, H', ⟨au3_13⟩, ⟨by (with_reducible repeat (first | apply Go.Proofs.YtlghcbmkhdibdaaW.Mark.RM_alloc | apply Go.Proofs.YtlghcbmkhdibdaaW.Mark.RM_drewN | apply Go.Proofs.YtlghcbmkhdibdaaW.Mark.RM_drew)); exact HO_5.out⟩, ⟨bk_ BK478⟩, ⟨bk_ BK479⟩, ⟨bl_⟩⟩
     replace H := itn_ H; rcases H with ⟨c24b0, H⟩
     replace H := itn_ H; rcases H with ⟨c25b0, H⟩
     replace H := it_ H; rcases H with ⟨(c26b0 : decide (0 < x29_2) = true), H⟩ | ⟨(c26b0 : decide (0 < x29_2) = false), H⟩
     rotate_left
     ·replace H := bi_ H; rcases H with ⟨t499, A37, H⟩
      replace H := iln_ H; rcases H with ⟨LMc38, H⟩
      obtain ⟨y500, hy500⟩ : ∃ y_ : List Int, y_ = (x5_2 ++ bytesOf t499) := ⟨_, rfl⟩
      replace H : (F90.l1 k2 y500 l1_1 (l1_1.length : Int) x16_1 ((rd_T122 l1_1 x16_1).f0) (((rd_T122 l1_1 x16_1).f0).length : Int) (wrap64 (x29_2 + 1)) a0_0 a0_1 a0_2 a0_3) = some r := by first | (rw [hy500]; exact H) | exact H
      have Ny500 := am_ hy500
      clear hy500
      have H' := am_ H
      clear H
      have p491 : 0 ≤ (x29_2 : Int) := od_
      have q491 : x29_2 < (((rd_T122 l1_1 x16_1).f0).length : Int) := od_
      obtain ⟨ad491, e491, hx491_0⟩ := Kd.at_string HR486_0.out x29_2 p491 q491
      cases e491
      replace hx491_0 := (HB.out.cell (World.block_lt_of_cell? _ _ hx491_0)).trans hx491_0
      replace p491 := eq_true p491
      replace q491 := eq_true q491
      have hnb39 := NB478_479.out
      have hnc39 := NB479_478.out
      have hnb40 := NB478_487.out
      have hnc40 := NB487_478.out
      obtain ⟨hcz41_0, hcz41_1, hcz41_2, hcz41_3, hfz41_0, hfz41_1, hfz41_2, hfz41_3⟩ := cellsF4 BK478.out
      go_wp2_with (first | ((with_reducible refine gate_callee (f := 108) rfl ?_); refine gl_ 45 Try.func108 #[.agg #[.int .i64 a0_0, .int .i64 a0_1, .int .i64 a0_2, .int .i64 a0_3], .string (rdOf ByteArray.empty ((rd_T122 l1_1 x16_1).f0) x29_2)] ?_ rfl rfl rfl rfl; (with_reducible refine (F108.calls k2 a0_0 a0_1 a0_2 a0_3 (rdOf ByteArray.empty ((rd_T122 l1_1 x16_1).f0) x29_2) t499 _ A37.out).mono ?_); rintro e w42 ⟨rfl, hb⟩; refine ⟨_, rfl, ?_⟩; replace HO_5 := am_ (Go.Proofs.YtlghcbmkhdibdaaW.Mark.RM_below au3_2 hb); replace BK478 := bb_ BK478 hb; replace BK479 := bb_ BK479 hb; replace BK487 := bb_ BK487 hb; replace HB := hs_ w hb; (try clear hb); (try clear hb2); (try clear hk); (try clear hi)) | (at_builtin; refine Go.Proofs.YtlghcbmkhdibdaaW.Mark.print_append_str (w0 := w) w.heap.size rfl (.tmp 42) _ 43 9 5 rfl Try.underlying43 Try.underlying9 info5 u5 x5_2 t499 rfl rfl ?aO ?aB ?aS ?aL ?_; (case aB => exact bl_); (case aO => exact (Go.Proofs.YtlghcbmkhdibdaaW.Mark.own_of_RM au3_2)); (case aS => exact (below_size bl_)); (case aL => have := LMc38.out; omega); intro v501 w43 ho0 hb hg; have ho := Go.Proofs.YtlghcbmkhdibdaaW.Mark.RM_of_own (h1 := fun _ => rfl) (ok := fun _ => True) ho0 (fun _ _ => trivial); clear ho0; have hat := True.intro; rw [← Ny500.out] at ho; change Go.Proofs.YtlghcbmkhdibdaaW.Mark.RM 5 w43 w.heap.size (fun _ => True) v501 y500 at ho; have n0_ := am_ (bg_ BK478 hg (Go.Proofs.YtlghcbmkhdibdaaW.Mark.RM_ne HO_5.out BK478.out (by decide))); have n1_ := am_ (bg_ BK479 hg (Go.Proofs.YtlghcbmkhdibdaaW.Mark.RM_ne HO_5.out BK479.out (by decide))); have n2_ := am_ (bg_ BK487 hg (Go.Proofs.YtlghcbmkhdibdaaW.Mark.RM_ne HO_5.out BK487.out (by decide))); have n3_ := am_ (hb); have n4_ := am_ (ho); clear BK478; clear BK479; clear BK487; clear HB; clear HO_5; have BK478 := n0_; have BK479 := n1_; have BK487 := n2_; have HB := n3_; have HO502 := n4_; clear n0_ n1_ n2_ n3_ n4_; clear ho hb hg hat))
      go_roundg k2
      case measure => have := HK1.out; have := HK2.out; omega
      case rel => exact ⟨(y500), (wrap64 (x29_2 + 1)), er_, H', ⟨au3_13⟩, ⟨by (with_reducible repeat (first | apply Go.Proofs.YtlghcbmkhdibdaaW.Mark.RM_alloc | apply Go.Proofs.YtlghcbmkhdibdaaW.Mark.RM_drewN | apply Go.Proofs.YtlghcbmkhdibdaaW.Mark.RM_drew)); exact HO502.out⟩, ⟨bk_ BK478⟩, ⟨bk_ BK479⟩, ⟨bk_ BK487⟩, ⟨bl_⟩⟩
     replace H := iln_ H; rcases H with ⟨LMc27, H⟩
     obtain ⟨y492, hy492⟩ : ∃ y_ : List Int, y_ = (x5_2 ++ [(a0_2) % 256]) := ⟨_, rfl⟩
     replace H : ((F108.f k2 a0_0 a0_1 a0_2 a0_3 (rdOf ByteArray.empty ((rd_T122 l1_1 x16_1).f0) x29_2)).bind fun t495 => (if y492.length + t495.size < 140737488355328 then (F90.l1 k2 (y492 ++ bytesOf t495) l1_1 (l1_1.length : Int) x16_1 ((rd_T122 l1_1 x16_1).f0) (((rd_T122 l1_1 x16_1).f0).length : Int) (wrap64 (x29_2 + 1)) a0_0 a0_1 a0_2 a0_3) else (none))) = some r := by first | (rw [hy492]; exact H) | exact H
     have Ny492 := am_ hy492
     clear hy492
     replace H := bi_ H; rcases H with ⟨t495, A28, H⟩
     replace H := iln_ H; rcases H with ⟨LMc29, H⟩
     obtain ⟨y496, hy496⟩ : ∃ y_ : List Int, y_ = (y492 ++ bytesOf t495) := ⟨_, rfl⟩
     replace H : (F90.l1 k2 y496 l1_1 (l1_1.length : Int) x16_1 ((rd_T122 l1_1 x16_1).f0) (((rd_T122 l1_1 x16_1).f0).length : Int) (wrap64 (x29_2 + 1)) a0_0 a0_1 a0_2 a0_3) = some r := by first | (rw [hy496]; exact H) | exact H
     have Ny496 := am_ hy496
     clear hy496
     have H' := am_ H
     clear H
     have p491 : 0 ≤ (x29_2 : Int) := od_
     have q491 : x29_2 < (((rd_T122 l1_1 x16_1).f0).length : Int) := od_
     obtain ⟨ad491, e491, hx491_0⟩ := Kd.at_string HR486_0.out x29_2 p491 q491
     cases e491
     replace hx491_0 := (HB.out.cell (World.block_lt_of_cell? _ _ hx491_0)).trans hx491_0
     replace p491 := eq_true p491
     replace q491 := eq_true q491
     have hnb30 := NB478_479.out
     have hnc30 := NB479_478.out
     have hnb31 := NB478_487.out
     have hnc31 := NB487_478.out
     obtain ⟨hcz32_0, hcz32_1, hcz32_2, hcz32_3, hfz32_0, hfz32_1, hfz32_2, hfz32_3⟩ := cellsF4 BK478.out
     go_wp2_with (first | ((with_reducible refine gate_builtin (b := .append) (xs := #[.tmp 36, .tmp 40]) rfl ?_); at_builtin; refine Go.Proofs.YtlghcbmkhdibdaaW.Mark.RM_append (w0 := w) w.heap.size rfl (.tmp 36) (.tmp 40) 43 5 (.int .u8 0) 1 rfl Try.underlying43 info5 rfl (by decide) (by omega) u5 x5_2 ((a0_2) % 256) [.int .u8 ((a0_2) % 256)] (fun _ => True) (fun _ => False) rfl rfl ?aP (fun _ hk => hk.elim) ?aF ?aO ?aB ?aS ?aL ?_; (case aP => exact rfl); (case aB => exact bl_); (case aF => exact (fun _ _ => trivial)); (case aO => exact au3_2); (case aS => exact (below_size bl_)); (case aL => have := LMc27.out; omega); intro v493 w33 ho hb hg hat; rw [← Ny492.out] at ho; have n0_ := am_ (bg_ BK478 hg (Go.Proofs.YtlghcbmkhdibdaaW.Mark.RM_ne HO_5.out BK478.out (by decide))); have n1_ := am_ (bg_ BK479 hg (Go.Proofs.YtlghcbmkhdibdaaW.Mark.RM_ne HO_5.out BK479.out (by decide))); have n2_ := am_ (bg_ BK487 hg (Go.Proofs.YtlghcbmkhdibdaaW.Mark.RM_ne HO_5.out BK487.out (by decide))); have n3_ := am_ (hb); have n4_ := am_ (ho); clear BK478; clear BK479; clear BK487; clear HB; clear HO_5; have BK478 := n0_; have BK479 := n1_; have BK487 := n2_; have HB := n3_; have HO494 := n4_; clear n0_ n1_ n2_ n3_ n4_; clear ho hb hg hat; obtain ⟨hcz34_0, hcz34_1, hcz34_2, hcz34_3, hfz34_0, hfz34_1, hfz34_2, hfz34_3⟩ := cellsF4 BK478.out) | ((with_reducible refine gate_callee (f := 108) rfl ?_); refine gl_ 45 Try.func108 #[.agg #[.int .i64 a0_0, .int .i64 a0_1, .int .i64 a0_2, .int .i64 a0_3], .string (rdOf ByteArray.empty ((rd_T122 l1_1 x16_1).f0) x29_2)] ?_ rfl rfl rfl rfl; (with_reducible refine (F108.calls k2 a0_0 a0_1 a0_2 a0_3 (rdOf ByteArray.empty ((rd_T122 l1_1 x16_1).f0) x29_2) t495 _ A28.out).mono ?_); rintro e w35 ⟨rfl, hb⟩; refine ⟨_, rfl, ?_⟩; replace HO494 := am_ (Go.Proofs.YtlghcbmkhdibdaaW.Mark.RM_below au3_7 hb); replace BK478 := bb_ BK478 hb; replace BK479 := bb_ BK479 hb; replace BK487 := bb_ BK487 hb; replace HB := hs_ w hb; (try clear hb); (try clear hb2); (try clear hk); (try clear hi)) | (at_builtin; refine Go.Proofs.YtlghcbmkhdibdaaW.Mark.print_append_str (w0 := w) w.heap.size rfl (.tmp 42) _ 43 9 5 rfl Try.underlying43 Try.underlying9 info5 v493 y492 t495 rfl rfl ?aO ?aB ?aS ?aL ?_; (case aB => exact bl_); (case aO => exact (Go.Proofs.YtlghcbmkhdibdaaW.Mark.own_of_RM au3_7)); (case aS => exact (below_size bl_)); (case aL => have := LMc29.out; omega); intro v497 w36 ho0 hb hg; have ho := Go.Proofs.YtlghcbmkhdibdaaW.Mark.RM_of_own (h1 := fun _ => rfl) (ok := fun _ => True) ho0 (fun _ _ => trivial); clear ho0; have hat := True.intro; rw [← Ny496.out] at ho; change Go.Proofs.YtlghcbmkhdibdaaW.Mark.RM 5 w36 w.heap.size (fun _ => True) v497 y496 at ho; have n0_ := am_ (bg_ BK478 hg (Go.Proofs.YtlghcbmkhdibdaaW.Mark.RM_ne HO494.out BK478.out (by decide))); have n1_ := am_ (bg_ BK479 hg (Go.Proofs.YtlghcbmkhdibdaaW.Mark.RM_ne HO494.out BK479.out (by decide))); have n2_ := am_ (bg_ BK487 hg (Go.Proofs.YtlghcbmkhdibdaaW.Mark.RM_ne HO494.out BK487.out (by decide))); have n3_ := am_ (hb); have n4_ := am_ (ho); clear BK478; clear BK479; clear BK487; clear HB; clear HO494; have BK478 := n0_; have BK479 := n1_; have BK487 := n2_; have HB := n3_; have HO498 := n4_; clear n0_ n1_ n2_ n3_ n4_; clear ho hb hg hat))
     go_roundg k2
     case measure => have := HK1.out; have := HK2.out; omega
     case rel => exact ⟨(y496), (wrap64 (x29_2 + 1)), er_, H', ⟨au3_13⟩, ⟨by (with_reducible repeat (first | apply Go.Proofs.YtlghcbmkhdibdaaW.Mark.RM_alloc | apply Go.Proofs.YtlghcbmkhdibdaaW.Mark.RM_drewN | apply Go.Proofs.YtlghcbmkhdibdaaW.Mark.RM_drew)); exact HO498.out⟩, ⟨bk_ BK478⟩, ⟨bk_ BK479⟩, ⟨bk_ BK487⟩, ⟨bl_⟩⟩
/-! ### F91: function 91 -/
open Go.Shelf
def F91.ren : Go.Shelf.Ren := ⟨fun x => match x with | 156 => 91 | 165 => 109 | 166 => 110 | 169 => 111 | 240 => 120 | 241 => 121 | 276 => 127 | 277 => 128 | n => n, fun x => match x with | 31 => 22 | 9 => 9 | 3 => 3 | 4 => 4 | 0 => 0 | 20 => 20 | 72 => 153 | 76 => 157 | 70 => 151 | 37 => 43 | 75 => 156 | 127 => 166 | 164 => 175 | 5 => 5 | 80 => 159 | n => n, fun n => n⟩
theorem F91.lays : Lays.n156 Try.prog F91.ren where
 mixed := by kernel_rfl
 f156 := Try.func91.trans (congrArg some (by kernel_rfl))
 f165 := Try.func109.trans (congrArg some (by kernel_rfl))
 f166 := Try.func110.trans (congrArg some (by kernel_rfl))
 f169 := Try.func111.trans (congrArg some (by kernel_rfl))
 f240 := Try.func120.trans (congrArg some (by kernel_rfl))
 f241 := Try.func121.trans (congrArg some (by kernel_rfl))
 f276 := Try.func127.trans (congrArg some (by kernel_rfl))
 f277 := Try.func128.trans (congrArg some (by kernel_rfl))
 t0 := Try.underlying0
 a0 := Try.isAgg0
 z0 := Try.sizeOf0
 v0 := Try.zeroValue0
 t3 := Try.underlying3
 a3 := Try.isAgg3
 z3 := Try.sizeOf3
 v3 := Try.zeroValue3
 t4 := Try.underlying4
 a4 := Try.isAgg4
 z4 := Try.sizeOf4
 v4 := Try.zeroValue4
 t9 := Try.underlying9
 a9 := Try.isAgg9
 z9 := Try.sizeOf9
 v9 := Try.zeroValue9
 t20 := Try.underlying20
 a20 := Try.isAgg20
 z20 := Try.sizeOf20
 v20 := Try.zeroValue20
 t31 := Try.underlying22
 a31 := Try.isAgg22
 z31 := Try.sizeOf22
 v31 := Try.zeroValue22
 t37 := Try.underlying43
 a37 := Try.isAgg43
 z37 := Try.sizeOf43
 v37 := Try.zeroValue43
 t70 := Try.underlying151
 a70 := Try.isAgg151
 z70 := Try.sizeOf151
 v70 := Try.zeroValue151
 t72 := Try.underlying153
 a72 := Try.isAgg153
 z72 := Try.sizeOf153
 v72 := Try.zeroValue153
 t75 := Try.underlying156
 a75 := Try.isAgg156
 z75 := Try.sizeOf156
 v75 := Try.zeroValue156
 t76 := Try.underlying157
 a76 := Try.isAgg157
 z76 := Try.sizeOf157
 v76 := Try.zeroValue157
 t127 := Try.underlying166
 a127 := Try.isAgg166
 z127 := Try.sizeOf166
 v127 := Try.zeroValue166
 t164 := Try.underlying175
 a164 := Try.isAgg175
 z164 := Try.sizeOf175
 v164 := Try.zeroValue175
theorem F91.extra : Builder.Extra Try.prog F91.ren where
 sizeBuilder := by kernel_rfl
 liesBuilder := by kernel_rfl
 t5 := Try.underlying5
 a5 := Try.isAgg5
 z5 := Try.sizeOf5
 v5 := Try.zeroValue5
 infoByte := by kernel_rfl
 cellsByte := by kernel_rfl
 sizeByte := by kernel_rfl
 neB5 := by decide
def F91.text (l0 : List ByteArray) (a1 : ByteArray) : ByteArray := ⟨(Lib.join (l0.map (·.data.toList)) a1.data.toList).toArray⟩
def F91.f (l0 : List ByteArray) (a1 : ByteArray) : Option ByteArray := if (F91.text l0 a1).size ≤ 140737488355328 then (if l0.length ≤ 140737488355328 then (some (F91.text l0 a1)) else (none)) else (none)
theorem F91.cells {w : World} {A0 : Option Addr} {l0 : List ByteArray} (h : Kd.C Kd.string w A0 l0.length l0) (hne : l0 ≠ []) : ∃ bk o, A0 = some ⟨bk, o, none⟩ ∧ bk < w.heap.size ∧ ∀ (j : Nat) x, l0[j]? = some x → w.cell? ⟨bk, o + j, none⟩ = some (.string x) := by
 have h0 : 0 < l0.length := List.length_pos_iff.2 hne
 obtain ⟨ad, rfl, hc⟩ := (Kd.reads_of_C (d := ByteArray.empty) h).2.2 h0
 have hc0 := hc 0 h0
 have e0 : ad.add 0 = ad := by unfold Addr.add; rw [if_pos rfl]
 rw [e0] at hc0
 obtain ⟨bk, o, sp⟩ := ad
 have hsp : sp = none := by
  cases sp with
  | none => rfl
  | some s =>
   exfalso
   unfold World.cell? at hc0
   revert hc0
   cases w.heap[bk]? with
   | none => simp
   | some ob => cases ob <;> simp
 subst hsp
 refine ⟨bk, o, rfl, World.block_lt_of_cell? _ _ hc0, fun j x hx => ?_⟩
 obtain ⟨hj, rfl⟩ := List.getElem?_eq_some_iff.1 hx
 have hcj := hc j hj
 rw [show (⟨bk, o, none⟩ : Addr).add j = ⟨bk, o + j, none⟩ from by unfold Addr.add; split <;> simp_all] at hcj
 rw [hcj, List.getD_eq_getElem?_getD, List.getElem?_eq_getElem hj]
 rfl
theorem F91.calls (A0 : Option Addr) (c0 : Nat) (l0 : List ByteArray) (a1 : ByteArray) (r : ByteArray) (w : World) (hr0 : Kd.C Kd.string w A0 l0.length l0) (hc0 : l0.length ≤ c0) (h : F91.f l0 a1 = some r) :
  Calls Try.prog 91 #[.slice A0 l0.length c0, .string a1] w fun e w' => e = .returned (.string r) ∧ Below w.heap.size w w' := by
 unfold F91.f at h
 by_cases h1 : (F91.text l0 a1).size ≤ 140737488355328
 rotate_left
 ·rw [if_neg h1] at h
  cases h

 rw [if_pos h1] at h
 by_cases h2 : l0.length ≤ 140737488355328
 rotate_left
 ·rw [if_neg h2] at h
  cases h
 rw [if_pos h2] at h
 obtain rfl := Option.some.inj h
 have hlen : (Lib.join (l0.map (·.data.toList)) a1.data.toList).length ≤ 140737488355328 := by simpa [F91.text, ByteArray.size] using h1
 by_cases hne : l0 = []
 rotate_left
 ·obtain ⟨bk, o, rfl, hb, hc⟩ := F91.cells hr0 hne
  exact (Any.strings_Join F91.lays F91.extra bk o c0 l0 a1 w hc hb h2 hc0 hlen).mono (fun e w' h => h)
 subst hne
 refine (Any.strings_Join_none F91.lays F91.extra A0 c0 a1 w).mono ?_
 rintro e w' ⟨rfl, rfl⟩
 exact ⟨rfl, Below.refl _ _⟩
/-! ### F50: function 50 -/
def F50.l0 : Nat → List (S88) → List ByteArray → List (S88) → Int → Int → Int → Int → Int → Int → Option (ByteArray)
  | 0, _, _, _, _, _, _, _, _, _ => none
  | k + 1, x1, x5, x10, x11, x12, x504000, x504001, x504002, x504003 => if x12 < x11 then (if 0 ≤ x12 then (if x12 < (x10.length : Int) then ((F90.f k x504000 x504001 x504002 x504003 ((rd_T88 x10 x12).f0) ((rd_T88 x10 x12).f1)).bind fun t509 => (if x5.length < 8796093022208 then (F50.l0 k x1 (x5 ++ [t509]) x10 x11 (wrap64 (x12 + 1)) x504000 x504001 x504002 x504003) else (none))) else (none)) else (none)) else ((F91.f x5 (⟨#[]⟩ : ByteArray)).bind fun t513 => (if (x1.length : Int) > 200 then (some (⟨#[]⟩ : ByteArray)) else ((F51.f k (([t513] : List ByteArray))).bind fun t517 => (if t517 = true then (some (⟨#[]⟩ : ByteArray)) else (some t513)))))
def F50.f (k : Nat) (a0_0 : Int) (a0_1 : Int) (a0_2 : Int) (a0_3 : Int) (l1 : List (S88)) : Option (ByteArray) := F50.l0 k l1 (([] : List ByteArray)) l1 (l1.length : Int) 0 a0_0 a0_1 a0_2 a0_3
theorem F50.mono_l : ∀ k, (∀ y0 y1 y2 y3 y4 y5 y6 y7 y8, LeO (F50.l0 k y0 y1 y2 y3 y4 y5 y6 y7 y8) (F50.l0 (k + 1) y0 y1 y2 y3 y4 y5 y6 y7 y8))
 | 0 => fun _ _ _ _ _ _ _ _ _ r h => by simp [F50.l0] at h
 | k + 1 => by
  have ih0 := F50.mono_l k
  intro y0 y1 y2 y3 y4 y5 y6 y7 y8
  unfold F50.l0
  repeat' with_reducible first | exact ih0 _ _ _ _ _ _ _ _ _ | exact F90.mono _ _ _ _ _ _ _ | exact F51.mono _ _ | exact LeO.refl _ | exact LeO.none _ | refine LeO.ite ?_ ?_ | refine LeO.bind ?_ (fun _ => ?_)
theorem F50.mono : ∀ a0 a1 a2 a3 a4 k, LeO (F50.f k a0 a1 a2 a3 a4) (F50.f (k + 1) a0 a1 a2 a3 a4) := by
 intro a0 a1 a2 a3 a4 k
 have ih0 := F50.mono_l k
 unfold F50.f
 repeat' with_reducible first | exact ih0 _ _ _ _ _ _ _ _ _ | exact F90.mono _ _ _ _ _ _ _ | exact F51.mono _ _ | exact LeO.refl _ | exact LeO.none _ | refine LeO.ite ?_ ?_ | refine LeO.bind ?_ (fun _ => ?_)
theorem F50.calls (k : Nat) (a0_0 : Int) (a0_1 : Int) (a0_2 : Int) (a0_3 : Int) (A1 : Option Addr) (c1 : Nat) (l1 : List (S88)) (r : ByteArray) (w : World) (hr1 : Kd.C k88 w A1 l1.length l1) (hc1 : l1.length ≤ c1) (h : F50.f k a0_0 a0_1 a0_2 a0_3 l1 = some r) :
  Calls Try.prog 50 #[.agg #[.int .i64 a0_0, .int .i64 a0_1, .int .i64 a0_2, .int .i64 a0_3], .slice A1 l1.length c1] w fun e w' => e = .returned (.string r) ∧ Below w.heap.size w w' := by
 have hu45 := Try.underlying45
 have hu88 := Try.underlying88
 have HR1 := am_ hr1
 have HC1 := am_ hc1
 clear hr1 hc1
 have HB := am_ (Below.refl w.heap.size w)
 have H : (F50.l0 k l1 (([] : List ByteArray)) l1 (l1.length : Int) 0 a0_0 a0_1 a0_2 a0_3) = some r := h
 clear h
 obtain ⟨y504, hy504⟩ : ∃ y_ : List ByteArray, y_ = (([] : List ByteArray)) := ⟨_, rfl⟩
 replace H : (F50.l0 k l1 y504 l1 (l1.length : Int) 0 a0_0 a0_1 a0_2 a0_3) = some r := by first | (rw [hy504]; exact H) | exact H
 have Ny504 := am_ hy504
 clear hy504
 have H' := am_ H
 clear H
 go_enter Try.func50, Try.ntmps50
 go_wp2_with (first | ((with_reducible refine gate_dst (N := 2) rfl ?_); (try (refine gate_guard (by rfl) ?_; dsimp only)); refine be_ 2 #[.int .i64 a0_0, .int .i64 a0_1, .int .i64 a0_2, .int .i64 a0_3] 45 ?_; intro gb503 hg w3 hbox hb; have BK503 := am_ (hbox); have GW503 := am_ (gw_ hg bl_); have GE503 := GW503; replace HB := hs_ w hb; clear hb hbox hg) | ((with_reducible refine gate_dst (N := 9) rfl ?_); (try (refine gate_guard (by rfl) ?_; dsimp only)); refine Kd.R_lit Kd.string _ 9 ?hg (N := 9) ?hd (xs := ([] : List ByteArray)) (inner := []) (ok := fun _ => True) (okp := fun _ => True) ?hr ?hp (fun _ hk => hk) trivial (Below.refl _ _) (Nat.le_refl _) (by simp) ?_; (case hd => rfl); (case hg => rfl); (case hr => exact hr_); (case hp => exact (Reps.none _ _)); intro v505 w4 ho5 hb hg_ hnew_; clear hg_ hnew_; (first | rw [← Ny504.out] at ho5 | (simp only [Int.reduceToNat] at ho5; rw [← Ny504.out] at ho5)); have HO506 := am_ (Kd.R_lower ho5 (below_size bl_)); replace BK503 := bb_ BK503 hb; replace HB := hs_ w hb; clear hb ho5))
 go_loopg [5, 12] k (fun kq v5 v12 w' => ∃ (x5_1 : List ByteArray) (x12_1 : Int), v12 = .int .i64 x12_1 ∧ Aside0 (F50.l0 kq l1 x5_1 l1 (l1.length : Int) x12_1 a0_0 a0_1 a0_2 a0_3 = some r) ∧ Aside0 (kq ≤ k) ∧ Aside0 (Kd.R Kd.string 9 w' w.heap.size (fun _ => True) v5 x5_1) ∧ Aside0 (w'.heap[gb503]? = some (.cells #[.int .i64 a0_0, .int .i64 a0_1, .int .i64 a0_2, .int .i64 a0_3] 45 (0, 0))) ∧ Aside0 (Below w.heap.size w w'))
 case atStart => exact ⟨(y504), (0), er_, H', ⟨Nat.le_refl _⟩, ⟨rk_ HO506⟩, ⟨bk_ BK503⟩, ⟨bl_⟩⟩
 case round =>
  clear H'
  try clear c1
  obtain ⟨x5_1, x12_1, rfl, HA, HK1, HO_5, BK503, HB⟩ := hrel
  cases gk with
  | zero => exact absurd HA.out (by simp [F50.l0])
  | succ k1 =>
   have H := HA.out
   clear HA
   simp only [F50.l0] at H
   replace H := it_ H; rcases H with ⟨c6b0, H⟩ | ⟨c6b0, H⟩
   ·replace H := itn_ H; rcases H with ⟨c7b0, H⟩
    replace H := itn_ H; rcases H with ⟨c8b0, H⟩
    replace H := bi_ H; rcases H with ⟨t509, A9, H⟩
    replace H := iln_ H; rcases H with ⟨LMc10, H⟩
    obtain ⟨y510, hy510⟩ : ∃ y_ : List ByteArray, y_ = (x5_1 ++ [t509]) := ⟨_, rfl⟩
    replace H : (F50.l0 k1 l1 y510 l1 (l1.length : Int) (wrap64 (x12_1 + 1)) a0_0 a0_1 a0_2 a0_3) = some r := by first | (rw [hy510]; exact H) | exact H
    have Ny510 := am_ hy510
    clear hy510
    have H' := am_ H
    clear H
    have p507 : 0 ≤ (x12_1 : Int) := od_
    have q507 : x12_1 < (l1.length : Int) := od_
    obtain ⟨ad507, A507_1, c507_1, e507, hx507_0, hx507_1, hl507_1, hi507_1⟩ := at_T88 HR1.out x12_1 p507 q507
    cases e507
    replace hx507_0 := (HB.out.cell (World.block_lt_of_cell? _ _ hx507_0)).trans hx507_0
    replace hx507_1 := (HB.out.cell (World.block_lt_of_cell? _ _ hx507_1)).trans hx507_1
    have HR507_1 := am_ hi507_1
    have HC507_1 := am_ hl507_1
    clear hi507_1 hl507_1
    replace p507 := eq_true p507
    replace q507 := eq_true q507
    go_wp2_with (first | ((with_reducible refine gate_dst (N := 7) rfl ?_); (try (refine gate_guard (by rfl) ?_; dsimp only)); refine be_ 7 #[.string (⟨#[]⟩ : ByteArray), .slice none 0 0] 88 ?_; intro gb508 hg w11 hbox hb; replace HO_5 := am_ (Kd.R_below (rk_ HO_5) hb); have BK508 := am_ (hbox); have GW508 := am_ (gw_ hg bl_); have GE508 := GW508; replace HB := hs_ w hb; have NB503_508 := am_ (gn_ hg (blkl_ BK503)); have NB508_503 := am_ (gm_ hg (blkl_ BK503)); replace BK503 := bb_ BK503 hb; clear hb hbox hg; have hnb12 := NB508_503.out; have hnc12 := NB503_508.out; obtain ⟨hcz13_0, hcz13_1, hfz13_0, hfz13_1⟩ := cellsF2 BK508.out; obtain ⟨hcz14_0, hcz14_1, hcz14_2, hcz14_3, hfz14_0, hfz14_1, hfz14_2, hfz14_3⟩ := cellsF4 BK503.out) | ((with_reducible refine gate_callee (f := 90) rfl ?_); refine gl_ 19 Try.func90 #[.agg #[.int .i64 a0_0, .int .i64 a0_1, .int .i64 a0_2, .int .i64 a0_3], .agg #[.string ((rd_T88 l1 x12_1).f0), .slice A507_1 ((rd_T88 l1 x12_1).f1).length c507_1]] ?_ rfl rfl rfl rfl; (with_reducible refine (F90.calls k1 a0_0 a0_1 a0_2 a0_3 ((rd_T88 l1 x12_1).f0) _ _ ((rd_T88 l1 x12_1).f1) t509 _ ?s1 ?s2 A9.out).mono ?_); (case s1 => exact Kd.C_below HR507_1.out bl_); (case s2 => exact HC507_1.out); rintro e w15 ⟨rfl, hb⟩; refine ⟨_, rfl, ?_⟩; replace HO_5 := am_ (Kd.R_below (by (with_reducible repeat (first | apply Kd.R_alloc | apply Kd.R_drewN | apply Kd.R_drew)); exact (Kd.R_mono (Kd.R_far (p := ⟨gb508, 1, none⟩) (Kd.R_far (p := ⟨gb508, 0, none⟩) (Kd.R_types HO_5.out BK508.out (by decide)) (fun _ hk => hk.2) (.string ((rd_T88 l1 x12_1).f0))) (fun _ hk => hk.2) (.slice A507_1 ((rd_T88 l1 x12_1).f1).length c507_1)) (fun _ h_ => h_.1))) hb); replace BK503 := am_ (blk_below (g := gb503) (o := .cells #[.int .i64 a0_0, .int .i64 a0_1, .int .i64 a0_2, .int .i64 a0_3] 45 (0, 0)) (bf_ BK503) hb); replace BK508 := am_ (blk_below (g := gb508) (o := .cells #[.string ((rd_T88 l1 x12_1).f0), .slice A507_1 ((rd_T88 l1 x12_1).f1).length c507_1] 88 (0, 0)) (bq_ BK508) hb); replace HB := hs_ w hb; (try clear hb); (try clear hb2); (try clear hk); (try clear hi)) | ((with_reducible refine gate_builtin (b := .append) (xs := #[.tmp 16, .tmp 20]) rfl ?_); (try (refine gate_guard (by rfl) ?_; dsimp only)); at_builtin; refine Kd.R_append Kd.string (w0 := w) w.heap.size rfl (.tmp 16) (.tmp 20) 22 9 (.string ⟨#[]⟩) 16 rfl Try.underlying22 info9 rfl (by decide) (by omega) u5 x5_1 t509 [.string t509] (fun _ => True) (fun _ => False) rfl rfl ?aP (fun _ hk => hk.elim) ?aF ?aO ?aB ?aS ?aL ?_; (case aP => exact rfl); (case aB => exact bl_); (case aF => exact (fun _ _ => trivial)); (case aO => exact (rk_ HO_5)); (case aS => exact (below_size bl_)); (case aL => have := LMc10.out; omega); intro v511 w16 ho hb hg hat; rw [← Ny510.out] at ho; have n0_ := am_ (bg_ BK503 hg (Kd.R_ne HO_5.out BK503.out (by decide))); have n1_ := am_ (bg_ BK508 hg (Kd.R_ne HO_5.out BK508.out (by decide))); have n2_ := am_ (hb); have n3_ := am_ (ho); clear BK503; clear BK508; clear HB; clear HO_5; have BK503 := n0_; have BK508 := n1_; have HB := n2_; have HO512 := n3_; clear n0_ n1_ n2_ n3_; clear ho hb hg hat))
    go_roundg k1
    case measure => have := HK1.out; omega
    case rel => exact ⟨(y510), (wrap64 (x12_1 + 1)), er_, H', ⟨by have := HK1.out; omega⟩, ⟨rk_ HO512⟩, ⟨bk_ BK503⟩, ⟨bl_⟩⟩
   replace H := bi_ H; rcases H with ⟨t513, A17, H⟩
   replace H := it_ H; rcases H with ⟨(c18b0 : decide (200 < (l1.length : Int)) = true), H⟩ | ⟨(c18b0 : decide (200 < (l1.length : Int)) = false), H⟩
   ·have c18b1 : decide (200 < l1.length) = true := n2_ c18b0
    obtain rfl := Option.some.inj H
    obtain ⟨Ao19, co19, eo19⟩ := Kd.R_slice HO_5.out
    subst eo19
    go_wp2_with (first | ((with_reducible refine gate_callee (f := 91) rfl ?_); refine gl_ 24 Try.func91 #[.slice Ao19 x5_1.length co19, .string (⟨#[]⟩ : ByteArray)] ?_ rfl rfl rfl rfl; (with_reducible refine (F91.calls _ _ x5_1 (⟨#[]⟩ : ByteArray) t513 _ ?s1 ?s2 A17.out).mono ?_); (case s1 => exact au3_6); (case s2 => exact (Kd.R_reads' HO_5.out).2.1); rintro e w20 ⟨rfl, hb⟩; refine ⟨_, rfl, ?_⟩; replace HO_5 := am_ (Kd.R_below (rk_ HO_5) hb); replace BK503 := bb_ BK503 hb; replace HB := hs_ w hb; (try clear hb)))
    go_ret
    exact ⟨au3_0, bl_⟩
   have c18b1 : decide (200 < l1.length) = false := n2_ c18b0
   obtain ⟨y514, hy514⟩ : ∃ y_ : List ByteArray, y_ = (([t513] : List ByteArray)) := ⟨_, rfl⟩
   replace H : ((F51.f k1 y514).bind fun t517 => (if t517 = true then (some (⟨#[]⟩ : ByteArray)) else (some t513))) = some r := by first | (rw [hy514]; exact H) | exact H
   have Ny514 := am_ hy514
   clear hy514
   replace H := bi_ H; rcases H with ⟨t517, A21, H⟩
   replace H := ib_ H; rcases H with ⟨rfl, H⟩ | ⟨rfl, H⟩
   ·obtain rfl := Option.some.inj H
    obtain ⟨Ao23, co23, eo23⟩ := Kd.R_slice HO_5.out
    subst eo23
    go_wp2_with (first | ((with_reducible refine gate_callee (f := 91) rfl ?_); refine gl_ 24 Try.func91 #[.slice Ao23 x5_1.length co23, .string (⟨#[]⟩ : ByteArray)] ?_ rfl rfl rfl rfl; (with_reducible refine (F91.calls _ _ x5_1 (⟨#[]⟩ : ByteArray) t513 _ ?s1 ?s2 A17.out).mono ?_); (case s1 => exact au3_6); (case s2 => exact (Kd.R_reads' HO_5.out).2.1); rintro e w24 ⟨rfl, hb⟩; refine ⟨_, rfl, ?_⟩; replace HO_5 := am_ (Kd.R_below (rk_ HO_5) hb); replace BK503 := bb_ BK503 hb; replace HB := hs_ w hb; (try clear hb)) | ((with_reducible refine gate_dst (N := 30) rfl ?_); (try (refine gate_guard (by rfl) ?_; dsimp only)); refine Kd.R_lit Kd.string _ 9 ?hg (N := 30) ?hd (xs := ([t513] : List ByteArray)) (inner := [.string t513]) (ok := fun _ => True) (okp := fun _ => True) ?hr ?hp (fun _ hk => hk) trivial (Below.refl _ _) (Nat.le_refl _) (by simp) ?_; (case hd => rfl); (case hg => rfl); (case hr => exact hr_); (case hp => exact au3_16); intro v515 w25 ho26 hb hg_ hnew_; clear hg_ hnew_; (first | rw [← Ny514.out] at ho26 | (simp only [Int.reduceToNat] at ho26; rw [← Ny514.out] at ho26)); have HO516 := am_ (Kd.R_lower (Kd.R_new' ho26 (Kd.R_lt (rk_ HO_5))) (below_size bl_)); replace HO_5 := am_ (Kd.R_elder' (rk_ HO_5) (Kd.R_base ho26) hb); replace BK503 := bb_ BK503 hb; replace HB := hs_ w hb; clear hb ho26; obtain ⟨Ao27, co27, eo27⟩ := Kd.R_slice HO516.out; subst eo27) | (go_at_call 51; (with_reducible refine (F51.calls k1 _ _ y514 true _ ?s1 ?s2 A21.out).mono ?_); (case s1 => exact au3_10); (case s2 => exact (Kd.R_reads' HO516.out).2.1); rintro e w' ⟨rfl, ⟨nd, rfl⟩⟩))
    go_ret
    exact ⟨au3_0, bl_⟩
   obtain rfl := Option.some.inj H
   obtain ⟨Ao28, co28, eo28⟩ := Kd.R_slice HO_5.out
   subst eo28
   go_wp2_with (first | ((with_reducible refine gate_callee (f := 91) rfl ?_); refine gl_ 24 Try.func91 #[.slice Ao28 x5_1.length co28, .string (⟨#[]⟩ : ByteArray)] ?_ rfl rfl rfl rfl; (with_reducible refine (F91.calls _ _ x5_1 (⟨#[]⟩ : ByteArray) t513 _ ?s1 ?s2 A17.out).mono ?_); (case s1 => exact au3_6); (case s2 => exact (Kd.R_reads' HO_5.out).2.1); rintro e w29 ⟨rfl, hb⟩; refine ⟨_, rfl, ?_⟩; replace HO_5 := am_ (Kd.R_below (rk_ HO_5) hb); replace BK503 := bb_ BK503 hb; replace HB := hs_ w hb; (try clear hb)) | ((with_reducible refine gate_dst (N := 30) rfl ?_); (try (refine gate_guard (by rfl) ?_; dsimp only)); refine Kd.R_lit Kd.string _ 9 ?hg (N := 30) ?hd (xs := ([t513] : List ByteArray)) (inner := [.string t513]) (ok := fun _ => True) (okp := fun _ => True) ?hr ?hp (fun _ hk => hk) trivial (Below.refl _ _) (Nat.le_refl _) (by simp) ?_; (case hd => rfl); (case hg => rfl); (case hr => exact hr_); (case hp => exact au3_16); intro v515 w30 ho31 hb hg_ hnew_; clear hg_ hnew_; (first | rw [← Ny514.out] at ho31 | (simp only [Int.reduceToNat] at ho31; rw [← Ny514.out] at ho31)); have HO516 := am_ (Kd.R_lower (Kd.R_new' ho31 (Kd.R_lt (rk_ HO_5))) (below_size bl_)); replace HO_5 := am_ (Kd.R_elder' (rk_ HO_5) (Kd.R_base ho31) hb); replace BK503 := bb_ BK503 hb; replace HB := hs_ w hb; clear hb ho31; obtain ⟨Ao32, co32, eo32⟩ := Kd.R_slice HO516.out; subst eo32) | (go_at_call 51; (with_reducible refine (F51.calls k1 _ _ y514 false _ ?s1 ?s2 A21.out).mono ?_); (case s1 => exact au3_10); (case s2 => exact (Kd.R_reads' HO516.out).2.1); rintro e w' ⟨rfl, ⟨nd, rfl⟩⟩))
   go_ret
   exact ⟨au3_0, bl_⟩

/-! ### F85: function 85 -/
def F85.l0 : Nat → List (S88) → Int → Int → Option (Int)
  | 0, _, _, _ => none
  | k + 1, x0, x7, x8 => if x8 < x7 then (if 0 ≤ x8 then (if x8 < (x0.length : Int) then ((F48.f k ((rd_T88 x0 x8).f0) ((rd_T88 x0 x8).f1)).bind fun t519 => (if t519 = true then (some x8) else (F85.l0 k x0 x7 (wrap64 (x8 + 1))))) else (none)) else (none)) else (some (-1))
def F85.f (k : Nat) (l0 : List (S88))  : Option (Int) := F85.l0 k l0 (l0.length : Int) 0
theorem F85.mono_l : ∀ k, (∀ y0 y1 y2, LeO (F85.l0 k y0 y1 y2) (F85.l0 (k + 1) y0 y1 y2))
 | 0 => fun _ _ _ r h => by simp [F85.l0] at h
 | k + 1 => by
  have ih0 := F85.mono_l k
  intro y0 y1 y2
  unfold F85.l0
  repeat' with_reducible first | exact ih0 _ _ _ | exact F48.mono _ _ _ | exact LeO.refl _ | exact LeO.none _ | refine LeO.ite ?_ ?_ | refine LeO.bind ?_ (fun _ => ?_)
theorem F85.mono : ∀ a0 k, LeO (F85.f k a0) (F85.f (k + 1) a0) := by
 intro a0 k
 have ih0 := F85.mono_l k
 unfold F85.f
 repeat' with_reducible first | exact ih0 _ _ _ | exact F48.mono _ _ _ | exact LeO.refl _ | exact LeO.none _ | refine LeO.ite ?_ ?_ | refine LeO.bind ?_ (fun _ => ?_)
theorem F85.calls (k : Nat) (A0 : Option Addr) (c0 : Nat) (l0 : List (S88))  (r : Int) (w : World) (hr0 : Kd.C k88 w A0 l0.length l0) (hc0 : l0.length ≤ c0) (h : F85.f k l0 = some r) :
  Calls Try.prog 85 #[.slice A0 l0.length c0, .func (.func 48) #[] #[]] w fun e w' => e = .returned (.int .i64 r) ∧ Below w.heap.size w w' := by
 have hu88 := Try.underlying88
 have HR0 := am_ hr0
 have HC0 := am_ hc0
 clear hr0 hc0
 have HB := am_ (Below.refl w.heap.size w)
 have H : (F85.l0 k l0 (l0.length : Int) 0) = some r := h
 clear h
 have H' := am_ H
 clear H
 go_enter Try.func85, Try.ntmps85
 go_wp2
 go_loopg [8] k (fun kq v8 w' => ∃ (x8_1 : Int), v8 = .int .i64 x8_1 ∧ Aside0 (F85.l0 kq l0 (l0.length : Int) x8_1 = some r) ∧ Aside0 (kq ≤ k) ∧ Aside0 (Below w.heap.size w w'))
 case atStart => exact ⟨(0), er_, H', ⟨Nat.le_refl _⟩, ⟨bl_⟩⟩
 case round =>
  clear H'
  obtain ⟨x8_1, rfl, HA, HK1, HB⟩ := hrel
  cases gk with
  | zero => exact absurd HA.out (by simp [F85.l0])
  | succ k1 =>
   have H := HA.out
   clear HA
   simp only [F85.l0] at H
   replace H := it_ H; rcases H with ⟨c3b0, H⟩ | ⟨c3b0, H⟩
   rotate_left
   ·obtain rfl := Option.some.inj H
    go_wp2
    go_ret
    exact ⟨au3_0, bl_⟩

   replace H := itn_ H; rcases H with ⟨c4b0, H⟩
   replace H := itn_ H; rcases H with ⟨c5b0, H⟩
   replace H := bi_ H; rcases H with ⟨t519, A6, H⟩
   replace H := ib_ H; rcases H with ⟨rfl, H⟩ | ⟨rfl, H⟩
   ·obtain rfl := Option.some.inj H
    have p518 : 0 ≤ (x8_1 : Int) := od_
    have q518 : x8_1 < (l0.length : Int) := od_
    obtain ⟨ad518, A518_1, c518_1, e518, hx518_0, hx518_1, hl518_1, hi518_1⟩ := at_T88 HR0.out x8_1 p518 q518
    cases e518
    replace hx518_0 := (HB.out.cell (World.block_lt_of_cell? _ _ hx518_0)).trans hx518_0
    replace hx518_1 := (HB.out.cell (World.block_lt_of_cell? _ _ hx518_1)).trans hx518_1
    have HR518_1 := am_ hi518_1
    have HC518_1 := am_ hl518_1
    clear hi518_1 hl518_1
    replace p518 := eq_true p518
    replace q518 := eq_true q518
    go_wp2_with (first | (go_at_call 48; (with_reducible refine (F48.calls k1 ((rd_T88 l0 x8_1).f0) _ _ ((rd_T88 l0 x8_1).f1) true _ ?s1 ?s2 A6.out).mono ?_); (case s1 => exact au3_9); (case s2 => exact HC518_1.out); rintro e w8 ⟨rfl, hb⟩; replace HB := hs_ w hb; (try clear hb)))
    go_ret
    exact ⟨au3_0, bl_⟩
   have H' := am_ H
   clear H
   have p518 : 0 ≤ (x8_1 : Int) := od_
   have q518 : x8_1 < (l0.length : Int) := od_
   obtain ⟨ad518, A518_1, c518_1, e518, hx518_0, hx518_1, hl518_1, hi518_1⟩ := at_T88 HR0.out x8_1 p518 q518
   cases e518
   replace hx518_0 := (HB.out.cell (World.block_lt_of_cell? _ _ hx518_0)).trans hx518_0
   replace hx518_1 := (HB.out.cell (World.block_lt_of_cell? _ _ hx518_1)).trans hx518_1
   have HR518_1 := am_ hi518_1
   have HC518_1 := am_ hl518_1
   clear hi518_1 hl518_1
   replace p518 := eq_true p518
   replace q518 := eq_true q518
   go_wp2_with (first | (go_at_call 48; (with_reducible refine (F48.calls k1 ((rd_T88 l0 x8_1).f0) _ _ ((rd_T88 l0 x8_1).f1) false _ ?s1 ?s2 A6.out).mono ?_); (case s1 => exact au3_9); (case s2 => exact HC518_1.out); rintro e w9 ⟨rfl, hb⟩; replace HB := hs_ w hb; (try clear hb)))
   go_roundg k1
   case measure => have := HK1.out; omega
   case rel => exact ⟨(wrap64 (x8_1 + 1)), er_, H', ⟨by have := HK1.out; omega⟩, ⟨bl_⟩⟩
/-! ### F47: function 47 -/
def F47.f (k : Nat) (l0 : List (S88))  : Option (Bool) := (F85.f k l0).bind fun t520 => (some (decide (t520 ≥ 0)))
theorem F47.mono : ∀ a0 k, LeO (F47.f k a0) (F47.f (k + 1) a0) := by
 intro a0 k
 unfold F47.f
 repeat' with_reducible first | exact F85.mono _ _ | exact LeO.refl _ | exact LeO.none _ | refine LeO.ite ?_ ?_ | refine LeO.bind ?_ (fun _ => ?_)
theorem F47.calls (k : Nat) (A0 : Option Addr) (c0 : Nat) (l0 : List (S88))  (r : Bool) (w : World) (hr0 : Kd.C k88 w A0 l0.length l0) (hc0 : l0.length ≤ c0) (h : F47.f k l0 = some r) :
  Calls Try.prog 47 #[.slice A0 l0.length c0, .func (.func 48) #[] #[]] w fun e w' => e = .returned (.bool r) ∧ Below w.heap.size w w' := by
 have HR0 := am_ hr0
 have HC0 := am_ hc0
 clear hr0 hc0
 have HB := am_ (Below.refl w.heap.size w)
 have H : ((F85.f k l0).bind fun t520 => (some (decide (t520 ≥ 0)))) = some r := h
 clear h
 replace H := bi_ H; rcases H with ⟨t520, A3, H⟩
 obtain rfl := Option.some.inj H
 go_enter Try.func47, Try.ntmps47
 go_wp2_with (first | ((with_reducible refine gate_callee (f := 85) rfl ?_); refine gl_ 7 Try.func85 #[.slice A0 l0.length c0, .func (.func 48) #[] #[]] ?_ rfl rfl rfl rfl; (with_reducible refine (F85.calls k _ _ l0  t520 _ ?s1 ?s2 A3.out).mono ?_); (case s1 => exact au3_3); (case s2 => exact HC0.out); rintro e w4 ⟨rfl, hb⟩; refine ⟨_, rfl, ?_⟩; replace HB := hs_ w hb; (try clear hb)))
 go_ret
 exact ⟨au3_0, bl_⟩

/-! ### F20: function 20 -/
def F20.f (k : Nat) (a0_0 : Int) (a0_1 : Int) (a0_2 : Int) (a0_3 : Int) (l1 : List (S88)) : Option (ByteArray) := (F46.f k a0_0 a0_1 a0_2 a0_3).bind fun t522 => (if t522 = true then (if (l1.length : Int) > 200 then (some (⟨#[]⟩ : ByteArray)) else ((F47.f k l1).bind fun t523 => (if t523 = true then (some (⟨#[]⟩ : ByteArray)) else ((F50.f k a0_0 a0_1 a0_2 a0_3 l1).bind fun t524 => (some t524))))) else (some (⟨#[]⟩ : ByteArray)))
theorem F20.mono : ∀ a0 a1 a2 a3 a4 k, LeO (F20.f k a0 a1 a2 a3 a4) (F20.f (k + 1) a0 a1 a2 a3 a4) := by
 intro a0 a1 a2 a3 a4 k
 unfold F20.f
 repeat' with_reducible first | exact F47.mono _ _ | exact F46.mono _ _ _ _ _ | exact F50.mono _ _ _ _ _ _ | exact LeO.refl _ | exact LeO.none _ | refine LeO.ite ?_ ?_ | refine LeO.bind ?_ (fun _ => ?_)
theorem F20.calls (k : Nat) (a0_0 : Int) (a0_1 : Int) (a0_2 : Int) (a0_3 : Int) (A1 : Option Addr) (c1 : Nat) (l1 : List (S88)) (r : ByteArray) (w : World) (hr1 : Kd.C k88 w A1 l1.length l1) (hc1 : l1.length ≤ c1) (h : F20.f k a0_0 a0_1 a0_2 a0_3 l1 = some r) :
  Calls Try.prog 20 #[.agg #[.int .i64 a0_0, .int .i64 a0_1, .int .i64 a0_2, .int .i64 a0_3], .slice A1 l1.length c1] w fun e w' => e = .returned (.string r) ∧ Below w.heap.size w w' := by
 have hu45 := Try.underlying45
 have HR1 := am_ hr1
 have HC1 := am_ hc1
 clear hr1 hc1
 have HB := am_ (Below.refl w.heap.size w)
 have H : ((F46.f k a0_0 a0_1 a0_2 a0_3).bind fun t522 => (if t522 = true then (if (l1.length : Int) > 200 then (some (⟨#[]⟩ : ByteArray)) else ((F47.f k l1).bind fun t523 => (if t523 = true then (some (⟨#[]⟩ : ByteArray)) else ((F50.f k a0_0 a0_1 a0_2 a0_3 l1).bind fun t524 => (some t524))))) else (some (⟨#[]⟩ : ByteArray)))) = some r := h
 clear h
 replace H := bi_ H; rcases H with ⟨t522, A3, H⟩
 replace H := ib_ H; rcases H with ⟨rfl, H⟩ | ⟨rfl, H⟩
 rotate_left
 ·obtain rfl := Option.some.inj H
  go_enter Try.func20, Try.ntmps20
  go_wp2_with (first | ((with_reducible refine gate_dst (N := 2) rfl ?_); (try (refine gate_guard (by rfl) ?_; dsimp only)); refine be_ 2 #[.int .i64 a0_0, .int .i64 a0_1, .int .i64 a0_2, .int .i64 a0_3] 45 ?_; intro gb521 hg w22 hbox hb; have BK521 := am_ (hbox); have GW521 := am_ (gw_ hg bl_); have GE521 := GW521; replace HB := hs_ w hb; clear hb hbox hg; obtain ⟨hcz23_0, hcz23_1, hcz23_2, hcz23_3, hfz23_0, hfz23_1, hfz23_2, hfz23_3⟩ := cellsF4 BK521.out) | ((with_reducible refine gate_callee (f := 46) rfl ?_); refine gl_ 6 Try.func46 #[.agg #[.int .i64 a0_0, .int .i64 a0_1, .int .i64 a0_2, .int .i64 a0_3]] ?_ rfl rfl rfl rfl; (with_reducible refine (F46.calls k a0_0 a0_1 a0_2 a0_3 false _ A3.out).mono ?_); rintro e w24 ⟨rfl, hb⟩; refine ⟨_, rfl, ?_⟩; replace BK521 := bb_ BK521 hb; replace HB := hs_ w hb; (try clear hb)))
  go_ret
  exact ⟨au3_0, bl_⟩

 replace H := it_ H; rcases H with ⟨(c5b0 : decide (200 < (l1.length : Int)) = true), H⟩ | ⟨(c5b0 : decide (200 < (l1.length : Int)) = false), H⟩
 ·have c5b1 : decide (200 < l1.length) = true := n2_ c5b0
  obtain rfl := Option.some.inj H
  go_enter Try.func20, Try.ntmps20
  go_wp2_with (first | ((with_reducible refine gate_dst (N := 2) rfl ?_); (try (refine gate_guard (by rfl) ?_; dsimp only)); refine be_ 2 #[.int .i64 a0_0, .int .i64 a0_1, .int .i64 a0_2, .int .i64 a0_3] 45 ?_; intro gb521 hg w6 hbox hb; have BK521 := am_ (hbox); have GW521 := am_ (gw_ hg bl_); have GE521 := GW521; replace HB := hs_ w hb; clear hb hbox hg; obtain ⟨hcz7_0, hcz7_1, hcz7_2, hcz7_3, hfz7_0, hfz7_1, hfz7_2, hfz7_3⟩ := cellsF4 BK521.out) | ((with_reducible refine gate_callee (f := 46) rfl ?_); refine gl_ 6 Try.func46 #[.agg #[.int .i64 a0_0, .int .i64 a0_1, .int .i64 a0_2, .int .i64 a0_3]] ?_ rfl rfl rfl rfl; (with_reducible refine (F46.calls k a0_0 a0_1 a0_2 a0_3 true _ A3.out).mono ?_); rintro e w8 ⟨rfl, hb⟩; refine ⟨_, rfl, ?_⟩; replace BK521 := bb_ BK521 hb; replace HB := hs_ w hb; (try clear hb)))
  go_ret
  exact ⟨au3_0, bl_⟩
 have c5b1 : decide (200 < l1.length) = false := n2_ c5b0
 replace H := bi_ H; rcases H with ⟨t523, A9, H⟩
 replace H := ib_ H; rcases H with ⟨rfl, H⟩ | ⟨rfl, H⟩
 ·obtain rfl := Option.some.inj H
  go_enter Try.func20, Try.ntmps20
  go_wp2_with (first | ((with_reducible refine gate_dst (N := 2) rfl ?_); (try (refine gate_guard (by rfl) ?_; dsimp only)); refine be_ 2 #[.int .i64 a0_0, .int .i64 a0_1, .int .i64 a0_2, .int .i64 a0_3] 45 ?_; intro gb521 hg w11 hbox hb; have BK521 := am_ (hbox); have GW521 := am_ (gw_ hg bl_); have GE521 := GW521; replace HB := hs_ w hb; clear hb hbox hg; obtain ⟨hcz12_0, hcz12_1, hcz12_2, hcz12_3, hfz12_0, hfz12_1, hfz12_2, hfz12_3⟩ := cellsF4 BK521.out) | ((with_reducible refine gate_callee (f := 46) rfl ?_); refine gl_ 6 Try.func46 #[.agg #[.int .i64 a0_0, .int .i64 a0_1, .int .i64 a0_2, .int .i64 a0_3]] ?_ rfl rfl rfl rfl; (with_reducible refine (F46.calls k a0_0 a0_1 a0_2 a0_3 true _ A3.out).mono ?_); rintro e w13 ⟨rfl, hb⟩; refine ⟨_, rfl, ?_⟩; replace BK521 := bb_ BK521 hb; replace HB := hs_ w hb; (try clear hb)) | (go_at_call 47; (with_reducible refine (F47.calls k _ _ l1  true _ ?s1 ?s2 A9.out).mono ?_); (case s1 => exact au3_5); (case s2 => exact HC1.out); rintro e w14 ⟨rfl, hb⟩; replace BK521 := bb_ BK521 hb; replace HB := hs_ w hb; (try clear hb)))
  go_ret
  exact ⟨au3_0, bl_⟩
 replace H := bi_ H; rcases H with ⟨t524, A15, H⟩
 obtain rfl := Option.some.inj H
 go_enter Try.func20, Try.ntmps20
 go_wp2_with (first | ((with_reducible refine gate_dst (N := 2) rfl ?_); (try (refine gate_guard (by rfl) ?_; dsimp only)); refine be_ 2 #[.int .i64 a0_0, .int .i64 a0_1, .int .i64 a0_2, .int .i64 a0_3] 45 ?_; intro gb521 hg w16 hbox hb; have BK521 := am_ (hbox); have GW521 := am_ (gw_ hg bl_); have GE521 := GW521; replace HB := hs_ w hb; clear hb hbox hg; obtain ⟨hcz17_0, hcz17_1, hcz17_2, hcz17_3, hfz17_0, hfz17_1, hfz17_2, hfz17_3⟩ := cellsF4 BK521.out) | ((with_reducible refine gate_callee (f := 46) rfl ?_); refine gl_ 6 Try.func46 #[.agg #[.int .i64 a0_0, .int .i64 a0_1, .int .i64 a0_2, .int .i64 a0_3]] ?_ rfl rfl rfl rfl; (with_reducible refine (F46.calls k a0_0 a0_1 a0_2 a0_3 true _ A3.out).mono ?_); rintro e w18 ⟨rfl, hb⟩; refine ⟨_, rfl, ?_⟩; replace BK521 := bb_ BK521 hb; replace HB := hs_ w hb; (try clear hb)) | (go_at_call 47; (with_reducible refine (F47.calls k _ _ l1  false _ ?s1 ?s2 A9.out).mono ?_); (case s1 => exact au3_5); (case s2 => exact HC1.out); rintro e w19 ⟨rfl, hb⟩; replace BK521 := bb_ BK521 hb; replace HB := hs_ w hb; (try clear hb); obtain ⟨hcz20_0, hcz20_1, hcz20_2, hcz20_3, hfz20_0, hfz20_1, hfz20_2, hfz20_3⟩ := cellsF4 BK521.out) | ((with_reducible refine gate_callee (f := 50) rfl ?_); refine gl_ 19 Try.func50 #[.agg #[.int .i64 a0_0, .int .i64 a0_1, .int .i64 a0_2, .int .i64 a0_3], .slice A1 l1.length c1] ?_ rfl rfl rfl rfl; (with_reducible refine (F50.calls k a0_0 a0_1 a0_2 a0_3 _ _ l1 t524 _ ?s1 ?s2 A15.out).mono ?_); (case s1 => exact au3_5); (case s2 => exact HC1.out); rintro e w21 ⟨rfl, hb⟩; refine ⟨_, rfl, ?_⟩; replace BK521 := bb_ BK521 hb; replace HB := hs_ w hb; (try clear hb)))
 go_ret
 exact ⟨au3_0, bl_⟩
/-! ### F93: function 93 -/
def F93.l0 : Nat → ByteArray → Int → List ByteArray → Int → Int → Int → Int → Int → Int → Option (List ByteArray)
  | 0, _, _, _, _, _, _, _, _, _ => none
  | k + 1, x1, x2, x7, x8, x9, x526000, x526001, x526002, x526003 => if x9 < (x1.size : Int) then (if 0 ≤ x9 then (if (wrap64 (bt x1 x9)) = x526003 then (F93.l0 k x1 x2 x7 x8 (wrap64 ((wrap64 (x9 + 1)) + 1)) x526000 x526001 x526002 x526003) else (if (wrap64 (bt x1 x9)) = x2 then (if 0 ≤ x8 then (if x8 ≤ x9 then (if x9 ≤ (x1.size : Int) then (if x7.length < 8796093022208 then (F93.l0 k x1 x2 (x7 ++ [x1.extract (x8 : Int).toNat (x9 : Int).toNat]) (wrap64 (x9 + 1)) (wrap64 (x9 + 1)) x526000 x526001 x526002 x526003) else (none)) else (none)) else (none)) else (none)) else (F93.l0 k x1 x2 x7 x8 (wrap64 (x9 + 1)) x526000 x526001 x526002 x526003))) else (none)) else (if 0 ≤ x8 then (if x8 ≤ (x1.size : Int) then (if x7.length < 8796093022208 then (some (x7 ++ [x1.extract (x8 : Int).toNat x1.size])) else (none)) else (none)) else (none))
def F93.f (k : Nat) (a0_0 : Int) (a0_1 : Int) (a0_2 : Int) (a0_3 : Int) (a1 : ByteArray) (a2 : Int) : Option (List ByteArray) := F93.l0 k a1 a2 (([] : List ByteArray)) 0 0 a0_0 a0_1 a0_2 a0_3
theorem F93.mono_l : ∀ k, (∀ y0 y1 y2 y3 y4 y5 y6 y7 y8, LeO (F93.l0 k y0 y1 y2 y3 y4 y5 y6 y7 y8) (F93.l0 (k + 1) y0 y1 y2 y3 y4 y5 y6 y7 y8))
 | 0 => fun _ _ _ _ _ _ _ _ _ r h => by simp [F93.l0] at h
 | k + 1 => by
  have ih0 := F93.mono_l k
  intro y0 y1 y2 y3 y4 y5 y6 y7 y8
  unfold F93.l0
  repeat' with_reducible first | exact ih0 _ _ _ _ _ _ _ _ _ | exact LeO.refl _ | exact LeO.none _ | refine LeO.ite ?_ ?_ | refine LeO.bind ?_ (fun _ => ?_)
theorem F93.mono : ∀ a0 a1 a2 a3 a4 a5 k, LeO (F93.f k a0 a1 a2 a3 a4 a5) (F93.f (k + 1) a0 a1 a2 a3 a4 a5) := by
 intro a0 a1 a2 a3 a4 a5 k
 have ih0 := F93.mono_l k
 unfold F93.f
 repeat' with_reducible first | exact ih0 _ _ _ _ _ _ _ _ _ | exact LeO.refl _ | exact LeO.none _ | refine LeO.ite ?_ ?_ | refine LeO.bind ?_ (fun _ => ?_)
theorem F93.calls (k : Nat) (a0_0 : Int) (a0_1 : Int) (a0_2 : Int) (a0_3 : Int) (a1 : ByteArray) (a2 : Int) (r : List ByteArray) (w : World) (h : F93.f k a0_0 a0_1 a0_2 a0_3 a1 a2 = some r) :
  Calls Try.prog 93 #[.agg #[.int .i64 a0_0, .int .i64 a0_1, .int .i64 a0_2, .int .i64 a0_3], .string a1, .int .i64 a2] w fun e w' => ∃ v0_ : Value, e = .returned (v0_) ∧ Kd.R Kd.string 9 w' w.heap.size (fun _ => True) v0_ r ∧ Below w.heap.size w w' := by
 have hu45 := Try.underlying45
 have HB := am_ (Below.refl w.heap.size w)
 have H : (F93.l0 k a1 a2 (([] : List ByteArray)) 0 0 a0_0 a0_1 a0_2 a0_3) = some r := h
 clear h
 obtain ⟨y526, hy526⟩ : ∃ y_ : List ByteArray, y_ = (([] : List ByteArray)) := ⟨_, rfl⟩
 replace H : (F93.l0 k a1 a2 y526 0 0 a0_0 a0_1 a0_2 a0_3) = some r := by first | (rw [hy526]; exact H) | exact H
 have Ny526 := am_ hy526
 clear hy526
 have H' := am_ H
 clear H
 go_enter Try.func93, Try.ntmps93
 go_wp2_with (first | ((with_reducible refine gate_dst (N := 3) rfl ?_); refine be_ 3 #[.int .i64 a0_0, .int .i64 a0_1, .int .i64 a0_2, .int .i64 a0_3] 45 ?_; intro gb525 hg w4 hbox hb; have BK525 := am_ (hbox); have GW525 := am_ (gw_ hg bl_); have GE525 := GW525; replace HB := hs_ w hb; clear hb hbox hg) | ((with_reducible refine gate_dst (N := 10) rfl ?_); refine Kd.R_lit Kd.string _ 9 ?hg (N := 10) ?hd (xs := ([] : List ByteArray)) (inner := []) (ok := fun _ => True) (okp := fun _ => True) ?hr ?hp (fun _ hk => hk) trivial (Below.refl _ _) (Nat.le_refl _) (by simp) ?_; (case hd => rfl); (case hg => rfl); (case hr => exact hr_); (case hp => exact (Reps.none _ _)); intro v527 w5 ho6 hb hg_ hnew_; clear hg_ hnew_; (first | rw [← Ny526.out] at ho6 | (simp only [Int.reduceToNat] at ho6; rw [← Ny526.out] at ho6)); have HO528 := am_ (Kd.R_lower ho6 (below_size bl_)); replace BK525 := bb_ BK525 hb; replace HB := hs_ w hb; clear hb ho6))
 go_loopg [7, 8, 9] k (fun kq v7 v8 v9 w' => ∃ (x7_1 : List ByteArray) (x8_1 : Int) (x9_1 : Int), v8 = .int .i64 x8_1 ∧ v9 = .int .i64 x9_1 ∧ Aside0 (F93.l0 kq a1 a2 x7_1 x8_1 x9_1 a0_0 a0_1 a0_2 a0_3 = some r) ∧ Aside0 (kq ≤ k) ∧ Aside0 (Kd.R Kd.string 9 w' w.heap.size (fun _ => True) v7 x7_1) ∧ Aside0 (w'.heap[gb525]? = some (.cells #[.int .i64 a0_0, .int .i64 a0_1, .int .i64 a0_2, .int .i64 a0_3] 45 (0, 0))) ∧ Aside0 (Below w.heap.size w w'))
 case atStart => exact ⟨(y526), (0), (0), er_, er_, H', ⟨Nat.le_refl _⟩, ⟨rk_ HO528⟩, ⟨bk_ BK525⟩, ⟨bl_⟩⟩
 case round =>
  clear H'
  obtain ⟨x7_1, x8_1, x9_1, rfl, rfl, HA, HK1, HO_7, BK525, HB⟩ := hrel
  cases gk with
  | zero => exact absurd HA.out (by simp [F93.l0])
  | succ k1 =>
   have H := HA.out
   clear HA
   simp only [F93.l0] at H
   replace H := it_ H; rcases H with ⟨c7b0, H⟩ | ⟨c7b0, H⟩
   rotate_left
   ·by_cases c20 : 0 ≤ x8_1
    rotate_left
    ·rw [if_neg c20] at H
     exact absurd H (by simp)
    rw [if_pos c20] at H
    have c20b0 := eq_true c20
    have c20b1 : decide (0 ≤ x8_1) = true := decide_eq_true c20
    clear c20
    by_cases c21 : x8_1 ≤ (a1.size : Int)
    rotate_left
    ·rw [if_neg c21] at H
     exact absurd H (by simp)
    rw [if_pos c21] at H
    have c21b0 := eq_true c21
    have c21b1 : decide (x8_1 ≤ (a1.size : Int)) = true := decide_eq_true c21
    clear c21
    replace H := iln_ H; rcases H with ⟨LMc22, H⟩
    obtain ⟨y529, hy529⟩ : ∃ y_ : List ByteArray, y_ = (x7_1 ++ [a1.extract (x8_1 : Int).toNat a1.size]) := ⟨_, rfl⟩
    replace H : (some y529) = some r := by first | (rw [hy529]; exact H) | exact H
    have Ny529 := am_ hy529
    clear hy529
    obtain rfl := Option.some.inj H
    go_wp2_with (first | ((with_reducible refine gate_builtin (b := .append) (xs := #[.tmp 39, .tmp 43]) rfl ?_); at_builtin; refine Kd.R_append Kd.string (w0 := w) w.heap.size rfl (.tmp 39) (.tmp 43) 22 9 (.string ⟨#[]⟩) 16 rfl Try.underlying22 info9 rfl (by decide) (by omega) u7 x7_1 (a1.extract (x8_1 : Int).toNat a1.size) [.string (a1.extract (x8_1 : Int).toNat a1.size)] (fun _ => True) (fun _ => False) rfl rfl ?aP (fun _ hk => hk.elim) ?aF ?aO ?aB ?aS ?aL ?_; (case aP => exact rfl); (case aB => exact bl_); (case aF => exact (fun _ _ => trivial)); (case aO => exact (rk_ HO_7)); (case aS => exact (below_size bl_)); (case aL => have := LMc22.out; omega); intro v530 w23 ho hb hg hat; rw [← Ny529.out] at ho; have n0_ := am_ (bg_ BK525 hg (Kd.R_ne HO_7.out BK525.out (by decide))); have n1_ := am_ (hb); have n2_ := am_ (ho); clear BK525; clear HB; clear HO_7; have BK525 := n0_; have HB := n1_; have HO531 := n2_; clear n0_ n1_ n2_; clear ho hb hg hat))
    go_ret
    exact ⟨_, au3_0, rk_ HO531, bl_⟩
   replace H := itn_ H; rcases H with ⟨c8b0, H⟩
   by_cases c10 : (wrap64 (bt a1 x9_1)) = a0_3
   ·rw [if_pos c10] at H
    have c10b0 : ((wrap64 (bt a1 x9_1)) == a0_3) = true := beq_iff_eq.mpr c10
    have c10b1 : ((wrap64 (bt a1 x9_1)) != a0_3) = false := bne_eq_false_iff_eq.mpr c10
    clear c10
    have H' := am_ H
    clear H
    have p9 : 0 ≤ (x9_1 : Int) := od_
    have q9 : x9_1 < (a1.size : Int) := od_
    have hx9 := bt_at a1 x9_1
    replace p9 := eq_true p9
    replace q9 := eq_true q9
    obtain ⟨hcz11_0, hcz11_1, hcz11_2, hcz11_3, hfz11_0, hfz11_1, hfz11_2, hfz11_3⟩ := cellsF4 BK525.out
    go_wp2
    go_roundg k1
    case measure => have := HK1.out; omega
    case rel => exact ⟨(x7_1), (x8_1), (wrap64 ((wrap64 (x9_1 + 1)) + 1)), er_, er_, H', ⟨by have := HK1.out; omega⟩, ⟨rk_ HO_7⟩, ⟨bk_ BK525⟩, ⟨bl_⟩⟩
   rw [if_neg c10] at H
   have c10b0 : ((wrap64 (bt a1 x9_1)) == a0_3) = false := beq_eq_false_iff_ne.mpr c10
   have c10b1 : ((wrap64 (bt a1 x9_1)) != a0_3) = true := bne_iff_ne.mpr c10
   by_cases c12 : (wrap64 (bt a1 x9_1)) = a2
   rotate_left
   ·rw [if_neg c12] at H
    have c12b0 : ((wrap64 (bt a1 x9_1)) == a2) = false := beq_eq_false_iff_ne.mpr c12
    have c12b1 : ((wrap64 (bt a1 x9_1)) != a2) = true := bne_iff_ne.mpr c12
    have H' := am_ H
    clear H
    have p9 : 0 ≤ (x9_1 : Int) := od_
    have q9 : x9_1 < (a1.size : Int) := od_
    have hx9 := bt_at a1 x9_1
    replace p9 := eq_true p9
    replace q9 := eq_true q9
    obtain ⟨hcz19_0, hcz19_1, hcz19_2, hcz19_3, hfz19_0, hfz19_1, hfz19_2, hfz19_3⟩ := cellsF4 BK525.out
    go_wp2
    go_roundg k1
    case measure => have := HK1.out; omega
    case rel => exact ⟨(x7_1), (x8_1), (wrap64 (x9_1 + 1)), er_, er_, H', ⟨by have := HK1.out; omega⟩, ⟨rk_ HO_7⟩, ⟨bk_ BK525⟩, ⟨bl_⟩⟩
   rw [if_pos c12] at H
   have c12b0 : ((wrap64 (bt a1 x9_1)) == a2) = true := beq_iff_eq.mpr c12
   have c12b1 : ((wrap64 (bt a1 x9_1)) != a2) = false := bne_eq_false_iff_eq.mpr c12
   clear c12
   by_cases c13 : 0 ≤ x8_1
   rotate_left
   ·rw [if_neg c13] at H
    exact absurd H (by simp)
   rw [if_pos c13] at H
   have c13b0 := eq_true c13
   have c13b1 : decide (0 ≤ x8_1) = true := decide_eq_true c13
   clear c13
   by_cases c14 : x8_1 ≤ x9_1
   rotate_left
   ·rw [if_neg c14] at H
    exact absurd H (by simp)
   rw [if_pos c14] at H
   have c14b0 := eq_true c14
   have c14b1 : decide (x8_1 ≤ x9_1) = true := decide_eq_true c14
   clear c14
   by_cases c15 : x9_1 ≤ (a1.size : Int)
   rotate_left
   ·rw [if_neg c15] at H
    exact absurd H (by simp)
   rw [if_pos c15] at H
   have c15b0 := eq_true c15
   have c15b1 : decide (x9_1 ≤ (a1.size : Int)) = true := decide_eq_true c15
   clear c15
   replace H := iln_ H; rcases H with ⟨LMc16, H⟩
   obtain ⟨y532, hy532⟩ : ∃ y_ : List ByteArray, y_ = (x7_1 ++ [a1.extract (x8_1 : Int).toNat (x9_1 : Int).toNat]) := ⟨_, rfl⟩
   replace H : (F93.l0 k1 a1 a2 y532 (wrap64 (x9_1 + 1)) (wrap64 (x9_1 + 1)) a0_0 a0_1 a0_2 a0_3) = some r := by first | (rw [hy532]; exact H) | exact H
   have Ny532 := am_ hy532
   clear hy532
   have H' := am_ H
   clear H
   have p9 : 0 ≤ (x9_1 : Int) := od_
   have q9 : x9_1 < (a1.size : Int) := od_
   have hx9 := bt_at a1 x9_1
   replace p9 := eq_true p9
   replace q9 := eq_true q9
   obtain ⟨hcz17_0, hcz17_1, hcz17_2, hcz17_3, hfz17_0, hfz17_1, hfz17_2, hfz17_3⟩ := cellsF4 BK525.out
   go_wp2_with (first | ((with_reducible refine gate_builtin (b := .append) (xs := #[.tmp 30, .tmp 35]) rfl ?_); at_builtin; refine Kd.R_append Kd.string (w0 := w) w.heap.size rfl (.tmp 30) (.tmp 35) 22 9 (.string ⟨#[]⟩) 16 rfl Try.underlying22 info9 rfl (by decide) (by omega) u7 x7_1 (a1.extract (x8_1 : Int).toNat (x9_1 : Int).toNat) [.string (a1.extract (x8_1 : Int).toNat (x9_1 : Int).toNat)] (fun _ => True) (fun _ => False) rfl rfl ?aP (fun _ hk => hk.elim) ?aF ?aO ?aB ?aS ?aL ?_; (case aP => exact rfl); (case aB => exact bl_); (case aF => exact (fun _ _ => trivial)); (case aO => exact (rk_ HO_7)); (case aS => exact (below_size bl_)); (case aL => have := LMc16.out; omega); intro v533 w18 ho hb hg hat; rw [← Ny532.out] at ho; have n0_ := am_ (bg_ BK525 hg (Kd.R_ne HO_7.out BK525.out (by decide))); have n1_ := am_ (hb); have n2_ := am_ (ho); clear BK525; clear HB; clear HO_7; have BK525 := n0_; have HB := n1_; have HO534 := n2_; clear n0_ n1_ n2_; clear ho hb hg hat))
   go_roundg k1
   case measure => have := HK1.out; omega
   case rel => exact ⟨(y532), (wrap64 (x9_1 + 1)), (wrap64 (x9_1 + 1)), er_, er_, H', ⟨by have := HK1.out; omega⟩, ⟨rk_ HO534⟩, ⟨bk_ BK525⟩, ⟨bl_⟩⟩
end Go.Proofs.Ytlghcbmkhdibdaa.PFnFirstSegments
