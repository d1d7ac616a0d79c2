-- printed by a program of this session (wip/xp/xprint.py) out of the translation; Lean checks it
import Derived.Test.YtchoalagkcdbhaaPFnSegmentBackx0
namespace Go.Proofs.Ytchoalagkcdbhaa.PFnSegmentBack
open Go.RowKit Go.Proofs.YtchoalagkcdbhaaW.PrintWords Go.Proofs.YtchoalagkcdbhaaW.PrintLast Go.Proofs.YtchoalagkcdbhaaW.PrintMore
attribute [local go_sem] max2_int min2_int max_two min_two max_three min_three max_four min_four   -- for this text's walks alone
set_option linter.unusedVariables false
set_option linter.unusedSimpArgs false
set_option maxHeartbeats 8000000
set_option maxRecDepth 100000

theorem au1_0 {p : Prop} (h : p := by first | rfl | (simp [errW_none, errW_some] <;> rfl) | (simp [*, errW_none, errW_some] <;> rfl)) : p := h
theorem au1_1 {p : Prop} (h : p := by exact (Reps.one (show Kd.M (Kd.int .i64) _ _ _ a0_0 [.int .i64 a0_0] from rfl) (Reps.one (show Kd.M (Kd.int .i64) _ _ _ a0_1 [.int .i64 a0_1] from rfl) (Reps.one (show Kd.M (Kd.int .i64) _ _ _ a0_2 [.int .i64 a0_2] from rfl) (Reps.one (show Kd.M (Kd.int .i64) _ _ _ a0_3 [.int .i64 a0_3] from rfl) (Reps.none _ _)))))) : p := h
theorem au1_2 {p : Prop} (h : p := by (with_reducible repeat (first | apply Go.Proofs.YtchoalagkcdbhaaW.Mark.RM_alloc | apply Go.Proofs.YtchoalagkcdbhaaW.Mark.RM_drewN | apply Go.Proofs.YtchoalagkcdbhaaW.Mark.RM_drew)); exact HO_5.out) : p := h
theorem au1_3 {p : Prop} (h : p := by rintro w' ⟨s0, s1, s2, s3⟩; go_simp; with_reducible rfl) : p := h
theorem au1_4 {p : Prop} (h : p := by repeat (first | exact (Kd.C_below HR1_1.out HB.out) | (with_reducible refine Kd.C_alloc ?_ _) | (with_reducible refine Kd.C_drewN ?_ _) | (with_reducible refine Kd.C_drew ?_))) : p := h
theorem au1_5 {p : Prop} (h : p := by (with_reducible repeat (first | apply Go.Proofs.YtchoalagkcdbhaaW.Mark.RM_alloc | apply Go.Proofs.YtchoalagkcdbhaaW.Mark.RM_drewN | apply Go.Proofs.YtchoalagkcdbhaaW.Mark.RM_drew)); exact HO189.out) : p := h
theorem au1_6 {p : Prop} (h : p := by have := HJ1.out; have := HK2.out; first | omega | exact Nat.le_refl _) : p := h
theorem au1_7 {p : Prop} (h : p := by first | rfl | (simp [errW_none, errW_some] <;> rfl) | (simp only [← hji17]; first | rfl | (simp [errW_none, errW_some] <;> rfl)) | (simp [*, errW_none, errW_some] <;> rfl)) : p := h
theorem au1_8 {p : Prop} (h : p := by (try simp only [List.map_toArray, List.map_cons, List.map_nil]); first | done | (simp only [hji29]; rfl) | rfl | (simp only [List.length_drop, List.length_take]; rfl)) : p := h
theorem au1_9 {p : Prop} (h : p := by repeat (first | exact HR0.out | (with_reducible refine Kd.C_alloc ?_ _) | (with_reducible refine Kd.C_drewN ?_ _) | (with_reducible refine Kd.C_drew ?_))) : p := h
theorem au1_10 {p : Prop} (h : p := by have := HK1.out; first | omega | exact Nat.le_refl _) : p := h
theorem au1_11 {p : Prop} (h : p := by have := HK1.out; have := HK2.out; omega) : p := h
theorem au1_12 {p : Prop} (h : p := by have := HJ1.out; have := HK2.out; have := HJ10.out; have := HK4.out; omega) : p := h

/-! ### F66: function 66 -/
def F66.f (a0 : Int) : Option (Bool) := if a0 < 33 then (some false) else (if a0 > 126 then (some false) else (if a0 = 45 then (some false) else (if a0 ≥ 65 then (if a0 ≤ 90 then (some (!true)) else (if a0 ≥ 97 then (if a0 ≤ 122 then (some (!true)) else (if a0 ≥ 48 then (some (!(decide (a0 ≤ 57)))) else (some (!false)))) else (if a0 ≥ 48 then (some (!(decide (a0 ≤ 57)))) else (some (!false))))) else (if a0 ≥ 97 then (if a0 ≤ 122 then (some (!true)) else (if a0 ≥ 48 then (some (!(decide (a0 ≤ 57)))) else (some (!false)))) else (if a0 ≥ 48 then (some (!(decide (a0 ≤ 57)))) else (some (!false)))))))
theorem F66.calls (a0 : Int) (r : Bool) (w : World) (h : F66.f a0 = some r) :
  Calls Try.prog 66 #[.int .i64 a0] w fun e w' => e = .returned (.bool r) ∧ Drawn0 w w' := by
 have H : (if a0 < 33 then (some false) else (if a0 > 126 then (some false) else (if a0 = 45 then (some false) else (if a0 ≥ 65 then (if a0 ≤ 90 then (some (!true)) else (if a0 ≥ 97 then (if a0 ≤ 122 then (some (!true)) else (if a0 ≥ 48 then (some (!(decide (a0 ≤ 57)))) else (some (!false)))) else (if a0 ≥ 48 then (some (!(decide (a0 ≤ 57)))) else (some (!false))))) else (if a0 ≥ 97 then (if a0 ≤ 122 then (some (!true)) else (if a0 ≥ 48 then (some (!(decide (a0 ≤ 57)))) else (some (!false)))) else (if a0 ≥ 48 then (some (!(decide (a0 ≤ 57)))) else (some (!false)))))))) = some r := h
 clear h
 replace H := it_ H; rcases H with ⟨c2b0, H⟩ | ⟨c2b0, H⟩
 ·obtain rfl := Option.some.inj H
  go_enter Try.func66, Try.ntmps66
  go_wp2
  go_ret
  exact ⟨er_, dn_⟩
 replace H := it_ H; rcases H with ⟨(c3b0 : decide (126 < a0) = true), H⟩ | ⟨(c3b0 : decide (126 < a0) = false), H⟩
 ·obtain rfl := Option.some.inj H
  go_enter Try.func66, Try.ntmps66
  go_wp2
  go_ret
  exact ⟨er_, dn_⟩
 by_cases c4 : a0 = 45
 ·rw [if_pos c4] at H
  have c4b0 : (a0 == 45) = true := beq_iff_eq.mpr c4
  have c4b1 : (a0 != 45) = false := bne_eq_false_iff_eq.mpr c4
  clear c4
  obtain rfl := Option.some.inj H
  go_enter Try.func66, Try.ntmps66
  go_wp2
  go_ret
  exact ⟨er_, dn_⟩
 rw [if_neg c4] at H
 have c4b0 : (a0 == 45) = false := beq_eq_false_iff_ne.mpr c4
 have c4b1 : (a0 != 45) = true := bne_iff_ne.mpr c4
 replace H := it_ H; rcases H with ⟨(c5b0 : decide (65 ≤ a0) = true), H⟩ | ⟨(c5b0 : decide (65 ≤ a0) = false), H⟩
 rotate_left
 ·replace H := it_ H; rcases H with ⟨(c11b0 : decide (97 ≤ a0) = true), H⟩ | ⟨(c11b0 : decide (97 ≤ a0) = false), H⟩
  rotate_left
  ·replace H := it_ H; rcases H with ⟨(c14b0 : decide (48 ≤ a0) = true), H⟩ | ⟨(c14b0 : decide (48 ≤ a0) = false), H⟩
   ·obtain rfl := Option.some.inj H
    go_enter Try.func66, Try.ntmps66
    go_wp2
    go_ret
    exact ⟨er_, dn_⟩
   obtain rfl := Option.some.inj H
   go_enter Try.func66, Try.ntmps66
   go_wp2
   go_ret
   exact ⟨er_, dn_⟩

  replace H := it_ H; rcases H with ⟨c12b0, H⟩ | ⟨c12b0, H⟩
  ·obtain rfl := Option.some.inj H
   go_enter Try.func66, Try.ntmps66
   go_wp2
   go_ret
   exact ⟨er_, dn_⟩
  replace H := it_ H; rcases H with ⟨(c13b0 : decide (48 ≤ a0) = true), H⟩ | ⟨(c13b0 : decide (48 ≤ a0) = false), H⟩
  rotate_left
  ·obtain rfl := Option.some.inj H
   go_enter Try.func66, Try.ntmps66
   go_wp2
   go_ret
   exact ⟨er_, dn_⟩
  obtain rfl := Option.some.inj H
  go_enter Try.func66, Try.ntmps66
  go_wp2
  go_ret
  exact ⟨er_, dn_⟩
 replace H := it_ H; rcases H with ⟨c6b0, H⟩ | ⟨c6b0, H⟩
 ·obtain rfl := Option.some.inj H
  go_enter Try.func66, Try.ntmps66
  go_wp2
  go_ret
  exact ⟨er_, dn_⟩
 replace H := it_ H; rcases H with ⟨(c7b0 : decide (97 ≤ a0) = true), H⟩ | ⟨(c7b0 : decide (97 ≤ a0) = false), H⟩
 rotate_left
 ·replace H := it_ H; rcases H with ⟨(c10b0 : decide (48 ≤ a0) = true), H⟩ | ⟨(c10b0 : decide (48 ≤ a0) = false), H⟩
  rotate_left
  ·obtain rfl := Option.some.inj H
   go_enter Try.func66, Try.ntmps66
   go_wp2
   go_ret
   exact ⟨er_, dn_⟩
  obtain rfl := Option.some.inj H
  go_enter Try.func66, Try.ntmps66
  go_wp2
  go_ret
  exact ⟨er_, dn_⟩
 replace H := it_ H; rcases H with ⟨c8b0, H⟩ | ⟨c8b0, H⟩
 ·obtain rfl := Option.some.inj H
  go_enter Try.func66, Try.ntmps66
  go_wp2
  go_ret
  exact ⟨er_, dn_⟩
 replace H := it_ H; rcases H with ⟨(c9b0 : decide (48 ≤ a0) = true), H⟩ | ⟨(c9b0 : decide (48 ≤ a0) = false), H⟩
 rotate_left
 ·obtain rfl := Option.some.inj H
  go_enter Try.func66, Try.ntmps66
  go_wp2
  go_ret
  exact ⟨er_, dn_⟩
 obtain rfl := Option.some.inj H
 go_enter Try.func66, Try.ntmps66
 go_wp2
 go_ret
 exact ⟨er_, dn_⟩
/-! ### F23: function 23 -/
mutual
def F23.l0 : Nat → List Int → Int → Option (Bool)
  | 0, _, _ => none
  | k + 1, x3, x4 => if x4 < 4 then (if 0 ≤ x4 then (if x4 < (x3.length : Int) then ((F66.f (rd x3 x4)).bind fun t106 => (if t106 = true then (F23.l1 k x3 x4 0) else (some false))) else (none)) else (none)) else (some true)
def F23.l1 : Nat → List Int → Int → Int → Option (Bool)
  | 0, _, _, _ => none
  | k + 1, x3, x4, x5 => if x5 < x4 then (if 0 ≤ x5 then (if x5 < (x3.length : Int) then (if 0 ≤ x4 then (if x4 < (x3.length : Int) then (if (rd x3 x5) = (rd x3 x4) then (some false) else (F23.l1 k x3 x4 (wrap64 (x5 + 1)))) else (none)) else (none)) else (none)) else (none)) else (F23.l0 k x3 (wrap64 (x4 + 1)))
end
def F23.f (k : Nat) (a0_0 : Int) (a0_1 : Int) (a0_2 : Int) (a0_3 : Int) : Option (Bool) := F23.l0 k (([a0_0, a0_1, a0_2, a0_3] : List Int)) 0
theorem F23.mono_l : ∀ k, (∀ y0 y1, LeO (F23.l0 k y0 y1) (F23.l0 (k + 1) y0 y1)) ∧ (∀ y0 y1 y2, LeO (F23.l1 k y0 y1 y2) (F23.l1 (k + 1) y0 y1 y2))
 | 0 => ⟨fun _ _ r h => by simp [F23.l0] at h, fun _ _ _ r h => by simp [F23.l1] at h⟩
 | k + 1 => by
  obtain ⟨ih0, ih1⟩ := F23.mono_l k
  refine ⟨?_, ?_⟩
  rotate_left
  ·intro y0 y1 y2
   unfold F23.l1
   repeat' with_reducible first | exact ih0 _ _ | exact ih1 _ _ _ | exact LeO.refl _ | exact LeO.none _ | refine LeO.ite ?_ ?_ | refine LeO.bind ?_ (fun _ => ?_)
  intro y0 y1
  unfold F23.l0
  repeat' with_reducible first | exact ih0 _ _ | exact ih1 _ _ _ | exact LeO.refl _ | exact LeO.none _ | refine LeO.ite ?_ ?_ | refine LeO.bind ?_ (fun _ => ?_)
theorem F23.mono : ∀ a0 a1 a2 a3 k, LeO (F23.f k a0 a1 a2 a3) (F23.f (k + 1) a0 a1 a2 a3) := by
 intro a0 a1 a2 a3 k
 obtain ⟨ih0, ih1⟩ := F23.mono_l k
 unfold F23.f
 repeat' with_reducible first | exact ih0 _ _ | exact ih1 _ _ _ | exact LeO.refl _ | exact LeO.none _ | refine LeO.ite ?_ ?_ | refine LeO.bind ?_ (fun _ => ?_)
theorem F23.calls (k : Nat) (a0_0 : Int) (a0_1 : Int) (a0_2 : Int) (a0_3 : Int) (r : Bool) (w : World) (h : F23.f k a0_0 a0_1 a0_2 a0_3 = some r) :
  Calls Try.prog 23 #[.agg #[.int .i64 a0_0, .int .i64 a0_1, .int .i64 a0_2, .int .i64 a0_3]] w fun e w' => e = .returned (.bool r) ∧ Below w.heap.size w w' := by
 have hu23 := Try.underlying23
 have HB := am_ (Below.refl w.heap.size w)
 have H : (F23.l0 k (([a0_0, a0_1, a0_2, a0_3] : List Int)) 0) = some r := h
 clear h
 obtain ⟨y102, hy102⟩ : ∃ y_ : List Int, y_ = (([a0_0, a0_1, a0_2, a0_3] : List Int)) := ⟨_, rfl⟩
 replace H : (F23.l0 k y102 0) = some r := by first | (rw [hy102]; exact H) | exact H
 have Ny102 := am_ hy102
 clear hy102
 have H' := am_ H
 clear H
 go_enter Try.func23, Try.ntmps23
 go_wp2_with (first | ((with_reducible refine gate_dst (N := 1) rfl ?_); refine be_ 1 #[.int .i64 a0_0, .int .i64 a0_1, .int .i64 a0_2, .int .i64 a0_3] 23 ?_; intro gb101 hg w2 hbox hb; have BK101 := am_ (hbox); have GW101 := am_ (gw_ hg bl_); have GE101 := GW101; replace HB := hs_ w hb; clear hb hbox hg; obtain ⟨hcz3_0, hcz3_1, hcz3_2, hcz3_3, hfz3_0, hfz3_1, hfz3_2, hfz3_3⟩ := cellsF4 BK101.out) | ((with_reducible refine gate_dst (N := 14) rfl ?_); refine Kd.R_lit (Kd.int .i64) _ 2 ?hg (N := 14) ?hd (xs := ([a0_0, a0_1, a0_2, a0_3] : List Int)) (inner := [.int .i64 a0_0, .int .i64 a0_1, .int .i64 a0_2, .int .i64 a0_3]) (ok := fun _ => True) (okp := fun _ => True) ?hr ?hp (fun _ hk => hk) trivial (Below.refl _ _) (Nat.le_refl _) (by simp) ?_; (case hd => rfl); (case hg => rfl); (case hr => exact hr_); (case hp => exact au1_1); intro v103 w4 ho5 hb hg_ hnew_; clear hg_ hnew_; (first | rw [← Ny102.out] at ho5 | (simp only [Int.reduceToNat] at ho5; rw [← Ny102.out] at ho5)); have HO104 := am_ (Kd.R_lower ho5 (below_size bl_)); replace BK101 := bb_ BK101 hb; replace HB := hs_ w hb; clear hb ho5))
 repeat (go_quiet (first | ((with_reducible refine gate_dst (N := 1) rfl ?_); refine be_ 1 #[.int .i64 a0_0, .int .i64 a0_1, .int .i64 a0_2, .int .i64 a0_3] 23 ?_; intro gb101 hg w2 hbox hb; have BK101 := am_ (hbox); have GW101 := am_ (gw_ hg bl_); have GE101 := GW101; replace HB := hs_ w hb; clear hb hbox hg; obtain ⟨hcz3_0, hcz3_1, hcz3_2, hcz3_3, hfz3_0, hfz3_1, hfz3_2, hfz3_3⟩ := cellsF4 BK101.out) | ((with_reducible refine gate_dst (N := 14) rfl ?_); refine Kd.R_lit (Kd.int .i64) _ 2 ?hg (N := 14) ?hd (xs := ([a0_0, a0_1, a0_2, a0_3] : List Int)) (inner := [.int .i64 a0_0, .int .i64 a0_1, .int .i64 a0_2, .int .i64 a0_3]) (ok := fun _ => True) (okp := fun _ => True) ?hr ?hp (fun _ hk => hk) trivial (Below.refl _ _) (Nat.le_refl _) (by simp) ?_; (case hd => rfl); (case hg => rfl); (case hr => exact hr_); (case hp => exact au1_1); intro v103 w4 ho5 hb hg_ hnew_; clear hg_ hnew_; (first | rw [← Ny102.out] at ho5 | (simp only [Int.reduceToNat] at ho5; rw [← Ny102.out] at ho5)); have HO104 := am_ (Kd.R_lower ho5 (below_size bl_)); replace BK101 := bb_ BK101 hb; replace HB := hs_ w hb; clear hb ho5)); try go_wp2_with (first | ((with_reducible refine gate_dst (N := 1) rfl ?_); refine be_ 1 #[.int .i64 a0_0, .int .i64 a0_1, .int .i64 a0_2, .int .i64 a0_3] 23 ?_; intro gb101 hg w2 hbox hb; have BK101 := am_ (hbox); have GW101 := am_ (gw_ hg bl_); have GE101 := GW101; replace HB := hs_ w hb; clear hb hbox hg; obtain ⟨hcz3_0, hcz3_1, hcz3_2, hcz3_3, hfz3_0, hfz3_1, hfz3_2, hfz3_3⟩ := cellsF4 BK101.out) | ((with_reducible refine gate_dst (N := 14) rfl ?_); refine Kd.R_lit (Kd.int .i64) _ 2 ?hg (N := 14) ?hd (xs := ([a0_0, a0_1, a0_2, a0_3] : List Int)) (inner := [.int .i64 a0_0, .int .i64 a0_1, .int .i64 a0_2, .int .i64 a0_3]) (ok := fun _ => True) (okp := fun _ => True) ?hr ?hp (fun _ hk => hk) trivial (Below.refl _ _) (Nat.le_refl _) (by simp) ?_; (case hd => rfl); (case hg => rfl); (case hr => exact hr_); (case hp => exact au1_1); intro v103 w4 ho5 hb hg_ hnew_; clear hg_ hnew_; (first | rw [← Ny102.out] at ho5 | (simp only [Int.reduceToNat] at ho5; rw [← Ny102.out] at ho5)); have HO104 := am_ (Kd.R_lower ho5 (below_size bl_)); replace BK101 := bb_ BK101 hb; replace HB := hs_ w hb; clear hb ho5)))
 go_loopg [4] k (fun kq v4 w' => ∃ (x4_1 : Int), v4 = .int .i64 x4_1 ∧ Aside0 (F23.l0 kq y102 x4_1 = some r) ∧ Aside0 (kq ≤ k) ∧ Aside0 (Kd.R (Kd.int .i64) 2 w' w.heap.size (fun _ => True) v103 y102) ∧ Aside0 (w'.heap[gb101]? = some (.cells #[.int .i64 a0_0, .int .i64 a0_1, .int .i64 a0_2, .int .i64 a0_3] 23 (0, 0))) ∧ Aside0 (Below w.heap.size w w'))
 case atStart => exact ⟨(0), er_, H', ⟨Nat.le_refl _⟩, ⟨rk_ HO104⟩, ⟨bk_ BK101⟩, ⟨bl_⟩⟩
 case round =>
  clear H'
  try clear hcz3_0 hcz3_1 hcz3_2 hcz3_3
  try clear hfz3_0 hfz3_1 hfz3_2 hfz3_3
  obtain ⟨x4_1, rfl, HA, HK1, HO_3, BK101, HB⟩ := hrel
  cases gk with
  | zero => exact absurd HA.out (by simp [F23.l0])
  | succ k1 =>
   have H := HA.out
   clear HA
   simp only [F23.l0] at H
   replace H := it_ H; rcases H with ⟨c6b0, H⟩ | ⟨c6b0, H⟩
   rotate_left
   ·obtain rfl := Option.some.inj H
    go_wp2
    repeat (go_quiet (fail); try go_wp2)
    go_ret
    exact ⟨au1_0, bl_⟩

   replace H := itn_ H; rcases H with ⟨c7b0, H⟩
   replace H := itn_ H; rcases H with ⟨c8b0, H⟩
   replace H := bi_ H; rcases H with ⟨t106, A9, H⟩
   replace H := ib_ H; rcases H with ⟨rfl, H⟩ | ⟨rfl, H⟩
   rotate_left
   ·obtain rfl := Option.some.inj H
    obtain ⟨Ao18, co18, eo18⟩ := Kd.R_slice HO_3.out
    subst eo18
    have p105 : 0 ≤ (x4_1 : Int) := od_
    have q105 : x4_1 < (y102.length : Int) := od_
    obtain ⟨ad105, e105, hx105_0⟩ := Kd.at_int (Kd.R_reads' HO_3.out).2.2 x4_1 p105 q105
    cases e105
    replace p105 := eq_true p105
    replace q105 := eq_true q105
    go_wp2_with (first | (go_at_call 66; (with_reducible refine (F66.calls (rd y102 x4_1) false _ A9.out).mono ?_); rintro e w' ⟨rfl, ⟨nd, rfl⟩⟩; (try first | exact ⟨rfl, _, World.drewN_drewN _ _ _⟩ | exact ⟨rfl, _, Eq.trans (World.drewN_drewN _ _ _) (congrArg (World.drewN _) (Nat.add_assoc _ _ _))⟩)))
    repeat (go_quiet (first | (go_at_call 66; (with_reducible refine (F66.calls (rd y102 x4_1) false _ A9.out).mono ?_); rintro e w' ⟨rfl, ⟨nd, rfl⟩⟩; (try first | exact ⟨rfl, _, World.drewN_drewN _ _ _⟩ | exact ⟨rfl, _, Eq.trans (World.drewN_drewN _ _ _) (congrArg (World.drewN _) (Nat.add_assoc _ _ _))⟩))); try go_wp2_with (first | (go_at_call 66; (with_reducible refine (F66.calls (rd y102 x4_1) false _ A9.out).mono ?_); rintro e w' ⟨rfl, ⟨nd, rfl⟩⟩; (try first | exact ⟨rfl, _, World.drewN_drewN _ _ _⟩ | exact ⟨rfl, _, Eq.trans (World.drewN_drewN _ _ _) (congrArg (World.drewN _) (Nat.add_assoc _ _ _))⟩))))
    go_ret
    exact ⟨au1_0, bl_⟩
   have H' := am_ H
   clear H
   obtain ⟨Ao11, co11, eo11⟩ := Kd.R_slice HO_3.out
   subst eo11
   have p105 : 0 ≤ (x4_1 : Int) := od_
   have q105 : x4_1 < (y102.length : Int) := od_
   obtain ⟨ad105, e105, hx105_0⟩ := Kd.at_int (Kd.R_reads' HO_3.out).2.2 x4_1 p105 q105
   cases e105
   replace p105 := eq_true p105
   replace q105 := eq_true q105
   go_wp2_with (first | (go_at_call 66; (with_reducible refine (F66.calls (rd y102 x4_1) true _ A9.out).mono ?_); rintro e w' ⟨rfl, ⟨nd, rfl⟩⟩; (try first | exact ⟨rfl, _, World.drewN_drewN _ _ _⟩ | exact ⟨rfl, _, Eq.trans (World.drewN_drewN _ _ _) (congrArg (World.drewN _) (Nat.add_assoc _ _ _))⟩)))
   repeat (go_quiet (first | (go_at_call 66; (with_reducible refine (F66.calls (rd y102 x4_1) true _ A9.out).mono ?_); rintro e w' ⟨rfl, ⟨nd, rfl⟩⟩; (try first | exact ⟨rfl, _, World.drewN_drewN _ _ _⟩ | exact ⟨rfl, _, Eq.trans (World.drewN_drewN _ _ _) (congrArg (World.drewN _) (Nat.add_assoc _ _ _))⟩))); try go_wp2_with (first | (go_at_call 66; (with_reducible refine (F66.calls (rd y102 x4_1) true _ A9.out).mono ?_); rintro e w' ⟨rfl, ⟨nd, rfl⟩⟩; (try first | exact ⟨rfl, _, World.drewN_drewN _ _ _⟩ | exact ⟨rfl, _, Eq.trans (World.drewN_drewN _ _ _) (congrArg (World.drewN _) (Nat.add_assoc _ _ _))⟩))))
   go_loopg [5] k1 (fun kq v5 w' => ∃ (x5_2 : Int), v5 = .int .i64 x5_2 ∧ Aside0 (F23.l1 kq y102 x4_1 x5_2 = some r) ∧ Aside0 (kq ≤ k1) ∧ Aside0 (Kd.R (Kd.int .i64) 2 w' w.heap.size (fun _ => True) (.slice (some ad105) y102.length co11) y102) ∧ Aside0 (w'.heap[gb101]? = some (.cells #[.int .i64 a0_0, .int .i64 a0_1, .int .i64 a0_2, .int .i64 a0_3] 23 (0, 0))) ∧ Aside0 (Below w.heap.size w w'))
   case atStart => exact ⟨(0), er_, H', ⟨Nat.le_refl _⟩, ⟨rk_ HO_3⟩, ⟨bk_ BK101⟩, ⟨bl_⟩⟩
   case round =>
    clear H'
    try clear c6b0
    try clear c7b0
    try clear c8b0
    try clear hcz3_0 hcz3_1 hcz3_2 hcz3_3
    try clear hfz3_0 hfz3_1 hfz3_2 hfz3_3
    try clear hx105_0
    try clear p105
    try clear q105
    obtain ⟨x5_2, rfl, HA, HK2, HO_3, BK101, HB⟩ := hrel
    cases gk with
    | zero => exact absurd HA.out (by simp [F23.l1])
    | succ k2 =>
     have H := HA.out
     clear HA
     simp only [F23.l1] at H
     replace H := it_ H; rcases H with ⟨c12b0, H⟩ | ⟨c12b0, H⟩
     rotate_left
     ·have H' := am_ H
      clear H
      go_wp2
      repeat (go_quiet (fail); try go_wp2)
      go_roundg k2
      case measure => have := HK1.out; have := HK2.out; omega
      case rel => exact ⟨(wrap64 (x4_1 + 1)), er_, H', ⟨au1_11⟩, ⟨rk_ HO_3⟩, ⟨bk_ BK101⟩, ⟨bl_⟩⟩
     replace H := itn_ H; rcases H with ⟨c13b0, H⟩
     replace H := itn_ H; rcases H with ⟨c14b0, H⟩
     replace H := itn_ H; rcases H with ⟨c15b0, H⟩
     replace H := itn_ H; rcases H with ⟨c16b0, H⟩
     by_cases c17 : (rd y102 x5_2) = (rd y102 x4_1)
     ·rw [if_pos c17] at H
      have c17b0 : ((rd y102 x5_2) == (rd y102 x4_1)) = true := beq_iff_eq.mpr c17
      have c17b1 : ((rd y102 x5_2) != (rd y102 x4_1)) = false := bne_eq_false_iff_eq.mpr c17
      clear c17
      obtain rfl := Option.some.inj H
      have p107 : 0 ≤ (x5_2 : Int) := od_
      have q107 : x5_2 < (y102.length : Int) := od_
      obtain ⟨ad107, e107, hx107_0⟩ := Kd.at_int (Kd.R_reads' HO_3.out).2.2 x5_2 p107 q107
      obtain rfl : ad105 = ad107 := (by injection e107)
      replace p107 := eq_true p107
      replace q107 := eq_true q107
      have p108 : 0 ≤ (x4_1 : Int) := od_
      have q108 : x4_1 < (y102.length : Int) := od_
      obtain ⟨ad108, e108, hx108_0⟩ := Kd.at_int (Kd.R_reads' HO_3.out).2.2 x4_1 p108 q108
      obtain rfl : ad105 = ad108 := (by injection e108)
      replace p108 := eq_true p108
      replace q108 := eq_true q108
      go_wp2
      repeat (go_quiet (fail); try go_wp2)
      go_ret
      exact ⟨au1_0, bl_⟩
     rw [if_neg c17] at H
     have c17b0 : ((rd y102 x5_2) == (rd y102 x4_1)) = false := beq_eq_false_iff_ne.mpr c17
     have c17b1 : ((rd y102 x5_2) != (rd y102 x4_1)) = true := bne_iff_ne.mpr c17
     have H' := am_ H
     clear H
     have p107 : 0 ≤ (x5_2 : Int) := od_
     have q107 : x5_2 < (y102.length : Int) := od_
     obtain ⟨ad107, e107, hx107_0⟩ := Kd.at_int (Kd.R_reads' HO_3.out).2.2 x5_2 p107 q107
     obtain rfl : ad105 = ad107 := (by injection e107)
     replace p107 := eq_true p107
     replace q107 := eq_true q107
     have p108 : 0 ≤ (x4_1 : Int) := od_
     have q108 : x4_1 < (y102.length : Int) := od_
     obtain ⟨ad108, e108, hx108_0⟩ := Kd.at_int (Kd.R_reads' HO_3.out).2.2 x4_1 p108 q108
     obtain rfl : ad105 = ad108 := (by injection e108)
     replace p108 := eq_true p108
     replace q108 := eq_true q108
     go_wp2
     repeat (go_quiet (fail); try go_wp2)
     go_roundg k2
     case measure => have := HK1.out; have := HK2.out; omega
     case rel => exact ⟨(wrap64 (x5_2 + 1)), er_, H', ⟨au1_11⟩, ⟨rk_ HO_3⟩, ⟨bk_ BK101⟩, ⟨bl_⟩⟩
/-! ### F75: function 75 -/
def F75.l0 : Nat → ByteArray → Int → Option (Bool)
  | 0, _, _ => none
  | k + 1, x0, x3 => if x3 < 3 then (if 0 ≤ x3 then (if x3 < (x0.size : Int) then (if (bt x0 x3) < 65 then (some false) else (if (bt x0 x3) > 90 then (some false) else (F75.l0 k x0 (wrap64 (x3 + 1))))) else (none)) else (none)) else (some true)
def F75.f (k : Nat) (a0 : ByteArray) : Option (Bool) := if (a0.size : Int) = 3 then (F75.l0 k a0 0) else (some false)
theorem F75.mono_l : ∀ k, (∀ y0 y1, LeO (F75.l0 k y0 y1) (F75.l0 (k + 1) y0 y1))
 | 0 => fun _ _ r h => by simp [F75.l0] at h
 | k + 1 => by
  have ih0 := F75.mono_l k
  intro y0 y1
  unfold F75.l0
  repeat' with_reducible first | exact ih0 _ _ | exact LeO.refl _ | exact LeO.none _ | refine LeO.ite ?_ ?_ | refine LeO.bind ?_ (fun _ => ?_)
theorem F75.mono : ∀ a0 k, LeO (F75.f k a0) (F75.f (k + 1) a0) := by
 intro a0 k
 have ih0 := F75.mono_l k
 unfold F75.f
 repeat' with_reducible first | exact ih0 _ _ | exact LeO.refl _ | exact LeO.none _ | refine LeO.ite ?_ ?_ | refine LeO.bind ?_ (fun _ => ?_)
theorem F75.calls (k : Nat) (a0 : ByteArray) (r : Bool) (w : World) (h : F75.f k a0 = some r) :
  Calls Try.prog 75 #[.string a0] w fun e w' => e = .returned (.bool r) ∧ Drawn0 w w' := by
 have H : (if (a0.size : Int) = 3 then (F75.l0 k a0 0) else (some false)) = some r := h
 clear h
 by_cases c2 : (a0.size : Int) = 3
 rotate_left
 ·rw [if_neg c2] at H
  have c2b0 : ((a0.size : Int) == 3) = false := beq_eq_false_iff_ne.mpr c2
  have c2b1 : ((a0.size : Int) != 3) = true := bne_iff_ne.mpr c2
  obtain rfl := Option.some.inj H
  go_enter Try.func75, Try.ntmps75
  go_wp2
  go_ret
  exact ⟨er_, dn_⟩

 rw [if_pos c2] at H
 have c2b0 : ((a0.size : Int) == 3) = true := beq_iff_eq.mpr c2
 have c2b1 : ((a0.size : Int) != 3) = false := bne_eq_false_iff_eq.mpr c2
 clear c2
 have H' := am_ H
 clear H
 go_enter Try.func75, Try.ntmps75
 go_wp2
 go_loopg [3] k (fun kq v3 w' => ∃ (x3_1 : Int), v3 = .int .i64 x3_1 ∧ Aside0 (F75.l0 kq a0 x3_1 = some r) ∧ Aside0 (kq ≤ k) ∧ Drawn0 w w')
 case atStart => exact ⟨(0), er_, H', ⟨Nat.le_refl _⟩, dn_⟩
 case round =>
  clear H'
  try clear c2
  try clear c2b0
  try clear c2b1
  obtain ⟨x3_1, rfl, HA, HK1, ⟨m1, rfl⟩⟩ := hrel
  cases gk with
  | zero => exact absurd HA.out (by simp [F75.l0])
  | succ k1 =>
   have H := HA.out
   clear HA
   simp only [F75.l0] at H
   replace H := it_ H; rcases H with ⟨c3b0, H⟩ | ⟨c3b0, H⟩
   rotate_left
   ·obtain rfl := Option.some.inj H
    go_wp2
    go_ret
    exact ⟨er_, dn_⟩
   replace H := itn_ H; rcases H with ⟨c4b0, H⟩
   replace H := itn_ H; rcases H with ⟨c5b0, H⟩
   replace H := it_ H; rcases H with ⟨c7b0, H⟩ | ⟨c7b0, H⟩
   ·obtain rfl := Option.some.inj H
    have p6 : 0 ≤ (x3_1 : Int) := od_
    have q6 : x3_1 < (a0.size : Int) := od_
    have hx6 := bt_at a0 x3_1
    replace p6 := eq_true p6
    replace q6 := eq_true q6
    go_wp2
    go_ret
    exact ⟨er_, dn_⟩
   replace H := it_ H; rcases H with ⟨(c9b0 : decide (90 < (bt a0 x3_1)) = true), H⟩ | ⟨(c9b0 : decide (90 < (bt a0 x3_1)) = false), H⟩
   ·obtain rfl := Option.some.inj H
    have p6 : 0 ≤ (x3_1 : Int) := od_
    have q6 : x3_1 < (a0.size : Int) := od_
    have hx6 := bt_at a0 x3_1
    replace p6 := eq_true p6
    replace q6 := eq_true q6
    have p8 : 0 ≤ (x3_1 : Int) := od_
    have q8 : x3_1 < (a0.size : Int) := od_
    have hx8 := bt_at a0 x3_1
    replace p8 := eq_true p8
    replace q8 := eq_true q8
    go_wp2
    go_ret
    exact ⟨er_, dn_⟩
   have H' := am_ H
   clear H
   have p6 : 0 ≤ (x3_1 : Int) := od_
   have q6 : x3_1 < (a0.size : Int) := od_
   have hx6 := bt_at a0 x3_1
   replace p6 := eq_true p6
   replace q6 := eq_true q6
   have p8 : 0 ≤ (x3_1 : Int) := od_
   have q8 : x3_1 < (a0.size : Int) := od_
   have hx8 := bt_at a0 x3_1
   replace p8 := eq_true p8
   replace q8 := eq_true q8
   go_wp2
   go_roundg k1
   case measure => have := HK1.out; omega
   case rel => exact ⟨(wrap64 (x3_1 + 1)), er_, H', ⟨by have := HK1.out; omega⟩, dn_⟩
/-! ### F76: function 76 -/
def F76.l0 : Nat → ByteArray → Int → Option (Bool)
  | 0, _, _ => none
  | k + 1, x0, x3 => if x3 < (x0.size : Int) then (if 0 ≤ x3 then (if (bt x0 x3) < 32 then (some false) else (if (bt x0 x3) > 126 then (some false) else (F76.l0 k x0 (wrap64 (x3 + 1))))) else (none)) else (some true)
def F76.f (k : Nat) (a0 : ByteArray) : Option (Bool) := if (a0.size : Int) > 40 then (some false) else (F76.l0 k a0 0)
theorem F76.mono_l : ∀ k, (∀ y0 y1, LeO (F76.l0 k y0 y1) (F76.l0 (k + 1) y0 y1))
 | 0 => fun _ _ r h => by simp [F76.l0] at h
 | k + 1 => by
  have ih0 := F76.mono_l k
  intro y0 y1
  unfold F76.l0
  repeat' with_reducible first | exact ih0 _ _ | exact LeO.refl _ | exact LeO.none _ | refine LeO.ite ?_ ?_ | refine LeO.bind ?_ (fun _ => ?_)
theorem F76.mono : ∀ a0 k, LeO (F76.f k a0) (F76.f (k + 1) a0) := by
 intro a0 k
 have ih0 := F76.mono_l k
 unfold F76.f
 repeat' with_reducible first | exact ih0 _ _ | exact LeO.refl _ | exact LeO.none _ | refine LeO.ite ?_ ?_ | refine LeO.bind ?_ (fun _ => ?_)
theorem F76.calls (k : Nat) (a0 : ByteArray) (r : Bool) (w : World) (h : F76.f k a0 = some r) :
  Calls Try.prog 76 #[.string a0] w fun e w' => e = .returned (.bool r) ∧ Drawn0 w w' := by
 have H : (if (a0.size : Int) > 40 then (some false) else (F76.l0 k a0 0)) = some r := h
 clear h
 replace H := it_ H; rcases H with ⟨(c2b0 : decide (40 < (a0.size : Int)) = true), H⟩ | ⟨(c2b0 : decide (40 < (a0.size : Int)) = false), H⟩
 ·have c2b1 : decide (40 < a0.size) = true := n2_ c2b0
  obtain rfl := Option.some.inj H
  go_enter Try.func76, Try.ntmps76
  go_wp2
  go_ret
  exact ⟨er_, dn_⟩
 have c2b1 : decide (40 < a0.size) = false := n2_ c2b0
 have H' := am_ H
 clear H
 go_enter Try.func76, Try.ntmps76
 go_wp2
 go_loopg [3] k (fun kq v3 w' => ∃ (x3_1 : Int), v3 = .int .i64 x3_1 ∧ Aside0 (F76.l0 kq a0 x3_1 = some r) ∧ Aside0 (kq ≤ k) ∧ Drawn0 w w')
 case atStart => exact ⟨(0), er_, H', ⟨Nat.le_refl _⟩, dn_⟩
 case round =>
  clear H'
  try clear c2b0
  try clear c2b1
  obtain ⟨x3_1, rfl, HA, HK1, ⟨m1, rfl⟩⟩ := hrel
  cases gk with
  | zero => exact absurd HA.out (by simp [F76.l0])
  | succ k1 =>
   have H := HA.out
   clear HA
   simp only [F76.l0] at H
   replace H := it_ H; rcases H with ⟨c3b0, H⟩ | ⟨c3b0, H⟩
   rotate_left
   ·obtain rfl := Option.some.inj H
    go_wp2
    go_ret
    exact ⟨er_, dn_⟩

   replace H := itn_ H; rcases H with ⟨c4b0, H⟩
   replace H := it_ H; rcases H with ⟨c6b0, H⟩ | ⟨c6b0, H⟩
   ·obtain rfl := Option.some.inj H
    have p5 : 0 ≤ (x3_1 : Int) := od_
    have q5 : x3_1 < (a0.size : Int) := od_
    have hx5 := bt_at a0 x3_1
    replace p5 := eq_true p5
    replace q5 := eq_true q5
    go_wp2
    go_ret
    exact ⟨er_, dn_⟩
   replace H := it_ H; rcases H with ⟨(c8b0 : decide (126 < (bt a0 x3_1)) = true), H⟩ | ⟨(c8b0 : decide (126 < (bt a0 x3_1)) = false), H⟩
   ·obtain rfl := Option.some.inj H
    have p5 : 0 ≤ (x3_1 : Int) := od_
    have q5 : x3_1 < (a0.size : Int) := od_
    have hx5 := bt_at a0 x3_1
    replace p5 := eq_true p5
    replace q5 := eq_true q5
    have p7 : 0 ≤ (x3_1 : Int) := od_
    have q7 : x3_1 < (a0.size : Int) := od_
    have hx7 := bt_at a0 x3_1
    replace p7 := eq_true p7
    replace q7 := eq_true q7
    go_wp2
    go_ret
    exact ⟨er_, dn_⟩
   have H' := am_ H
   clear H
   have p5 : 0 ≤ (x3_1 : Int) := od_
   have q5 : x3_1 < (a0.size : Int) := od_
   have hx5 := bt_at a0 x3_1
   replace p5 := eq_true p5
   replace q5 := eq_true q5
   have p7 : 0 ≤ (x3_1 : Int) := od_
   have q7 : x3_1 < (a0.size : Int) := od_
   have hx7 := bt_at a0 x3_1
   replace p7 := eq_true p7
   replace q7 := eq_true q7
   go_wp2
   go_roundg k1
   case measure => have := HK1.out; omega
   case rel => exact ⟨(wrap64 (x3_1 + 1)), er_, H', ⟨by have := HK1.out; omega⟩, dn_⟩
/-! ### F77: function 77 -/
def F77.f (l0_0 : List ByteArray) : Option (Bool) := if (l0_0.length : Int) = 1 then (if 0 < (l0_0.length : Int) then (some ((rdOf ByteArray.empty l0_0 0).toList == ([] : List UInt8))) else (none)) else (some false)
theorem F77.calls (A0_0 : Option Addr) (c0_0 : Nat) (l0_0 : List ByteArray) (r : Bool) (w : World) (hr0_0 : Kd.C Kd.string w A0_0 l0_0.length l0_0) (hc0_0 : l0_0.length ≤ c0_0) (h : F77.f l0_0 = some r) :
  Calls Try.prog 77 #[.agg #[.slice A0_0 l0_0.length c0_0]] w fun e w' => e = .returned (.bool r) ∧ Below w.heap.size w w' := by
 have hu102 := Try.underlying102
 have HR0_0 := am_ hr0_0
 have HC0_0 := am_ hc0_0
 clear hr0_0 hc0_0
 have HB := am_ (Below.refl w.heap.size w)
 have H : (if (l0_0.length : Int) = 1 then (if 0 < (l0_0.length : Int) then (some ((rdOf ByteArray.empty l0_0 0).toList == ([] : List UInt8))) else (none)) else (some false)) = some r := h
 clear h
 by_cases c2 : (l0_0.length : Int) = 1
 rotate_left
 ·rw [if_neg c2] at H
  have c2b0 : ((l0_0.length : Int) == 1) = false := beq_eq_false_iff_ne.mpr c2
  have c2b1 : ((l0_0.length : Int) != 1) = true := bne_iff_ne.mpr c2
  obtain rfl := Option.some.inj H
  go_enter Try.func77, Try.ntmps77
  go_wp2_with (first | ((with_reducible refine gate_dst (N := 1) rfl ?_); refine be_ 1 #[.slice A0_0 l0_0.length c0_0] 102 ?_; intro gb109 hg w6 hbox hb; have BK109 := am_ (hbox); have GW109 := am_ (gw_ hg bl_); have GE109 := GW109; replace HB := hs_ w hb; clear hb hbox hg; have hcz7_0 : w6.cell? ⟨gb109, 0, none⟩ = some (.slice A0_0 l0_0.length c0_0) := (blk_cell BK109.out 0).trans rfl; have hfz7_0 := blk_frozen BK109.out 0))
  go_ret
  exact ⟨au1_0, bl_⟩

 rw [if_pos c2] at H
 have c2b0 : ((l0_0.length : Int) == 1) = true := beq_iff_eq.mpr c2
 have c2b1 : ((l0_0.length : Int) != 1) = false := bne_eq_false_iff_eq.mpr c2
 clear c2
 replace H := itn_ H; rcases H with ⟨c3b0, H⟩
 have c3b1 : decide (0 < l0_0.length) = true := n2_ c3b0
 obtain rfl := Option.some.inj H
 go_enter Try.func77, Try.ntmps77
 go_wp2_with (first | ((with_reducible refine gate_dst (N := 1) rfl ?_); refine be_ 1 #[.slice A0_0 l0_0.length c0_0] 102 ?_; intro gb109 hg w4 hbox hb; have BK109 := am_ (hbox); have GW109 := am_ (gw_ hg bl_); have GE109 := GW109; replace HB := hs_ w hb; clear hb hbox hg; have hcz5_0 : w4.cell? ⟨gb109, 0, none⟩ = some (.slice A0_0 l0_0.length c0_0) := (blk_cell BK109.out 0).trans rfl; have hfz5_0 := blk_frozen BK109.out 0; have p110 : 0 ≤ (0 : Int) := (by omega); have q110 : 0 < (l0_0.length : Int) := od_; obtain ⟨ad110, e110, hx110_0⟩ := Kd.at_string HR0_0.out 0 p110 q110; cases e110; have qi110 : (0 < l0_0.length) = True := eq_true (by omega); (try rw [show ((0 : Int)).toNat = 0 from rfl] at hx110_0); (try rw [Addr.add_zero'] at hx110_0); replace hx110_0 := (HB.out.cell (World.block_lt_of_cell? _ _ hx110_0)).trans hx110_0; replace p110 := eq_true p110; replace q110 := eq_true q110))
 go_ret
 exact ⟨au1_0, bl_⟩
/-! ### F34: function 34 -/
mutual
def F34.j0 : Nat → Bool → ByteArray → List (S102) → Option (Bool)
  | 0, _, _, _ => none
  | k + 1, x15, x112000, x112001 => if x15 = true then (some false) else (F34.l0 k 0 x112000 x112001)
def F34.l0 : Nat → Int → ByteArray → List (S102) → Option (Bool)
  | 0, _, _, _ => none
  | k + 1, x3, x112000, x112001 => if x3 < (x112001.length : Int) then (if 0 ≤ x3 then (if (((rd_T102 x112001 x3).f0).length : Int) < 1 then (F34.j2 k x3 ((rd_T102 x112001 x3).f0) true x112000 x112001) else (if (((rd_T102 x112001 x3).f0).length : Int) > 4 then (F34.j2 k x3 ((rd_T102 x112001 x3).f0) true x112000 x112001) else (if (((rd_T102 x112001 x3).f0).length : Int) > 1 then (if 0 ≤ (wrap64 ((((rd_T102 x112001 x3).f0).length : Int) - 1)) then (if (wrap64 ((((rd_T102 x112001 x3).f0).length : Int) - 1)) < (((rd_T102 x112001 x3).f0).length : Int) then (F34.j2 k x3 ((rd_T102 x112001 x3).f0) ((rdOf ByteArray.empty ((rd_T102 x112001 x3).f0) (wrap64 ((((rd_T102 x112001 x3).f0).length : Int) - 1))).toList == ([] : List UInt8)) x112000 x112001) else (none)) else (none)) else (F34.j2 k x3 ((rd_T102 x112001 x3).f0) false x112000 x112001)))) else (none)) else (if (x112001.length : Int) = 0 then (some true) else (if 0 ≤ (wrap64 ((x112001.length : Int) - 1)) then (if (wrap64 ((x112001.length : Int) - 1)) < (x112001.length : Int) then ((F77.f ((rd_T102 x112001 (wrap64 ((x112001.length : Int) - 1))).f0)).bind fun t114 => (some (!t114))) else (none)) else (none)))
def F34.j2 : Nat → Int → List ByteArray → Bool → ByteArray → List (S102) → Option (Bool)
  | 0, _, _, _, _, _ => none
  | k + 1, x3, x4, x50, x112000, x112001 => if x50 = true then (some false) else (F34.l1 k x3 x4 0 x112000 x112001)
def F34.l1 : Nat → Int → List ByteArray → Int → ByteArray → List (S102) → Option (Bool)
  | 0, _, _, _, _, _ => none
  | k + 1, x3, x4, x5, x112000, x112001 => if x5 < (x4.length : Int) then (if 0 ≤ x5 then ((F76.f k (rdOf ByteArray.empty x4 x5)).bind fun t118 => (if t118 = true then (F34.l1 k x3 x4 (wrap64 (x5 + 1)) x112000 x112001) else (some false))) else (none)) else (F34.l0 k (wrap64 (x3 + 1)) x112000 x112001)
end
def F34.f (k : Nat) (a0_0 : ByteArray) (l0_1 : List (S102)) : Option (Bool) := (F75.f k a0_0).bind fun t112 => (if t112 = true then (F34.j0 k (decide ((l0_1.length : Int) > 10)) a0_0 l0_1) else (F34.j0 k true a0_0 l0_1))
theorem F34.mono_l : ∀ k, (∀ y0 y1 y2, LeO (F34.j0 k y0 y1 y2) (F34.j0 (k + 1) y0 y1 y2)) ∧ (∀ y0 y1 y2, LeO (F34.l0 k y0 y1 y2) (F34.l0 (k + 1) y0 y1 y2)) ∧ (∀ y0 y1 y2 y3 y4, LeO (F34.j2 k y0 y1 y2 y3 y4) (F34.j2 (k + 1) y0 y1 y2 y3 y4)) ∧ (∀ y0 y1 y2 y3 y4, LeO (F34.l1 k y0 y1 y2 y3 y4) (F34.l1 (k + 1) y0 y1 y2 y3 y4))
 | 0 => ⟨fun _ _ _ r h => by simp [F34.j0] at h, fun _ _ _ r h => by simp [F34.l0] at h, fun _ _ _ _ _ r h => by simp [F34.j2] at h, fun _ _ _ _ _ r h => by simp [F34.l1] at h⟩
 | k + 1 => by
  obtain ⟨ih0, ih1, ih2, ih3⟩ := F34.mono_l k
  refine ⟨?_, ?_, ?_, ?_⟩
  rotate_left
  ·intro y0 y1 y2
   unfold F34.l0
   repeat' with_reducible first | exact ih0 _ _ _ | exact ih1 _ _ _ | exact ih2 _ _ _ _ _ | exact ih3 _ _ _ _ _ | exact F76.mono _ _ | exact F75.mono _ _ | exact LeO.refl _ | exact LeO.none _ | refine LeO.ite ?_ ?_ | refine LeO.bind ?_ (fun _ => ?_)
  ·intro y0 y1 y2 y3 y4
   unfold F34.j2
   repeat' with_reducible first | exact ih0 _ _ _ | exact ih1 _ _ _ | exact ih2 _ _ _ _ _ | exact ih3 _ _ _ _ _ | exact F76.mono _ _ | exact F75.mono _ _ | exact LeO.refl _ | exact LeO.none _ | refine LeO.ite ?_ ?_ | refine LeO.bind ?_ (fun _ => ?_)
  ·intro y0 y1 y2 y3 y4
   unfold F34.l1
   repeat' with_reducible first | exact ih0 _ _ _ | exact ih1 _ _ _ | exact ih2 _ _ _ _ _ | exact ih3 _ _ _ _ _ | exact F76.mono _ _ | exact F75.mono _ _ | exact LeO.refl _ | exact LeO.none _ | refine LeO.ite ?_ ?_ | refine LeO.bind ?_ (fun _ => ?_)
  intro y0 y1 y2
  unfold F34.j0
  repeat' with_reducible first | exact ih0 _ _ _ | exact ih1 _ _ _ | exact ih2 _ _ _ _ _ | exact ih3 _ _ _ _ _ | exact F76.mono _ _ | exact F75.mono _ _ | exact LeO.refl _ | exact LeO.none _ | refine LeO.ite ?_ ?_ | refine LeO.bind ?_ (fun _ => ?_)
theorem F34.mono : ∀ a0 a1 k, LeO (F34.f k a0 a1) (F34.f (k + 1) a0 a1) := by
 intro a0 a1 k
 obtain ⟨ih0, ih1, ih2, ih3⟩ := F34.mono_l k
 unfold F34.f
 repeat' with_reducible first | exact ih0 _ _ _ | exact ih1 _ _ _ | exact ih2 _ _ _ _ _ | exact ih3 _ _ _ _ _ | exact F76.mono _ _ | exact F75.mono _ _ | exact LeO.refl _ | exact LeO.none _ | refine LeO.ite ?_ ?_ | refine LeO.bind ?_ (fun _ => ?_)
theorem F34.calls (k : Nat) (a0_0 : ByteArray) (A0_1 : Option Addr) (c0_1 : Nat) (l0_1 : List (S102)) (r : Bool) (w : World) (hr0_1 : Kd.C k102 w A0_1 l0_1.length l0_1) (hc0_1 : l0_1.length ≤ c0_1) (h : F34.f k a0_0 l0_1 = some r) :
  Calls Try.prog 34 #[.agg #[.string a0_0, .slice A0_1 l0_1.length c0_1]] w fun e w' => e = .returned (.bool r) ∧ Below w.heap.size w w' := by
 have hu59 := Try.underlying59
 have hu102 := Try.underlying102
 have HR0_1 := am_ hr0_1
 have HC0_1 := am_ hc0_1
 clear hr0_1 hc0_1
 have HB := am_ (Below.refl w.heap.size w)
 have H : ((F75.f k a0_0).bind fun t112 => (if t112 = true then (F34.j0 k (decide ((l0_1.length : Int) > 10)) a0_0 l0_1) else (F34.j0 k true a0_0 l0_1))) = some r := h
 clear h
 have HC2 := am_ H
 clear H
 go_enter Try.func34, Try.ntmps34
 go_upto_region 1 with (first | ((with_reducible refine gate_dst (N := 1) rfl ?_); (try (refine gate_guard (by rfl) ?_; dsimp only)); refine be_ 1 #[.string a0_0, .slice A0_1 l0_1.length c0_1] 59 ?_; intro gb111 hg w3 hbox hb; have BK111 := am_ (hbox); have GW111 := am_ (gw_ hg bl_); have GE111 := GW111; replace HB := hs_ w hb; clear hb hbox hg))
 (try simp only [Act.put, List.setIfInBounds_toArray, List.set_cons_zero, List.set_cons_succ])
 go_cut [15] (fun v15 wc => ∃ (kq : Nat) (x15_1 : Bool), v15 = .bool x15_1 ∧ Aside0 (F34.j0 kq x15_1 a0_0 l0_1 = some r) ∧ Aside0 (kq ≤ k) ∧ Aside0 (wc.heap[gb111]? = some (.cells #[.string a0_0, (.slice A0_1 l0_1.length c0_1)] 59 (0, 0))) ∧ Aside0 (Below w.heap.size w wc))
 case first =>
  have H := HC2.out
  clear HC2
  replace H := bi_ H; rcases H with ⟨t112, A4, H⟩
  replace H := ib_ H; rcases H with ⟨rfl, H⟩ | ⟨rfl, H⟩
  rotate_left
  ·have H' := am_ H
   clear H
   obtain ⟨hcz7_0, hcz7_1, hfz7_0, hfz7_1⟩ := cellsF2 BK111.out
   go_wp2_with (first | (go_at_call 75; (with_reducible refine (F75.calls k a0_0 false _ A4.out).mono ?_); rintro e w' ⟨rfl, ⟨nd, rfl⟩⟩; (try clear A4)))
   go_meet
   case rel => exact ⟨_, (true), er_, H', ⟨by first | omega | exact Nat.le_refl _⟩, ⟨bk_ BK111⟩, ⟨bl_⟩⟩
  have H' := am_ H
  clear H
  obtain ⟨hcz6_0, hcz6_1, hfz6_0, hfz6_1⟩ := cellsF2 BK111.out
  go_wp2_with (first | (go_at_call 75; (with_reducible refine (F75.calls k a0_0 true _ A4.out).mono ?_); rintro e w' ⟨rfl, ⟨nd, rfl⟩⟩; (try clear A4)))
  go_meet
  case rel => exact ⟨_, (decide ((l0_1.length : Int) > 10)), er_, H', ⟨by first | omega | exact Nat.le_refl _⟩, ⟨bk_ BK111⟩, ⟨bl_⟩⟩
 case rest =>
  clear HC2
  try clear hcz6_0 hcz6_1
  try clear hcz7_0 hcz7_1
  try clear hfz6_0 hfz6_1
  try clear hfz7_0 hfz7_1
  obtain ⟨kq, x15_1, rfl, HA, HJ1, BK111, HB⟩ := hcut
  cases kq with
  | zero => exact absurd HA.out (by simp [F34.j0])
  | succ kj1 =>
   have H := HA.out
   clear HA
   simp only [F34.j0] at H
   replace H := ib_ H; rcases H with ⟨rfl, H⟩ | ⟨rfl, H⟩
   ·obtain rfl := Option.some.inj H
    go_wp2
    go_ret
    exact ⟨au1_0, bl_⟩
   have H' := am_ H
   clear H
   go_wp2
   go_loopg [3] kj1 (fun kq v3 w' => ∃ (x3_2 : Int), v3 = .int .i64 x3_2 ∧ Aside0 (F34.l0 kq x3_2 a0_0 l0_1 = some r) ∧ Aside0 (kq ≤ kj1) ∧ Aside0 (w'.heap[gb111]? = some (.cells #[.string a0_0, (.slice A0_1 l0_1.length c0_1)] 59 (0, 0))) ∧ Aside0 (Below w.heap.size w w'))
   case atStart => exact ⟨(0), er_, H', ⟨Nat.le_refl _⟩, ⟨bk_ BK111⟩, ⟨bl_⟩⟩
   case round =>
    clear H'
    try clear hcz6_0 hcz6_1
    try clear hcz7_0 hcz7_1
    try clear hfz6_0 hfz6_1
    try clear hfz7_0 hfz7_1
    obtain ⟨x3_2, rfl, HA, HK2, BK111, HB⟩ := hrel
    cases gk with
    | zero => exact absurd HA.out (by simp [F34.l0])
    | succ k2 =>
     have H := HA.out
     clear HA
     simp only [F34.l0] at H
     replace H := it_ H; rcases H with ⟨c9b0, H⟩ | ⟨c9b0, H⟩
     rotate_left
     ·by_cases c24 : (l0_1.length : Int) = 0
      ·rw [if_pos c24] at H
       have c24b0 : ((l0_1.length : Int) == 0) = true := beq_iff_eq.mpr c24
       have c24b1 : ((l0_1.length : Int) != 0) = false := bne_eq_false_iff_eq.mpr c24
       clear c24
       obtain rfl := Option.some.inj H
       obtain ⟨hcz25_0, hcz25_1, hfz25_0, hfz25_1⟩ := cellsF2 BK111.out
       go_wp2
       go_ret
       exact ⟨au1_0, bl_⟩
      rw [if_neg c24] at H
      have c24b0 : ((l0_1.length : Int) == 0) = false := beq_eq_false_iff_ne.mpr c24
      have c24b1 : ((l0_1.length : Int) != 0) = true := bne_iff_ne.mpr c24
      have c24b2 : ¬ (l0_1 = []) := fun h_ => c24 (by rw [h_]; rfl)
      obtain ⟨ji26, hji26⟩ : ∃ j_ : Int, (wrap64 ((l0_1.length : Int) - 1)) = j_ := ⟨_, rfl⟩
      replace H : (if 0 ≤ (ji26) then (if (ji26) < (l0_1.length : Int) then ((F77.f ((rd_T102 l0_1 (ji26)).f0)).bind fun t114 => (some (!t114))) else (none)) else (none)) = some r := by first | (rw [hji26] at H; exact H) | (simp only [hji26] at H ⊢; exact H)
      have hji26w : (IntKind.i64.wrap ((l0_1.length : Int) - 1)) = ji26 := (i64_w _).trans hji26
      by_cases c27 : 0 ≤ (ji26)
      rotate_left
      ·rw [if_neg c27] at H
       exact absurd H (by simp)

      rw [if_pos c27] at H
      have c27b0 : decide (0 ≤ (ji26)) = true := decide_eq_true c27
      clear c27
      replace H := itn_ H; rcases H with ⟨c28b0, H⟩
      replace H := bi_ H; rcases H with ⟨t114, A29, H⟩
      obtain rfl := Option.some.inj H
      obtain ⟨hcz30_0, hcz30_1, hfz30_0, hfz30_1⟩ := cellsF2 BK111.out
      have p113 : 0 ≤ ((ji26) : Int) := od_
      have q113 : (ji26) < (l0_1.length : Int) := od_
      obtain ⟨ad113, A113_0, c113_0, e113, hx113_0, hl113_0, hi113_0⟩ := at_T102 HR0_1.out (ji26) p113 q113
      cases e113
      replace hx113_0 := (HB.out.cell (World.block_lt_of_cell? _ _ hx113_0)).trans hx113_0
      have HR113_0 := am_ hi113_0
      have HC113_0 := am_ hl113_0
      clear hi113_0 hl113_0
      replace p113 := eq_true p113
      replace q113 := eq_true q113
      go_wp2_with (first | (go_at_call 77; (with_reducible refine (F77.calls _ _ ((rd_T102 l0_1 (ji26)).f0) t114 _ ?s1 ?s2 A29.out).mono ?_); (case s1 => repeat (first | exact (Kd.C_below HR113_0.out HB.out) | (with_reducible refine Kd.C_alloc ?_ _) | (with_reducible refine Kd.C_drewN ?_ _) | (with_reducible refine Kd.C_drew ?_))); (case s2 => exact HC113_0.out); rintro e w31 ⟨rfl, hb⟩; (try clear A29); replace BK111 := bb_ BK111 hb; replace HB := hs_ w hb; (try clear hb)))
      go_ret
      exact ⟨by first | rfl | (simp [errW_none, errW_some] <;> rfl) | (simp only [← hji26]; first | rfl | (simp [errW_none, errW_some] <;> rfl)) | (simp [*, errW_none, errW_some] <;> rfl), bl_⟩
     replace H := itn_ H; rcases H with ⟨c10b0, H⟩
     have HC11 := am_ H
     clear H
     obtain ⟨hcz12_0, hcz12_1, hfz12_0, hfz12_1⟩ := cellsF2 BK111.out
     have p115 : 0 ≤ (x3_2 : Int) := od_
     have q115 : x3_2 < (l0_1.length : Int) := od_
     obtain ⟨ad115, A115_0, c115_0, e115, hx115_0, hl115_0, hi115_0⟩ := at_T102 HR0_1.out x3_2 p115 q115
     cases e115
     replace hx115_0 := (HB.out.cell (World.block_lt_of_cell? _ _ hx115_0)).trans hx115_0
     have HR115_0 := am_ hi115_0
     have HC115_0 := am_ hl115_0
     clear hi115_0 hl115_0
     replace p115 := eq_true p115
     replace q115 := eq_true q115
     go_upto_region 7 with (fail)
     go_cut [50] (fun v50 wc => ∃ (kq : Nat) (x50_10 : Bool), v50 = .bool x50_10 ∧ Aside0 (F34.j2 kq x3_2 ((rd_T102 l0_1 x3_2).f0) x50_10 a0_0 l0_1 = some r) ∧ Aside0 (kq ≤ k2) ∧ Aside0 (wc.heap[gb111]? = some (.cells #[.string a0_0, (.slice (some ad115) l0_1.length c0_1)] 59 (0, 0))) ∧ Aside0 (Below w.heap.size w wc))
     case first =>
      have H := HC11.out
      clear HC11
      replace H := it_ H; rcases H with ⟨c13b0, H⟩ | ⟨c13b0, H⟩
      ·have c13b1 : decide (((rd_T102 l0_1 x3_2).f0).length < 1) = true := n2_ c13b0
       (first | rw [c13b0] | (simp only [i64_w, i32_w]; rw [c13b0]) | skip)
       have H' := am_ H
       clear H
       go_wp2
       go_meet
       case rel => exact ⟨_, (true), er_, H', ⟨au1_6⟩, ⟨bk_ BK111⟩, ⟨bl_⟩⟩
      have c13b1 : decide (((rd_T102 l0_1 x3_2).f0).length < 1) = false := n2_ c13b0
      (first | rw [c13b0] | (simp only [i64_w, i32_w]; rw [c13b0]) | skip)
      replace H := it_ H; rcases H with ⟨(c14b0 : decide (4 < (((rd_T102 l0_1 x3_2).f0).length : Int)) = true), H⟩ | ⟨(c14b0 : decide (4 < (((rd_T102 l0_1 x3_2).f0).length : Int)) = false), H⟩
      ·have c14b1 : decide (4 < ((rd_T102 l0_1 x3_2).f0).length) = true := n2_ c14b0
       have H' := am_ H
       clear H
       go_wp2
       go_meet
       case rel => exact ⟨_, (true), er_, H', ⟨au1_6⟩, ⟨bk_ BK111⟩, ⟨bl_⟩⟩
      have c14b1 : decide (4 < ((rd_T102 l0_1 x3_2).f0).length) = false := n2_ c14b0
      replace H := it_ H; rcases H with ⟨(c15b0 : decide (1 < (((rd_T102 l0_1 x3_2).f0).length : Int)) = true), H⟩ | ⟨(c15b0 : decide (1 < (((rd_T102 l0_1 x3_2).f0).length : Int)) = false), H⟩
      rotate_left
      ·have c15b1 : decide (1 < ((rd_T102 l0_1 x3_2).f0).length) = false := n2_ c15b0
       have H' := am_ H
       clear H
       go_wp2
       go_meet
       case rel => exact ⟨_, (false), er_, H', ⟨au1_6⟩, ⟨bk_ BK111⟩, ⟨bl_⟩⟩
      have c15b1 : decide (1 < ((rd_T102 l0_1 x3_2).f0).length) = true := n2_ c15b0
      obtain ⟨ji16, hji16⟩ : ∃ j_ : Int, (wrap64 ((((rd_T102 l0_1 x3_2).f0).length : Int) - 1)) = j_ := ⟨_, rfl⟩
      replace H : (if 0 ≤ (ji16) then (if (ji16) < (((rd_T102 l0_1 x3_2).f0).length : Int) then (F34.j2 k2 x3_2 ((rd_T102 l0_1 x3_2).f0) ((rdOf ByteArray.empty ((rd_T102 l0_1 x3_2).f0) (ji16)).toList == ([] : List UInt8)) a0_0 l0_1) else (none)) else (none)) = some r := by first | (rw [hji16] at H; exact H) | (simp only [hji16] at H ⊢; exact H)
      have hji16w : (IntKind.i64.wrap ((((rd_T102 l0_1 x3_2).f0).length : Int) - 1)) = ji16 := (i64_w _).trans hji16
      replace H := itn_ H; rcases H with ⟨c17b0, H⟩
      replace H := itn_ H; rcases H with ⟨c18b0, H⟩
      have H' := am_ H
      clear H
      have p116 : 0 ≤ ((ji16) : Int) := od_
      have q116 : (ji16) < (((rd_T102 l0_1 x3_2).f0).length : Int) := od_
      obtain ⟨ad116, e116, hx116_0⟩ := Kd.at_string HR115_0.out (ji16) p116 q116
      cases e116
      replace hx116_0 := (HB.out.cell (World.block_lt_of_cell? _ _ hx116_0)).trans hx116_0
      replace p116 := eq_true p116
      replace q116 := eq_true q116
      go_wp2
      go_meet
      case rel => exact ⟨_, (((rdOf ByteArray.empty ((rd_T102 l0_1 x3_2).f0) (ji16)).toList == ([] : List UInt8))), (by first | rfl | (simp; done) | (simp only [← hji16] <;> (first | rfl | simp)) | (simp [*]; done)), H', ⟨au1_6⟩, ⟨bk_ BK111⟩, ⟨bl_⟩⟩
     case rest =>
      clear HC11
      try clear c9b0
      try clear c10b0
      try clear c13b0
      try clear c13b1
      try clear c14b0
      try clear c14b1
      try clear c15b0
      try clear c15b1
      try clear c17b0
      try clear c18b0
      try clear hcz12_0 hcz12_1
      try clear hcz6_0 hcz6_1
      try clear hcz7_0 hcz7_1
      try clear hfz12_0 hfz12_1
      try clear hfz6_0 hfz6_1
      try clear hfz7_0 hfz7_1
      try clear hx115_0
      try clear hx116_0
      try clear p115
      try clear p116
      try clear q115
      try clear q116
      obtain ⟨kq, x50_10, rfl, HA, HJ10, BK111, HB⟩ := hcut
      cases kq with
      | zero => exact absurd HA.out (by simp [F34.j2])
      | succ kj10 =>
       have H := HA.out
       clear HA
       simp only [F34.j2] at H
       replace H := ib_ H; rcases H with ⟨rfl, H⟩ | ⟨rfl, H⟩
       ·obtain rfl := Option.some.inj H
        go_wp2
        go_ret
        exact ⟨au1_0, bl_⟩
       have H' := am_ H
       clear H
       go_wp2
       go_loopg [5] kj10 (fun kq v5 w' => ∃ (x5_4 : Int), v5 = .int .i64 x5_4 ∧ Aside0 (F34.l1 kq x3_2 ((rd_T102 l0_1 x3_2).f0) x5_4 a0_0 l0_1 = some r) ∧ Aside0 (kq ≤ kj10) ∧ Aside0 (w'.heap[gb111]? = some (.cells #[.string a0_0, (.slice (some ad115) l0_1.length c0_1)] 59 (0, 0))) ∧ Aside0 (Below w.heap.size w w'))
       case atStart => exact ⟨(0), er_, H', ⟨Nat.le_refl _⟩, ⟨bk_ BK111⟩, ⟨bl_⟩⟩
       case round =>
        clear H'
        try clear c9b0
        try clear c10b0
        try clear c13b0
        try clear c13b1
        try clear c14b0
        try clear c14b1
        try clear c15b0
        try clear c15b1
        try clear c17b0
        try clear c18b0
        try clear hcz12_0 hcz12_1
        try clear hcz6_0 hcz6_1
        try clear hcz7_0 hcz7_1
        try clear hfz12_0 hfz12_1
        try clear hfz6_0 hfz6_1
        try clear hfz7_0 hfz7_1
        try clear hx115_0
        try clear hx116_0
        try clear p115
        try clear p116
        try clear q115
        try clear q116
        obtain ⟨x5_4, rfl, HA, HK4, BK111, HB⟩ := hrel
        cases gk with
        | zero => exact absurd HA.out (by simp [F34.l1])
        | succ k4 =>
         have H := HA.out
         clear HA
         simp only [F34.l1] at H
         replace H := it_ H; rcases H with ⟨c20b0, H⟩ | ⟨c20b0, H⟩
         rotate_left
         ·have H' := am_ H
          clear H
          go_wp2
          go_roundg k4
          case measure => have := HJ1.out; have := HK2.out; have := HJ10.out; have := HK4.out; omega
          case rel => exact ⟨(wrap64 (x3_2 + 1)), er_, H', ⟨au1_12⟩, ⟨bk_ BK111⟩, ⟨bl_⟩⟩
         replace H := itn_ H; rcases H with ⟨c21b0, H⟩
         replace H := bi_ H; rcases H with ⟨t118, A22, H⟩
         replace H := ib_ H; rcases H with ⟨rfl, H⟩ | ⟨rfl, H⟩
         rotate_left
         ·obtain rfl := Option.some.inj H
          have p117 : 0 ≤ (x5_4 : Int) := od_
          have q117 : x5_4 < (((rd_T102 l0_1 x3_2).f0).length : Int) := od_
          obtain ⟨ad117, e117, hx117_0⟩ := Kd.at_string HR115_0.out x5_4 p117 q117
          cases e117
          replace hx117_0 := (HB.out.cell (World.block_lt_of_cell? _ _ hx117_0)).trans hx117_0
          replace p117 := eq_true p117
          replace q117 := eq_true q117
          go_wp2_with (first | (go_at_call 76; (with_reducible refine (F76.calls k4 (rdOf ByteArray.empty ((rd_T102 l0_1 x3_2).f0) x5_4) false _ A22.out).mono ?_); rintro e w' ⟨rfl, ⟨nd, rfl⟩⟩; (try clear A22)))
          go_ret
          exact ⟨au1_0, bl_⟩
         have H' := am_ H
         clear H
         have p117 : 0 ≤ (x5_4 : Int) := od_
         have q117 : x5_4 < (((rd_T102 l0_1 x3_2).f0).length : Int) := od_
         obtain ⟨ad117, e117, hx117_0⟩ := Kd.at_string HR115_0.out x5_4 p117 q117
         cases e117
         replace hx117_0 := (HB.out.cell (World.block_lt_of_cell? _ _ hx117_0)).trans hx117_0
         replace p117 := eq_true p117
         replace q117 := eq_true q117
         go_wp2_with (first | (go_at_call 76; (with_reducible refine (F76.calls k4 (rdOf ByteArray.empty ((rd_T102 l0_1 x3_2).f0) x5_4) true _ A22.out).mono ?_); rintro e w' ⟨rfl, ⟨nd, rfl⟩⟩; (try clear A22)))
         go_roundg k4
         case measure => have := HJ1.out; have := HK2.out; have := HJ10.out; have := HK4.out; omega
         case rel => exact ⟨(wrap64 (x5_4 + 1)), er_, H', ⟨au1_12⟩, ⟨bk_ BK111⟩, ⟨bl_⟩⟩
/-! ### F79: function 79 -/
def F79.f (a0 : Int) (a1 : Int) (a2 : Int) : Option (Bool) := if a1 ≤ a0 then (some (decide (a0 ≤ a2))) else (some false)
theorem F79.calls (a0 : Int) (a1 : Int) (a2 : Int) (r : Bool) (w : World) (h : F79.f a0 a1 a2 = some r) :
  Calls Try.prog 79 #[.int .i64 a0, .int .i64 a1, .int .i64 a2] w fun e w' => e = .returned (.bool r) ∧ Drawn0 w w' := by
 have H : (if a1 ≤ a0 then (some (decide (a0 ≤ a2))) else (some false)) = some r := h
 clear h
 replace H := it_ H; rcases H with ⟨c4b0, H⟩ | ⟨c4b0, H⟩
 ·obtain rfl := Option.some.inj H
  go_enter Try.func79, Try.ntmps79
  go_wp2
  go_ret
  exact ⟨er_, dn_⟩
 obtain rfl := Option.some.inj H
 go_enter Try.func79, Try.ntmps79
 go_wp2
 go_ret
 exact ⟨er_, dn_⟩

/-! ### F112: function 112 -/
def F112.l0 : Nat → ByteArray → Int → Int → Option (Bool)
  | 0, _, _, _ => none
  | k + 1, x0, x5, x6 => if x6 < x5 then (if 0 ≤ x6 then (if x6 < (x0.size : Int) then (if (bt x0 x6) < 32 then (some false) else (if (bt x0 x6) > 126 then (some false) else (F112.l0 k x0 x5 (wrap64 (x6 + 1))))) else (none)) else (none)) else (some true)
def F112.f (k : Nat) (a0 : ByteArray) : Option (Bool) := F112.l0 k a0 (a0.size : Int) 0
theorem F112.mono_l : ∀ k, (∀ y0 y1 y2, LeO (F112.l0 k y0 y1 y2) (F112.l0 (k + 1) y0 y1 y2))
 | 0 => fun _ _ _ r h => by simp [F112.l0] at h
 | k + 1 => by
  have ih0 := F112.mono_l k
  intro y0 y1 y2
  unfold F112.l0
  repeat' with_reducible first | exact ih0 _ _ _ | exact LeO.refl _ | exact LeO.none _ | refine LeO.ite ?_ ?_ | refine LeO.bind ?_ (fun _ => ?_)
theorem F112.mono : ∀ a0 k, LeO (F112.f k a0) (F112.f (k + 1) a0) := by
 intro a0 k
 have ih0 := F112.mono_l k
 unfold F112.f
 repeat' with_reducible first | exact ih0 _ _ _ | exact LeO.refl _ | exact LeO.none _ | refine LeO.ite ?_ ?_ | refine LeO.bind ?_ (fun _ => ?_)
theorem F112.calls (k : Nat) (a0 : ByteArray) (r : Bool) (w : World) (h : F112.f k a0 = some r) :
  Calls Try.prog 112 #[.string a0] w fun e w' => e = .returned (.bool r) ∧ Drawn0 w w' := by
 have H : (F112.l0 k a0 (a0.size : Int) 0) = some r := h
 clear h
 have H' := am_ H
 clear H
 go_enter Try.func112, Try.ntmps112
 go_wp2
 go_loopg [6] k (fun kq v6 w' => ∃ (x6_1 : Int), v6 = .int .i64 x6_1 ∧ Aside0 (F112.l0 kq a0 (a0.size : Int) x6_1 = some r) ∧ Aside0 (kq ≤ k) ∧ Drawn0 w w')
 case atStart => exact ⟨(0), er_, H', ⟨Nat.le_refl _⟩, dn_⟩
 case round =>
  clear H'
  obtain ⟨x6_1, rfl, HA, HK1, ⟨m1, rfl⟩⟩ := hrel
  cases gk with
  | zero => exact absurd HA.out (by simp [F112.l0])
  | succ k1 =>
   have H := HA.out
   clear HA
   simp only [F112.l0] at H
   replace H := it_ H; rcases H with ⟨c2b0, H⟩ | ⟨c2b0, H⟩
   rotate_left
   ·obtain rfl := Option.some.inj H
    go_wp2
    go_ret
    exact ⟨er_, dn_⟩

   replace H := itn_ H; rcases H with ⟨c3b0, H⟩
   replace H := itn_ H; rcases H with ⟨c4b0, H⟩
   replace H := it_ H; rcases H with ⟨c6b0, H⟩ | ⟨c6b0, H⟩
   ·obtain rfl := Option.some.inj H
    have p5 : 0 ≤ (x6_1 : Int) := od_
    have q5 : x6_1 < (a0.size : Int) := od_
    have hx5 := bt_at a0 x6_1
    replace p5 := eq_true p5
    replace q5 := eq_true q5
    go_wp2
    go_ret
    exact ⟨er_, dn_⟩
   replace H := it_ H; rcases H with ⟨(c8b0 : decide (126 < (bt a0 x6_1)) = true), H⟩ | ⟨(c8b0 : decide (126 < (bt a0 x6_1)) = false), H⟩
   ·obtain rfl := Option.some.inj H
    have p5 : 0 ≤ (x6_1 : Int) := od_
    have q5 : x6_1 < (a0.size : Int) := od_
    have hx5 := bt_at a0 x6_1
    replace p5 := eq_true p5
    replace q5 := eq_true q5
    have p7 : 0 ≤ (x6_1 : Int) := od_
    have q7 : x6_1 < (a0.size : Int) := od_
    have hx7 := bt_at a0 x6_1
    replace p7 := eq_true p7
    replace q7 := eq_true q7
    go_wp2
    go_ret
    exact ⟨er_, dn_⟩
   have H' := am_ H
   clear H
   have p5 : 0 ≤ (x6_1 : Int) := od_
   have q5 : x6_1 < (a0.size : Int) := od_
   have hx5 := bt_at a0 x6_1
   replace p5 := eq_true p5
   replace q5 := eq_true q5
   have p7 : 0 ≤ (x6_1 : Int) := od_
   have q7 : x6_1 < (a0.size : Int) := od_
   have hx7 := bt_at a0 x6_1
   replace p7 := eq_true p7
   replace q7 := eq_true q7
   go_wp2
   go_roundg k1
   case measure => have := HK1.out; omega
   case rel => exact ⟨(wrap64 (x6_1 + 1)), er_, H', ⟨by have := HK1.out; omega⟩, dn_⟩
/-! ### F82: function 82 -/
def F82.f (k : Nat) (a0 : ByteArray) : Option (Bool) := if (a0.size : Int) ≤ 40 then ((F112.f k a0).bind fun t119 => (some t119)) else (some false)
theorem F82.mono : ∀ a0 k, LeO (F82.f k a0) (F82.f (k + 1) a0) := by
 intro a0 k
 unfold F82.f
 repeat' with_reducible first | exact F112.mono _ _ | exact LeO.refl _ | exact LeO.none _ | refine LeO.ite ?_ ?_ | refine LeO.bind ?_ (fun _ => ?_)
theorem F82.calls (k : Nat) (a0 : ByteArray) (r : Bool) (w : World) (h : F82.f k a0 = some r) :
  Calls Try.prog 82 #[.string a0] w fun e w' => e = .returned (.bool r) ∧ Drawn0 w w' := by
 have H : (if (a0.size : Int) ≤ 40 then ((F112.f k a0).bind fun t119 => (some t119)) else (some false)) = some r := h
 clear h
 replace H := it_ H; rcases H with ⟨c2b0, H⟩ | ⟨c2b0, H⟩
 rotate_left
 ·have c2b1 : decide (a0.size ≤ 40) = false := n2_ c2b0
  obtain rfl := Option.some.inj H
  go_enter Try.func82, Try.ntmps82
  go_wp2
  go_ret
  exact ⟨er_, dn_⟩

 have c2b1 : decide (a0.size ≤ 40) = true := n2_ c2b0
 replace H := bi_ H; rcases H with ⟨t119, A3, H⟩
 obtain rfl := Option.some.inj H
 go_enter Try.func82, Try.ntmps82
 go_wp2_with (first | (go_at_call 112; (with_reducible refine (F112.calls k a0 t119 _ A3.out).mono ?_); rintro e w' ⟨rfl, ⟨nd, rfl⟩⟩))
 go_ret
 exact ⟨er_, dn_⟩
/-! ### F81: function 81 -/
def F81.f (k : Nat) (a0 : ByteArray) : Option (Bool) := (F82.f k a0).bind fun t120 => (some (!t120))
theorem F81.mono : ∀ a0 k, LeO (F81.f k a0) (F81.f (k + 1) a0) := by
 intro a0 k
 unfold F81.f
 repeat' with_reducible first | exact F82.mono _ _ | exact LeO.refl _ | exact LeO.none _ | refine LeO.ite ?_ ?_ | refine LeO.bind ?_ (fun _ => ?_)
theorem F81.calls (k : Nat) (a0 : ByteArray) (r : Bool) (w : World) (h : F81.f k a0 = some r) :
  Calls Try.prog 81 #[.string a0] w fun e w' => e = .returned (.bool r) ∧ Drawn0 w w' := by
 have H : ((F82.f k a0).bind fun t120 => (some (!t120))) = some r := h
 clear h
 replace H := bi_ H; rcases H with ⟨t120, A2, H⟩
 obtain rfl := Option.some.inj H
 go_enter Try.func81, Try.ntmps81
 go_wp2_with (first | ((with_reducible refine gate_callee (f := 82) rfl ?_); refine gl_ 4 Try.func82 #[.string a0] ?_ rfl rfl rfl rfl; (with_reducible refine (F82.calls k a0 t120 _ A2.out).mono ?_); rintro e w' ⟨rfl, ⟨nd, rfl⟩⟩; refine ⟨_, rfl, ?_⟩))
 go_ret
 exact ⟨er_, dn_⟩

/-! ### F104: function 104 -/
def F104.f (a0 : Int) : Option (Bool) := if a0 ≥ 65 then (some (decide (a0 ≤ 90))) else (some false)
theorem F104.calls (a0 : Int) (r : Bool) (w : World) (h : F104.f a0 = some r) :
  Calls Try.prog 104 #[.int .u8 a0] w fun e w' => e = .returned (.bool r) ∧ Drawn0 w w' := by
 have H : (if a0 ≥ 65 then (some (decide (a0 ≤ 90))) else (some false)) = some r := h
 clear h
 replace H := it_ H; rcases H with ⟨(c2b0 : decide (65 ≤ a0) = true), H⟩ | ⟨(c2b0 : decide (65 ≤ a0) = false), H⟩
 ·obtain rfl := Option.some.inj H
  go_enter Try.func104, Try.ntmps104
  go_wp2
  go_ret
  exact ⟨er_, dn_⟩
 obtain rfl := Option.some.inj H
 go_enter Try.func104, Try.ntmps104
 go_wp2
 go_ret
 exact ⟨er_, dn_⟩

/-! ### F83: function 83 -/
def F83.f (a0 : ByteArray) : Option (Bool) := if (a0.size : Int) = 3 then (if 0 < (a0.size : Int) then ((F104.f (bt a0 0)).bind fun t121 => (if t121 = true then (if 1 < (a0.size : Int) then ((F104.f (bt a0 1)).bind fun t122 => (if t122 = true then (if 2 < (a0.size : Int) then ((F104.f (bt a0 2)).bind fun t123 => (some t123)) else (none)) else (some false))) else (none)) else (some false))) else (none)) else (some false)
theorem F83.calls (a0 : ByteArray) (r : Bool) (w : World) (h : F83.f a0 = some r) :
  Calls Try.prog 83 #[.string a0] w fun e w' => e = .returned (.bool r) ∧ Drawn0 w w' := by
 have H : (if (a0.size : Int) = 3 then (if 0 < (a0.size : Int) then ((F104.f (bt a0 0)).bind fun t121 => (if t121 = true then (if 1 < (a0.size : Int) then ((F104.f (bt a0 1)).bind fun t122 => (if t122 = true then (if 2 < (a0.size : Int) then ((F104.f (bt a0 2)).bind fun t123 => (some t123)) else (none)) else (some false))) else (none)) else (some false))) else (none)) else (some false)) = some r := h
 clear h
 by_cases c2 : (a0.size : Int) = 3
 rotate_left
 ·rw [if_neg c2] at H
  have c2b0 : ((a0.size : Int) == 3) = false := beq_eq_false_iff_ne.mpr c2
  have c2b1 : ((a0.size : Int) != 3) = true := bne_iff_ne.mpr c2
  obtain rfl := Option.some.inj H
  go_enter Try.func83, Try.ntmps83
  go_wp2
  go_ret
  exact ⟨er_, dn_⟩

 rw [if_pos c2] at H
 have c2b0 : ((a0.size : Int) == 3) = true := beq_iff_eq.mpr c2
 have c2b1 : ((a0.size : Int) != 3) = false := bne_eq_false_iff_eq.mpr c2
 clear c2
 replace H := itn_ H; rcases H with ⟨c3b0, H⟩
 have c3b1 : decide (0 < a0.size) = true := n2_ c3b0
 replace H := bi_ H; rcases H with ⟨t121, A5, H⟩
 replace H := ib_ H; rcases H with ⟨rfl, H⟩ | ⟨rfl, H⟩
 rotate_left
 ·obtain rfl := Option.some.inj H
  have p4 : 0 ≤ (0 : Int) := (by omega)
  have q4 : 0 < a0.size := (by have : (0 : Int) < (a0.size : Int) := od_; omega)
  have hx4 : ∀ h : 0 < a0.size, ((a0[0]'h).toNat : Int) = bt a0 0 := bt_at a0 0
  clear p4
  have qi4 : (0 < (a0.size : Int)) = True := eq_true (of_decide_eq_true as_)
  replace q4 := eq_true q4
  go_enter Try.func83, Try.ntmps83
  go_wp2_with (first | (go_at_call 104; (with_reducible refine (F104.calls (bt a0 0) false _ A5.out).mono ?_); rintro e w' ⟨rfl, ⟨nd, rfl⟩⟩))
  go_ret
  exact ⟨er_, dn_⟩
 replace H := itn_ H; rcases H with ⟨c7b0, H⟩
 have c7b1 : decide (1 < a0.size) = true := n2_ c7b0
 replace H := bi_ H; rcases H with ⟨t122, A9, H⟩
 replace H := ib_ H; rcases H with ⟨rfl, H⟩ | ⟨rfl, H⟩
 rotate_left
 ·obtain rfl := Option.some.inj H
  have p4 : 0 ≤ (0 : Int) := (by omega)
  have q4 : 0 < a0.size := (by have : (0 : Int) < (a0.size : Int) := od_; omega)
  have hx4 : ∀ h : 0 < a0.size, ((a0[0]'h).toNat : Int) = bt a0 0 := bt_at a0 0
  clear p4
  have qi4 : (0 < (a0.size : Int)) = True := eq_true (of_decide_eq_true as_)
  replace q4 := eq_true q4
  go_enter Try.func83, Try.ntmps83
  go_wp2_with (first | (go_at_call 104; (with_reducible refine (F104.calls (bt a0 0) true _ A5.out).mono ?_); rintro e w' ⟨rfl, ⟨nd, rfl⟩⟩; have p8 : 0 ≤ (1 : Int) := (by omega); have q8 : 1 < a0.size := (by have : (1 : Int) < (a0.size : Int) := od_; omega); have hx8 : ∀ h : 1 < a0.size, ((a0[1]'h).toNat : Int) = bt a0 1 := bt_at a0 1; clear p8; have qi8 : (1 < (a0.size : Int)) = True := eq_true (of_decide_eq_true as_); replace q8 := eq_true q8) | (go_at_call 104; (with_reducible refine (F104.calls (bt a0 1) false _ A9.out).mono ?_); rintro e w' ⟨rfl, ⟨nd, rfl⟩⟩))
  go_ret
  exact ⟨er_, dn_⟩
 replace H := itn_ H; rcases H with ⟨c11b0, H⟩
 have c11b1 : decide (2 < a0.size) = true := n2_ c11b0
 replace H := bi_ H; rcases H with ⟨t123, A13, H⟩
 obtain rfl := Option.some.inj H
 have p4 : 0 ≤ (0 : Int) := (by omega)
 have q4 : 0 < a0.size := (by have : (0 : Int) < (a0.size : Int) := od_; omega)
 have hx4 : ∀ h : 0 < a0.size, ((a0[0]'h).toNat : Int) = bt a0 0 := bt_at a0 0
 clear p4
 have qi4 : (0 < (a0.size : Int)) = True := eq_true (of_decide_eq_true as_)
 replace q4 := eq_true q4
 go_enter Try.func83, Try.ntmps83
 go_wp2_with (first | (go_at_call 104; (with_reducible refine (F104.calls (bt a0 0) true _ A5.out).mono ?_); rintro e w' ⟨rfl, ⟨nd, rfl⟩⟩; have p8 : 0 ≤ (1 : Int) := (by omega); have q8 : 1 < a0.size := (by have : (1 : Int) < (a0.size : Int) := od_; omega); have hx8 : ∀ h : 1 < a0.size, ((a0[1]'h).toNat : Int) = bt a0 1 := bt_at a0 1; clear p8; have qi8 : (1 < (a0.size : Int)) = True := eq_true (of_decide_eq_true as_); replace q8 := eq_true q8) | (go_at_call 104; (with_reducible refine (F104.calls (bt a0 1) true _ A9.out).mono ?_); rintro e w' ⟨rfl, ⟨nd, rfl⟩⟩; have p12 : 0 ≤ (2 : Int) := (by omega); have q12 : 2 < a0.size := (by have : (2 : Int) < (a0.size : Int) := od_; omega); have hx12 : ∀ h : 2 < a0.size, ((a0[2]'h).toNat : Int) = bt a0 2 := bt_at a0 2; clear p12; have qi12 : (2 < (a0.size : Int)) = True := eq_true (of_decide_eq_true as_); replace q12 := eq_true q12) | (go_at_call 104; (with_reducible refine (F104.calls (bt a0 2) t123 _ A13.out).mono ?_); rintro e w' ⟨rfl, ⟨nd, rfl⟩⟩))
 go_ret
 exact ⟨er_, dn_⟩
/-! ### F111: function 111 -/
def F111.l0 : Nat → List ByteArray → Int → Int → Option (Int)
  | 0, _, _, _ => none
  | k + 1, x0, x7, x8 => if x8 < x7 then (if 0 ≤ x8 then (if x8 < (x0.length : Int) then ((F81.f k (rdOf ByteArray.empty x0 x8)).bind fun t125 => (if t125 = true then (some x8) else (F111.l0 k x0 x7 (wrap64 (x8 + 1))))) else (none)) else (none)) else (some (-1))
def F111.f (k : Nat) (l0 : List ByteArray)  : Option (Int) := F111.l0 k l0 (l0.length : Int) 0
theorem F111.mono_l : ∀ k, (∀ y0 y1 y2, LeO (F111.l0 k y0 y1 y2) (F111.l0 (k + 1) y0 y1 y2))
 | 0 => fun _ _ _ r h => by simp [F111.l0] at h
 | k + 1 => by
  have ih0 := F111.mono_l k
  intro y0 y1 y2
  unfold F111.l0
  repeat' with_reducible first | exact ih0 _ _ _ | exact F81.mono _ _ | exact LeO.refl _ | exact LeO.none _ | refine LeO.ite ?_ ?_ | refine LeO.bind ?_ (fun _ => ?_)
theorem F111.mono : ∀ a0 k, LeO (F111.f k a0) (F111.f (k + 1) a0) := by
 intro a0 k
 have ih0 := F111.mono_l k
 unfold F111.f
 repeat' with_reducible first | exact ih0 _ _ _ | exact F81.mono _ _ | exact LeO.refl _ | exact LeO.none _ | refine LeO.ite ?_ ?_ | refine LeO.bind ?_ (fun _ => ?_)
theorem F111.calls (k : Nat) (A0 : Option Addr) (c0 : Nat) (l0 : List ByteArray)  (r : Int) (w : World) (hr0 : Kd.C Kd.string w A0 l0.length l0) (hc0 : l0.length ≤ c0) (h : F111.f k l0 = some r) :
  Calls Try.prog 111 #[.slice A0 l0.length c0, .func (.func 81) #[] #[]] w fun e w' => e = .returned (.int .i64 r) ∧ Drawn0 w w' := by
 have HR0 := am_ hr0
 have HC0 := am_ hc0
 clear hr0 hc0
 have H : (F111.l0 k l0 (l0.length : Int) 0) = some r := h
 clear h
 have H' := am_ H
 clear H
 go_enter Try.func111, Try.ntmps111
 go_wp2
 go_loopg [8] k (fun kq v8 w' => ∃ (x8_1 : Int), v8 = .int .i64 x8_1 ∧ Aside0 (F111.l0 kq l0 (l0.length : Int) x8_1 = some r) ∧ Aside0 (kq ≤ k) ∧ Drawn0 w w')
 case atStart => exact ⟨(0), er_, H', ⟨Nat.le_refl _⟩, dn_⟩
 case round =>
  clear H'
  obtain ⟨x8_1, rfl, HA, HK1, ⟨m1, rfl⟩⟩ := hrel
  cases gk with
  | zero => exact absurd HA.out (by simp [F111.l0])
  | succ k1 =>
   have H := HA.out
   clear HA
   simp only [F111.l0] at H
   replace H := it_ H; rcases H with ⟨c3b0, H⟩ | ⟨c3b0, H⟩
   rotate_left
   ·obtain rfl := Option.some.inj H
    go_wp2
    go_ret
    exact ⟨er_, dn_⟩

   replace H := itn_ H; rcases H with ⟨c4b0, H⟩
   replace H := itn_ H; rcases H with ⟨c5b0, H⟩
   replace H := bi_ H; rcases H with ⟨t125, A6, H⟩
   replace H := ib_ H; rcases H with ⟨rfl, H⟩ | ⟨rfl, H⟩
   ·obtain rfl := Option.some.inj H
    have p124 : 0 ≤ (x8_1 : Int) := od_
    have q124 : x8_1 < (l0.length : Int) := od_
    obtain ⟨ad124, e124, hx124_0⟩ := Kd.at_string HR0.out x8_1 p124 q124
    cases e124
    replace p124 := eq_true p124
    replace q124 := eq_true q124
    go_wp2_with (first | (go_at_call 81; (with_reducible refine (F81.calls k1 (rdOf ByteArray.empty l0 x8_1) true _ A6.out).mono ?_); rintro e w' ⟨rfl, ⟨nd, rfl⟩⟩))
    go_ret
    exact ⟨er_, dn_⟩
   have H' := am_ H
   clear H
   have p124 : 0 ≤ (x8_1 : Int) := od_
   have q124 : x8_1 < (l0.length : Int) := od_
   obtain ⟨ad124, e124, hx124_0⟩ := Kd.at_string HR0.out x8_1 p124 q124
   cases e124
   replace p124 := eq_true p124
   replace q124 := eq_true q124
   go_wp2_with (first | (go_at_call 81; (with_reducible refine (F81.calls k1 (rdOf ByteArray.empty l0 x8_1) false _ A6.out).mono ?_); rintro e w' ⟨rfl, ⟨nd, rfl⟩⟩))
   go_roundg k1
   case measure => have := HK1.out; omega
   case rel => exact ⟨(wrap64 (x8_1 + 1)), er_, H', ⟨by have := HK1.out; omega⟩, dn_⟩
/-! ### F80: function 80 -/
def F80.f (k : Nat) (l0 : List ByteArray)  : Option (Bool) := (F111.f k l0).bind fun t126 => (some (decide (t126 ≥ 0)))
theorem F80.mono : ∀ a0 k, LeO (F80.f k a0) (F80.f (k + 1) a0) := by
 intro a0 k
 unfold F80.f
 repeat' with_reducible first | exact F111.mono _ _ | exact LeO.refl _ | exact LeO.none _ | refine LeO.ite ?_ ?_ | refine LeO.bind ?_ (fun _ => ?_)
theorem F80.calls (k : Nat) (A0 : Option Addr) (c0 : Nat) (l0 : List ByteArray)  (r : Bool) (w : World) (hr0 : Kd.C Kd.string w A0 l0.length l0) (hc0 : l0.length ≤ c0) (h : F80.f k l0 = some r) :
  Calls Try.prog 80 #[.slice A0 l0.length c0, .func (.func 81) #[] #[]] w fun e w' => e = .returned (.bool r) ∧ Drawn0 w w' := by
 have HR0 := am_ hr0
 have HC0 := am_ hc0
 clear hr0 hc0
 have H : ((F111.f k l0).bind fun t126 => (some (decide (t126 ≥ 0)))) = some r := h
 clear h
 replace H := bi_ H; rcases H with ⟨t126, A3, H⟩
 obtain rfl := Option.some.inj H
 go_enter Try.func80, Try.ntmps80
 go_wp2_with (first | ((with_reducible refine gate_callee (f := 111) rfl ?_); refine gl_ 7 Try.func111 #[.slice A0 l0.length c0, .func (.func 81) #[] #[]] ?_ rfl rfl rfl rfl; (with_reducible refine (F111.calls k _ _ l0  t126 _ ?s1 ?s2 A3.out).mono ?_); (case s1 => exact au1_9); (case s2 => exact HC0.out); rintro e w' ⟨rfl, ⟨nd, rfl⟩⟩; refine ⟨_, rfl, ?_⟩))
 go_ret
 exact ⟨er_, dn_⟩

/-! ### F36: function 36 -/
mutual
def F36.l0 : Nat → List (S102) → Int → Int → ByteArray → List (S102) → Option (Bool)
  | 0, _, _, _, _, _ => none
  | k + 1, x7, x8, x9, x128000, x128001 => if x9 < x8 then (if 0 ≤ x9 then (if x9 < (x7.length : Int) then ((F79.f (((rd_T102 x7 x9).f0).length : Int) 1 4).bind fun t131 => (if t131 = true then ((F80.f k ((rd_T102 x7 x9).f0)).bind fun t132 => (F36.j1 k x9 (((rd_T102 x7 x9).f0).length : Int) x7 x8 x9 t132 x128000 x128001 ((rd_T102 x7 x9).f0))) else (F36.j1 k x9 (((rd_T102 x7 x9).f0).length : Int) x7 x8 x9 true x128000 x128001 ((rd_T102 x7 x9).f0)))) else (none)) else (none)) else ((F83.f x128000).bind fun t128 => (if t128 = true then (some (decide ((x128001.length : Int) ≤ 10))) else (some false)))
def F36.j1 : Nat → Int → Int → List (S102) → Int → Int → Bool → ByteArray → List (S102) → List ByteArray → Option (Bool)
  | 0, _, _, _, _, _, _, _, _, _ => none
  | k + 1, x3, x5, x7, x8, x9, x24, x128000, x128001, x131000 => if x24 = true then (some false) else (if 0 ≤ (wrap64 (x5 - 1)) then (if (wrap64 (x5 - 1)) < (x131000.length : Int) then (if (rdOf ByteArray.empty x131000 (wrap64 (x5 - 1))).toList = ([] : List UInt8) then (if x5 > 1 then (some false) else (if x3 = (wrap64 ((x128001.length : Int) - 1)) then (some false) else (F36.l0 k x7 x8 (wrap64 (x9 + 1)) x128000 x128001))) else (F36.l0 k x7 x8 (wrap64 (x9 + 1)) x128000 x128001)) else (none)) else (none))
end
def F36.f (k : Nat) (a0_0 : ByteArray) (l0_1 : List (S102)) : Option (Bool) := F36.l0 k l0_1 (l0_1.length : Int) 0 a0_0 l0_1
theorem F36.mono_l : ∀ k, (∀ y0 y1 y2 y3 y4, LeO (F36.l0 k y0 y1 y2 y3 y4) (F36.l0 (k + 1) y0 y1 y2 y3 y4)) ∧ (∀ y0 y1 y2 y3 y4 y5 y6 y7 y8, LeO (F36.j1 k y0 y1 y2 y3 y4 y5 y6 y7 y8) (F36.j1 (k + 1) y0 y1 y2 y3 y4 y5 y6 y7 y8))
 | 0 => ⟨fun _ _ _ _ _ r h => by simp [F36.l0] at h, fun _ _ _ _ _ _ _ _ _ r h => by simp [F36.j1] at h⟩
 | k + 1 => by
  obtain ⟨ih0, ih1⟩ := F36.mono_l k
  refine ⟨?_, ?_⟩
  rotate_left
  ·intro y0 y1 y2 y3 y4 y5 y6 y7 y8
   unfold F36.j1
   repeat' with_reducible first | exact ih0 _ _ _ _ _ | exact ih1 _ _ _ _ _ _ _ _ _ | exact F80.mono _ _ | exact LeO.refl _ | exact LeO.none _ | refine LeO.ite ?_ ?_ | refine LeO.bind ?_ (fun _ => ?_)
  intro y0 y1 y2 y3 y4
  unfold F36.l0
  repeat' with_reducible first | exact ih0 _ _ _ _ _ | exact ih1 _ _ _ _ _ _ _ _ _ | exact F80.mono _ _ | exact LeO.refl _ | exact LeO.none _ | refine LeO.ite ?_ ?_ | refine LeO.bind ?_ (fun _ => ?_)
theorem F36.mono : ∀ a0 a1 k, LeO (F36.f k a0 a1) (F36.f (k + 1) a0 a1) := by
 intro a0 a1 k
 obtain ⟨ih0, ih1⟩ := F36.mono_l k
 unfold F36.f
 repeat' with_reducible first | exact ih0 _ _ _ _ _ | exact ih1 _ _ _ _ _ _ _ _ _ | exact F80.mono _ _ | exact LeO.refl _ | exact LeO.none _ | refine LeO.ite ?_ ?_ | refine LeO.bind ?_ (fun _ => ?_)
theorem F36.calls (k : Nat) (a0_0 : ByteArray) (A0_1 : Option Addr) (c0_1 : Nat) (l0_1 : List (S102)) (r : Bool) (w : World) (hr0_1 : Kd.C k102 w A0_1 l0_1.length l0_1) (hc0_1 : l0_1.length ≤ c0_1) (h : F36.f k a0_0 l0_1 = some r) :
  Calls Try.prog 36 #[.agg #[.string a0_0, .slice A0_1 l0_1.length c0_1]] w fun e w' => e = .returned (.bool r) ∧ Below w.heap.size w w' := by
 have hu59 := Try.underlying59
 have hu102 := Try.underlying102
 have HR0_1 := am_ hr0_1
 have HC0_1 := am_ hc0_1
 clear hr0_1 hc0_1
 have HB := am_ (Below.refl w.heap.size w)
 have H : (F36.l0 k l0_1 (l0_1.length : Int) 0 a0_0 l0_1) = some r := h
 clear h
 have H' := am_ H
 clear H
 go_enter Try.func36, Try.ntmps36
 go_wp2_with (first | ((with_reducible refine gate_dst (N := 1) rfl ?_); (try (refine gate_guard (by rfl) ?_; dsimp only)); refine be_ 1 #[.string a0_0, .slice A0_1 l0_1.length c0_1] 59 ?_; intro gb127 hg w2 hbox hb; have BK127 := am_ (hbox); have GW127 := am_ (gw_ hg bl_); have GE127 := GW127; replace HB := hs_ w hb; clear hb hbox hg; obtain ⟨hcz3_0, hcz3_1, hfz3_0, hfz3_1⟩ := cellsF2 BK127.out))
 go_loopg [9] k (fun kq v9 w' => ∃ (x9_1 : Int), v9 = .int .i64 x9_1 ∧ Aside0 (F36.l0 kq l0_1 (l0_1.length : Int) x9_1 a0_0 l0_1 = some r) ∧ Aside0 (kq ≤ k) ∧ Aside0 (w'.heap[gb127]? = some (.cells #[.string a0_0, (.slice A0_1 l0_1.length c0_1)] 59 (0, 0))) ∧ Aside0 (Below w.heap.size w w'))
 case atStart => exact ⟨(0), er_, H', ⟨Nat.le_refl _⟩, ⟨bk_ BK127⟩, ⟨bl_⟩⟩
 case round =>
  clear H'
  try clear hcz3_0 hcz3_1
  try clear hfz3_0 hfz3_1
  obtain ⟨x9_1, rfl, HA, HK1, BK127, HB⟩ := hrel
  cases gk with
  | zero => exact absurd HA.out (by simp [F36.l0])
  | succ k1 =>
   have H := HA.out
   clear HA
   simp only [F36.l0] at H
   replace H := it_ H; rcases H with ⟨c4b0, H⟩ | ⟨c4b0, H⟩
   rotate_left
   ·replace H := bi_ H; rcases H with ⟨t128, A33, H⟩
    replace H := ib_ H; rcases H with ⟨rfl, H⟩ | ⟨rfl, H⟩
    ·obtain rfl := Option.some.inj H
     obtain ⟨hcz35_0, hcz35_1, hfz35_0, hfz35_1⟩ := cellsF2 BK127.out
     go_wp2_with (first | ((with_reducible refine gate_callee (f := 83) rfl ?_); refine gl_ 47 Try.func83 #[.string a0_0] ?_ rfl rfl rfl rfl; (with_reducible refine (F83.calls a0_0 true _ A33.out).mono ?_); rintro e w' ⟨rfl, ⟨nd, rfl⟩⟩; refine ⟨_, rfl, ?_⟩))
     go_ret
     exact ⟨au1_0, bl_⟩
    obtain rfl := Option.some.inj H
    obtain ⟨hcz36_0, hcz36_1, hfz36_0, hfz36_1⟩ := cellsF2 BK127.out
    go_wp2_with (first | ((with_reducible refine gate_callee (f := 83) rfl ?_); refine gl_ 47 Try.func83 #[.string a0_0] ?_ rfl rfl rfl rfl; (with_reducible refine (F83.calls a0_0 false _ A33.out).mono ?_); rintro e w' ⟨rfl, ⟨nd, rfl⟩⟩; refine ⟨_, rfl, ?_⟩))
    go_ret
    exact ⟨au1_0, bl_⟩

   replace H := itn_ H; rcases H with ⟨c5b0, H⟩
   replace H := itn_ H; rcases H with ⟨c6b0, H⟩
   have HC7 := am_ H
   clear H
   have p129 : 0 ≤ (x9_1 : Int) := od_
   have q129 : x9_1 < (l0_1.length : Int) := od_
   obtain ⟨ad129, A129_0, c129_0, e129, hx129_0, hl129_0, hi129_0⟩ := at_T102 HR0_1.out x9_1 p129 q129
   cases e129
   replace hx129_0 := (HB.out.cell (World.block_lt_of_cell? _ _ hx129_0)).trans hx129_0
   have HR129_0 := am_ hi129_0
   have HC129_0 := am_ hl129_0
   clear hi129_0 hl129_0
   replace p129 := eq_true p129
   replace q129 := eq_true q129
   go_upto_region 5 with (first | ((with_reducible refine gate_dst (N := 4) rfl ?_); (try (refine gate_guard (by rfl) ?_; dsimp only)); refine be_ 4 #[.slice none 0 0] 102 ?_; intro gb130 hg w8 hbox hb; have BK130 := am_ (hbox); have GW130 := am_ (gw_ hg bl_); have GE130 := GW130; replace HB := hs_ w hb; have NB127_130 := am_ (gn_ hg (blkl_ BK127)); have NB130_127 := am_ (gm_ hg (blkl_ BK127)); replace BK127 := bb_ BK127 hb; clear hb hbox hg; have hnb9 := NB130_127.out; have hnc9 := NB127_130.out; have hcz10_0 : w8.cell? ⟨gb130, 0, none⟩ = some (.slice none 0 0) := (blk_cell BK130.out 0).trans rfl; have hfz10_0 := blk_frozen BK130.out 0))
   (try simp only [Act.put, List.setIfInBounds_toArray, List.set_cons_zero, List.set_cons_succ])
   go_cut [24] (fun v24 wc => ∃ (kq : Nat) (x24_6 : Bool), v24 = .bool x24_6 ∧ Aside0 (F36.j1 kq x9_1 (((rd_T102 l0_1 x9_1).f0).length : Int) l0_1 (l0_1.length : Int) x9_1 x24_6 a0_0 l0_1 ((rd_T102 l0_1 x9_1).f0) = some r) ∧ Aside0 (kq ≤ k1) ∧ Aside0 (wc.heap[gb127]? = some (.cells #[.string a0_0, (.slice (some ad129) l0_1.length c0_1)] 59 (0, 0))) ∧ Aside0 (wc.heap[gb130]? = some (.cells #[(.slice A129_0 ((rd_T102 l0_1 x9_1).f0).length c129_0)] 102 (0, 0))) ∧ Aside0 (Below w.heap.size w wc))
   case first =>
    have H := HC7.out
    clear HC7
    replace H := bi_ H; rcases H with ⟨t131, A11, H⟩
    replace H := ib_ H; rcases H with ⟨rfl, H⟩ | ⟨rfl, H⟩
    rotate_left
    ·have H' := am_ H
     clear H
     go_wp2_with (first | ((with_reducible refine gate_callee (f := 79) rfl ?_); refine gl_ 18 Try.func79 #[.int .i64 (((rd_T102 l0_1 x9_1).f0).length : Int), .int .i64 1, .int .i64 4] ?_ rfl rfl rfl rfl; (with_reducible refine (F79.calls (((rd_T102 l0_1 x9_1).f0).length : Int) 1 4 false _ A11.out).mono ?_); rintro e w' ⟨rfl, ⟨nd, rfl⟩⟩; refine ⟨_, rfl, ?_⟩))
     go_meet
     case rel => exact ⟨_, (true), er_, H', ⟨au1_10⟩, ⟨bf_ BK127⟩, ⟨bq_ BK130⟩, ⟨bl_⟩⟩
    replace H := bi_ H; rcases H with ⟨t132, A13, H⟩
    have H' := am_ H
    clear H
    go_wp2_with (first | ((with_reducible refine gate_callee (f := 79) rfl ?_); refine gl_ 18 Try.func79 #[.int .i64 (((rd_T102 l0_1 x9_1).f0).length : Int), .int .i64 1, .int .i64 4] ?_ rfl rfl rfl rfl; (with_reducible refine (F79.calls (((rd_T102 l0_1 x9_1).f0).length : Int) 1 4 true _ A11.out).mono ?_); rintro e w' ⟨rfl, ⟨nd, rfl⟩⟩; refine ⟨_, rfl, ?_⟩; have hnb14 := NB130_127.out; have hnc14 := NB127_130.out; have hcz15_0 : w8.cell? ⟨gb130, 0, none⟩ = some (.slice none 0 0) := (blk_cell BK130.out 0).trans rfl; have hfz15_0 := blk_frozen BK130.out 0) | (go_at_call 80; (with_reducible refine (F80.calls k1 _ _ ((rd_T102 l0_1 x9_1).f0)  t132 _ ?s1 ?s2 A13.out).mono ?_); (case s1 => exact Kd.C_below HR129_0.out bl_); (case s2 => exact HC129_0.out); rintro e w' ⟨rfl, ⟨nd, rfl⟩⟩))
    go_meet
    case rel => exact ⟨_, (t132), er_, H', ⟨au1_10⟩, ⟨bf_ BK127⟩, ⟨bq_ BK130⟩, ⟨bl_⟩⟩
   case rest =>
    clear HC7
    try clear c4b0
    try clear c5b0
    try clear c6b0
    try clear hcz10_0
    try clear hcz15_0
    try clear hcz3_0 hcz3_1
    try clear hfz10_0
    try clear hfz15_0
    try clear hfz3_0 hfz3_1
    try clear hx129_0
    try clear p129
    try clear q129
    obtain ⟨kq, x24_6, rfl, HA, HJ6, BK127, BK130, HB⟩ := hcut
    cases kq with
    | zero => exact absurd HA.out (by simp [F36.j1])
    | succ kj6 =>
     have H := HA.out
     clear HA
     simp only [F36.j1] at H
     replace H := ib_ H; rcases H with ⟨rfl, H⟩ | ⟨rfl, H⟩
     ·obtain rfl := Option.some.inj H
      go_wp2
      go_ret
      exact ⟨au1_0, bl_⟩
     obtain ⟨ji17, hji17⟩ : ∃ j_ : Int, (wrap64 ((((rd_T102 l0_1 x9_1).f0).length : Int) - 1)) = j_ := ⟨_, rfl⟩
     replace H : (if 0 ≤ (ji17) then (if (ji17) < (((rd_T102 l0_1 x9_1).f0).length : Int) then (if (rdOf ByteArray.empty ((rd_T102 l0_1 x9_1).f0) (ji17)).toList = ([] : List UInt8) then (if (((rd_T102 l0_1 x9_1).f0).length : Int) > 1 then (some false) else (if x9_1 = (wrap64 ((l0_1.length : Int) - 1)) then (some false) else (F36.l0 kj6 l0_1 (l0_1.length : Int) (wrap64 (x9_1 + 1)) a0_0 l0_1))) else (F36.l0 kj6 l0_1 (l0_1.length : Int) (wrap64 (x9_1 + 1)) a0_0 l0_1)) else (none)) else (none)) = some r := by first | (rw [hji17] at H; exact H) | (simp only [hji17] at H ⊢; exact H)
     have hji17w : (IntKind.i64.wrap ((((rd_T102 l0_1 x9_1).f0).length : Int) - 1)) = ji17 := (i64_w _).trans hji17
     replace H := itn_ H; rcases H with ⟨c18b0, H⟩
     replace H := itn_ H; rcases H with ⟨c19b0, H⟩
     by_cases c20 : (rdOf ByteArray.empty ((rd_T102 l0_1 x9_1).f0) (ji17)).toList = ([] : List UInt8)
     rotate_left
     ·rw [if_neg c20] at H
      have c20b0 : ((rdOf ByteArray.empty ((rd_T102 l0_1 x9_1).f0) (ji17)).toList == ([] : List UInt8)) = false := beq_eq_false_iff_ne.mpr c20
      have c20b1 : ((rdOf ByteArray.empty ((rd_T102 l0_1 x9_1).f0) (ji17)).toList != ([] : List UInt8)) = true := bne_iff_ne.mpr c20
      have H' := am_ H
      clear H
      have hnb31 := NB130_127.out
      have hnc31 := NB127_130.out
      have hcz32_0 : wc.cell? ⟨gb130, 0, none⟩ = some (.slice A129_0 ((rd_T102 l0_1 x9_1).f0).length c129_0) := (blk_cell BK130.out 0).trans rfl
      have hfz32_0 := blk_frozen BK130.out 0
      have p133 : 0 ≤ ((ji17) : Int) := od_
      have q133 : (ji17) < (((rd_T102 l0_1 x9_1).f0).length : Int) := od_
      obtain ⟨ad133, e133, hx133_0⟩ := Kd.at_string HR129_0.out (ji17) p133 q133
      cases e133
      replace hx133_0 := (HB.out.cell (World.block_lt_of_cell? _ _ hx133_0)).trans hx133_0
      replace p133 := eq_true p133
      replace q133 := eq_true q133
      go_wp2
      go_roundg kj6
      case measure => have := HK1.out; have := HJ6.out; omega
      case rel => exact ⟨(wrap64 (x9_1 + 1)), er_, H', ⟨by have := HK1.out; have := HJ6.out; omega⟩, ⟨bk_ BK127⟩, ⟨bl_⟩⟩
     rw [if_pos c20] at H
     have c20b0 : ((rdOf ByteArray.empty ((rd_T102 l0_1 x9_1).f0) (ji17)).toList == ([] : List UInt8)) = true := beq_iff_eq.mpr c20
     have c20b1 : ((rdOf ByteArray.empty ((rd_T102 l0_1 x9_1).f0) (ji17)).toList != ([] : List UInt8)) = false := bne_eq_false_iff_eq.mpr c20
     clear c20
     replace H := it_ H; rcases H with ⟨(c21b0 : decide (1 < (((rd_T102 l0_1 x9_1).f0).length : Int)) = true), H⟩ | ⟨(c21b0 : decide (1 < (((rd_T102 l0_1 x9_1).f0).length : Int)) = false), H⟩
     ·have c21b1 : decide (1 < ((rd_T102 l0_1 x9_1).f0).length) = true := n2_ c21b0
      obtain rfl := Option.some.inj H
      have hnb22 := NB130_127.out
      have hnc22 := NB127_130.out
      have hcz23_0 : wc.cell? ⟨gb130, 0, none⟩ = some (.slice A129_0 ((rd_T102 l0_1 x9_1).f0).length c129_0) := (blk_cell BK130.out 0).trans rfl
      have hfz23_0 := blk_frozen BK130.out 0
      have p133 : 0 ≤ ((ji17) : Int) := od_
      have q133 : (ji17) < (((rd_T102 l0_1 x9_1).f0).length : Int) := od_
      obtain ⟨ad133, e133, hx133_0⟩ := Kd.at_string HR129_0.out (ji17) p133 q133
      cases e133
      replace hx133_0 := (HB.out.cell (World.block_lt_of_cell? _ _ hx133_0)).trans hx133_0
      replace p133 := eq_true p133
      replace q133 := eq_true q133
      go_wp2
      go_ret
      exact ⟨au1_7, bl_⟩
     have c21b1 : decide (1 < ((rd_T102 l0_1 x9_1).f0).length) = false := n2_ c21b0
     by_cases c24 : x9_1 = (wrap64 ((l0_1.length : Int) - 1))
     ·rw [if_pos c24] at H
      have c24b0 : (x9_1 == (wrap64 ((l0_1.length : Int) - 1))) = true := beq_iff_eq.mpr c24
      have c24b1 : (x9_1 != (wrap64 ((l0_1.length : Int) - 1))) = false := bne_eq_false_iff_eq.mpr c24
      clear c24
      obtain rfl := Option.some.inj H
      have hnb25 := NB130_127.out
      have hnc25 := NB127_130.out
      have hcz26_0 : wc.cell? ⟨gb130, 0, none⟩ = some (.slice A129_0 ((rd_T102 l0_1 x9_1).f0).length c129_0) := (blk_cell BK130.out 0).trans rfl
      have hfz26_0 := blk_frozen BK130.out 0
      have p133 : 0 ≤ ((ji17) : Int) := od_
      have q133 : (ji17) < (((rd_T102 l0_1 x9_1).f0).length : Int) := od_
      obtain ⟨ad133, e133, hx133_0⟩ := Kd.at_string HR129_0.out (ji17) p133 q133
      cases e133
      replace hx133_0 := (HB.out.cell (World.block_lt_of_cell? _ _ hx133_0)).trans hx133_0
      replace p133 := eq_true p133
      replace q133 := eq_true q133
      obtain ⟨hcz27_0, hcz27_1, hfz27_0, hfz27_1⟩ := cellsF2 BK127.out
      go_wp2
      go_ret
      exact ⟨au1_7, bl_⟩
     rw [if_neg c24] at H
     have c24b0 : (x9_1 == (wrap64 ((l0_1.length : Int) - 1))) = false := beq_eq_false_iff_ne.mpr c24
     have c24b1 : (x9_1 != (wrap64 ((l0_1.length : Int) - 1))) = true := bne_iff_ne.mpr c24
     have H' := am_ H
     clear H
     have hnb28 := NB130_127.out
     have hnc28 := NB127_130.out
     have hcz29_0 : wc.cell? ⟨gb130, 0, none⟩ = some (.slice A129_0 ((rd_T102 l0_1 x9_1).f0).length c129_0) := (blk_cell BK130.out 0).trans rfl
     have hfz29_0 := blk_frozen BK130.out 0
     have p133 : 0 ≤ ((ji17) : Int) := od_
     have q133 : (ji17) < (((rd_T102 l0_1 x9_1).f0).length : Int) := od_
     obtain ⟨ad133, e133, hx133_0⟩ := Kd.at_string HR129_0.out (ji17) p133 q133
     cases e133
     replace hx133_0 := (HB.out.cell (World.block_lt_of_cell? _ _ hx133_0)).trans hx133_0
     replace p133 := eq_true p133
     replace q133 := eq_true q133
     obtain ⟨hcz30_0, hcz30_1, hfz30_0, hfz30_1⟩ := cellsF2 BK127.out
     go_wp2
     go_roundg kj6
     case measure => have := HK1.out; have := HJ6.out; omega
     case rel => exact ⟨(wrap64 (x9_1 + 1)), er_, H', ⟨by have := HK1.out; have := HJ6.out; omega⟩, ⟨bk_ BK127⟩, ⟨bl_⟩⟩
/-! ### F102: function 102 -/
def F102.f (a0_0 : Int) (a0_1 : Int) (a0_2 : Int) (a0_3 : Int) : Option (List Int) := some (([a0_0, a0_1, a0_2, a0_3] : List Int))
theorem F102.calls (a0_0 : Int) (a0_1 : Int) (a0_2 : Int) (a0_3 : Int) (r : List Int) (w : World) (h : F102.f a0_0 a0_1 a0_2 a0_3 = some r) :
  Calls Try.prog 102 #[.agg #[.int .i64 a0_0, .int .i64 a0_1, .int .i64 a0_2, .int .i64 a0_3]] w fun e w' => ∃ v0_ : Value, e = .returned (v0_) ∧ Kd.R (Kd.int .i64) 2 w' w.heap.size (fun _ => True) v0_ r ∧ Below w.heap.size w w' := by
 have hu23 := Try.underlying23
 have HB := am_ (Below.refl w.heap.size w)
 have H : (some (([a0_0, a0_1, a0_2, a0_3] : List Int))) = some r := h
 clear h
 obtain ⟨y135, hy135⟩ : ∃ y_ : List Int, y_ = (([a0_0, a0_1, a0_2, a0_3] : List Int)) := ⟨_, rfl⟩
 replace H : (some y135) = some r := by first | (rw [hy135]; exact H) | exact H
 have Ny135 := am_ hy135
 clear hy135
 obtain rfl := Option.some.inj H
 go_enter Try.func102, Try.ntmps102
 go_wp2_with (first | ((with_reducible refine gate_dst (N := 1) rfl ?_); refine be_ 1 #[.int .i64 a0_0, .int .i64 a0_1, .int .i64 a0_2, .int .i64 a0_3] 23 ?_; intro gb134 hg w2 hbox hb; have BK134 := am_ (hbox); have GW134 := am_ (gw_ hg bl_); have GE134 := GW134; replace HB := hs_ w hb; clear hb hbox hg; obtain ⟨hcz3_0, hcz3_1, hcz3_2, hcz3_3, hfz3_0, hfz3_1, hfz3_2, hfz3_3⟩ := cellsF4 BK134.out) | ((with_reducible refine gate_dst (N := 11) rfl ?_); refine Kd.R_lit (Kd.int .i64) _ 2 ?hg (N := 11) ?hd (xs := ([a0_0, a0_1, a0_2, a0_3] : List Int)) (inner := [.int .i64 a0_0, .int .i64 a0_1, .int .i64 a0_2, .int .i64 a0_3]) (ok := fun _ => True) (okp := fun _ => True) ?hr ?hp (fun _ hk => hk) trivial (Below.refl _ _) (Nat.le_refl _) (by simp) ?_; (case hd => rfl); (case hg => rfl); (case hr => exact hr_); (case hp => exact au1_1); intro v136 w4 ho5 hb hg_ hnew_; clear hg_ hnew_; (first | rw [← Ny135.out] at ho5 | (simp only [Int.reduceToNat] at ho5; rw [← Ny135.out] at ho5)); have HO137 := am_ (Kd.R_lower ho5 (below_size bl_)); replace BK134 := bb_ BK134 hb; replace HB := hs_ w hb; clear hb ho5))
 go_ret
 exact ⟨_, au1_0, rk_ HO137, bl_⟩

/-! ### F120: function 120 -/
def F120.l0 : Nat → List Int → Int → Int → Int → Option (Int)
  | 0, _, _, _, _ => none
  | k + 1, x0, x1, x7, x8 => if x8 < x7 then (if 0 ≤ x8 then (if x8 < (x0.length : Int) then (if x1 = (rd x0 x8) then (some x8) else (F120.l0 k x0 x1 x7 (wrap64 (x8 + 1)))) else (none)) else (none)) else (some (-1))
def F120.f (k : Nat) (l0 : List Int) (a1 : Int) : Option (Int) := F120.l0 k l0 a1 (l0.length : Int) 0
theorem F120.mono_l : ∀ k, (∀ y0 y1 y2 y3, LeO (F120.l0 k y0 y1 y2 y3) (F120.l0 (k + 1) y0 y1 y2 y3))
 | 0 => fun _ _ _ _ r h => by simp [F120.l0] at h
 | k + 1 => by
  have ih0 := F120.mono_l k
  intro y0 y1 y2 y3
  unfold F120.l0
  repeat' with_reducible first | exact ih0 _ _ _ _ | exact LeO.refl _ | exact LeO.none _ | refine LeO.ite ?_ ?_ | refine LeO.bind ?_ (fun _ => ?_)
theorem F120.mono : ∀ a0 a1 k, LeO (F120.f k a0 a1) (F120.f (k + 1) a0 a1) := by
 intro a0 a1 k
 have ih0 := F120.mono_l k
 unfold F120.f
 repeat' with_reducible first | exact ih0 _ _ _ _ | exact LeO.refl _ | exact LeO.none _ | refine LeO.ite ?_ ?_ | refine LeO.bind ?_ (fun _ => ?_)
theorem F120.calls (k : Nat) (A0 : Option Addr) (c0 : Nat) (l0 : List Int) (a1 : Int) (r : Int) (w : World) (hr0 : Kd.C (Kd.int .i64) w A0 l0.length l0) (hc0 : l0.length ≤ c0) (h : F120.f k l0 a1 = some r) :
  Calls Try.prog 120 #[.slice A0 l0.length c0, .int .i64 a1] w fun e w' => e = .returned (.int .i64 r) ∧ Drawn0 w w' := by
 have HR0 := am_ hr0
 have HC0 := am_ hc0
 clear hr0 hc0
 have H : (F120.l0 k l0 a1 (l0.length : Int) 0) = some r := h
 clear h
 have H' := am_ H
 clear H
 go_enter Try.func120, Try.ntmps120
 go_wp2
 go_loopg [8] k (fun kq v8 w' => ∃ (x8_1 : Int), v8 = .int .i64 x8_1 ∧ Aside0 (F120.l0 kq l0 a1 (l0.length : Int) x8_1 = some r) ∧ Aside0 (kq ≤ k) ∧ Drawn0 w w')
 case atStart => exact ⟨(0), er_, H', ⟨Nat.le_refl _⟩, dn_⟩
 case round =>
  clear H'
  obtain ⟨x8_1, rfl, HA, HK1, ⟨m1, rfl⟩⟩ := hrel
  cases gk with
  | zero => exact absurd HA.out (by simp [F120.l0])
  | succ k1 =>
   have H := HA.out
   clear HA
   simp only [F120.l0] at H
   replace H := it_ H; rcases H with ⟨c3b0, H⟩ | ⟨c3b0, H⟩
   rotate_left
   ·obtain rfl := Option.some.inj H
    go_wp2
    go_ret
    exact ⟨er_, dn_⟩

   replace H := itn_ H; rcases H with ⟨c4b0, H⟩
   replace H := itn_ H; rcases H with ⟨c5b0, H⟩
   by_cases c6 : a1 = (rd l0 x8_1)
   ·rw [if_pos c6] at H
    have c6b0 : (a1 == (rd l0 x8_1)) = true := beq_iff_eq.mpr c6
    have c6b1 : (a1 != (rd l0 x8_1)) = false := bne_eq_false_iff_eq.mpr c6
    clear c6
    obtain rfl := Option.some.inj H
    have p138 : 0 ≤ (x8_1 : Int) := od_
    have q138 : x8_1 < (l0.length : Int) := od_
    obtain ⟨ad138, e138, hx138_0⟩ := Kd.at_int HR0.out x8_1 p138 q138
    cases e138
    replace p138 := eq_true p138
    replace q138 := eq_true q138
    go_wp2
    go_ret
    exact ⟨er_, dn_⟩
   rw [if_neg c6] at H
   have c6b0 : (a1 == (rd l0 x8_1)) = false := beq_eq_false_iff_ne.mpr c6
   have c6b1 : (a1 != (rd l0 x8_1)) = true := bne_iff_ne.mpr c6
   have H' := am_ H
   clear H
   have p138 : 0 ≤ (x8_1 : Int) := od_
   have q138 : x8_1 < (l0.length : Int) := od_
   obtain ⟨ad138, e138, hx138_0⟩ := Kd.at_int HR0.out x8_1 p138 q138
   cases e138
   replace p138 := eq_true p138
   replace q138 := eq_true q138
   go_wp2
   go_roundg k1
   case measure => have := HK1.out; omega
   case rel => exact ⟨(wrap64 (x8_1 + 1)), er_, H', ⟨by have := HK1.out; omega⟩, dn_⟩
/-! ### F103: function 103 -/
def F103.f (k : Nat) (l0 : List Int) (a1 : Int) : Option (Bool) := (F120.f k l0 a1).bind fun t139 => (some (decide (t139 ≥ 0)))
theorem F103.mono : ∀ a0 a1 k, LeO (F103.f k a0 a1) (F103.f (k + 1) a0 a1) := by
 intro a0 a1 k
 unfold F103.f
 repeat' with_reducible first | exact F120.mono _ _ _ | exact LeO.refl _ | exact LeO.none _ | refine LeO.ite ?_ ?_ | refine LeO.bind ?_ (fun _ => ?_)
theorem F103.calls (k : Nat) (A0 : Option Addr) (c0 : Nat) (l0 : List Int) (a1 : Int) (r : Bool) (w : World) (hr0 : Kd.C (Kd.int .i64) w A0 l0.length l0) (hc0 : l0.length ≤ c0) (h : F103.f k l0 a1 = some r) :
  Calls Try.prog 103 #[.slice A0 l0.length c0, .int .i64 a1] w fun e w' => e = .returned (.bool r) ∧ Drawn0 w w' := by
 have HR0 := am_ hr0
 have HC0 := am_ hc0
 clear hr0 hc0
 have H : ((F120.f k l0 a1).bind fun t139 => (some (decide (t139 ≥ 0)))) = some r := h
 clear h
 replace H := bi_ H; rcases H with ⟨t139, A3, H⟩
 obtain rfl := Option.some.inj H
 go_enter Try.func103, Try.ntmps103
 go_wp2_with (first | ((with_reducible refine gate_callee (f := 120) rfl ?_); refine gl_ 7 Try.func120 #[.slice A0 l0.length c0, .int .i64 a1] ?_ rfl rfl rfl rfl; (with_reducible refine (F120.calls k _ _ l0 a1 t139 _ ?s1 ?s2 A3.out).mono ?_); (case s1 => exact au1_9); (case s2 => exact HC0.out); rintro e w' ⟨rfl, ⟨nd, rfl⟩⟩; refine ⟨_, rfl, ?_⟩))
 go_ret
 exact ⟨er_, dn_⟩

/-! ### F105: function 105 -/
def F105.f (a0 : Int) : Option (Bool) := if a0 ≥ 48 then (some (decide (a0 ≤ 57))) else (some false)
theorem F105.calls (a0 : Int) (r : Bool) (w : World) (h : F105.f a0 = some r) :
  Calls Try.prog 105 #[.int .u8 a0] w fun e w' => e = .returned (.bool r) ∧ Drawn0 w w' := by
 have H : (if a0 ≥ 48 then (some (decide (a0 ≤ 57))) else (some false)) = some r := h
 clear h
 replace H := it_ H; rcases H with ⟨(c2b0 : decide (48 ≤ a0) = true), H⟩ | ⟨(c2b0 : decide (48 ≤ a0) = false), H⟩
 ·obtain rfl := Option.some.inj H
  go_enter Try.func105, Try.ntmps105
  go_wp2
  go_ret
  exact ⟨er_, dn_⟩
 obtain rfl := Option.some.inj H
 go_enter Try.func105, Try.ntmps105
 go_wp2
 go_ret
 exact ⟨er_, dn_⟩

/-! ### F60: function 60 -/
mutual
def F60.l0 : Nat → List Int → List Int → Int → Int → Option (Bool)
  | 0, _, _, _, _ => none
  | k + 1, x3, x9, x10, x11 => if x11 < x10 then (if 0 ≤ x11 then (if x11 < (x9.length : Int) then ((F79.f (rd x9 x11) 33 126).bind fun t145 => (if t145 = true then (if x11 ≤ (x3.length : Int) then ((F103.f k (x3.take (x11 : Int).toNat) (rd x9 x11)).bind fun t150 => (F60.j1 k x3 (rd x9 x11) x9 x10 x11 t150)) else (none)) else (F60.j1 k x3 (rd x9 x11) x9 x10 x11 true))) else (none)) else (none)) else (some true)
def F60.j1 : Nat → List Int → Int → List Int → Int → Int → Bool → Option (Bool)
  | 0, _, _, _, _, _, _ => none
  | k + 1, x3, x5, x9, x10, x11, x25 => if x25 = true then (some false) else ((F104.f ((x5) % 256)).bind fun t151 => (if t151 = true then (some false) else (if ((x5) % 256) ≥ 97 then (if ((x5) % 256) ≤ 122 then (some false) else ((F105.f ((x5) % 256)).bind fun t152 => (if t152 = true then (some false) else (if ((x5) % 256) = 45 then (some false) else (F60.l0 k x3 x9 x10 (wrap64 (x11 + 1))))))) else ((F105.f ((x5) % 256)).bind fun t153 => (if t153 = true then (some false) else (if ((x5) % 256) = 45 then (some false) else (F60.l0 k x3 x9 x10 (wrap64 (x11 + 1)))))))))
end
def F60.f (k : Nat) (a0_0 : Int) (a0_1 : Int) (a0_2 : Int) (a0_3 : Int) : Option (Bool) := (F102.f a0_0 a0_1 a0_2 a0_3).bind fun t141 => (F60.l0 k t141 t141 (t141.length : Int) 0)
theorem F60.mono_l : ∀ k, (∀ y0 y1 y2 y3, LeO (F60.l0 k y0 y1 y2 y3) (F60.l0 (k + 1) y0 y1 y2 y3)) ∧ (∀ y0 y1 y2 y3 y4 y5, LeO (F60.j1 k y0 y1 y2 y3 y4 y5) (F60.j1 (k + 1) y0 y1 y2 y3 y4 y5))
 | 0 => ⟨fun _ _ _ _ r h => by simp [F60.l0] at h, fun _ _ _ _ _ _ r h => by simp [F60.j1] at h⟩
 | k + 1 => by
  obtain ⟨ih0, ih1⟩ := F60.mono_l k
  refine ⟨?_, ?_⟩
  rotate_left
  ·intro y0 y1 y2 y3 y4 y5
   unfold F60.j1
   repeat' with_reducible first | exact ih0 _ _ _ _ | exact ih1 _ _ _ _ _ _ | exact F103.mono _ _ _ | exact LeO.refl _ | exact LeO.none _ | refine LeO.ite ?_ ?_ | refine LeO.bind ?_ (fun _ => ?_)
  intro y0 y1 y2 y3
  unfold F60.l0
  repeat' with_reducible first | exact ih0 _ _ _ _ | exact ih1 _ _ _ _ _ _ | exact F103.mono _ _ _ | exact LeO.refl _ | exact LeO.none _ | refine LeO.ite ?_ ?_ | refine LeO.bind ?_ (fun _ => ?_)
theorem F60.mono : ∀ a0 a1 a2 a3 k, LeO (F60.f k a0 a1 a2 a3) (F60.f (k + 1) a0 a1 a2 a3) := by
 intro a0 a1 a2 a3 k
 obtain ⟨ih0, ih1⟩ := F60.mono_l k
 unfold F60.f
 repeat' with_reducible first | exact ih0 _ _ _ _ | exact ih1 _ _ _ _ _ _ | exact F103.mono _ _ _ | exact LeO.refl _ | exact LeO.none _ | refine LeO.ite ?_ ?_ | refine LeO.bind ?_ (fun _ => ?_)
theorem F60.calls (k : Nat) (a0_0 : Int) (a0_1 : Int) (a0_2 : Int) (a0_3 : Int) (r : Bool) (w : World) (h : F60.f k a0_0 a0_1 a0_2 a0_3 = some r) :
  Calls Try.prog 60 #[.agg #[.int .i64 a0_0, .int .i64 a0_1, .int .i64 a0_2, .int .i64 a0_3]] w fun e w' => e = .returned (.bool r) ∧ Below w.heap.size w w' := by
 have hu23 := Try.underlying23
 have HB := am_ (Below.refl w.heap.size w)
 have H : ((F102.f a0_0 a0_1 a0_2 a0_3).bind fun t141 => (F60.l0 k t141 t141 (t141.length : Int) 0)) = some r := h
 clear h
 replace H := bi_ H; rcases H with ⟨t141, A2, H⟩
 have H' := am_ H
 clear H
 go_enter Try.func60, Try.ntmps60
 go_wp2_with (first | ((with_reducible refine gate_dst (N := 1) rfl ?_); refine be_ 1 #[.int .i64 a0_0, .int .i64 a0_1, .int .i64 a0_2, .int .i64 a0_3] 23 ?_; intro gb140 hg w3 hbox hb; have BK140 := am_ (hbox); have GW140 := am_ (gw_ hg bl_); have GE140 := GW140; replace HB := hs_ w hb; clear hb hbox hg; obtain ⟨hcz4_0, hcz4_1, hcz4_2, hcz4_3, hfz4_0, hfz4_1, hfz4_2, hfz4_3⟩ := cellsF4 BK140.out) | ((with_reducible refine gate_callee (f := 102) rfl ?_); refine gl_ 8 Try.func102 #[.agg #[.int .i64 a0_0, .int .i64 a0_1, .int .i64 a0_2, .int .i64 a0_3]] ?_ rfl rfl rfl rfl; (with_reducible refine (F102.calls a0_0 a0_1 a0_2 a0_3 t141 _ A2.out).mono ?_); rintro e w5 ⟨v142, rfl, ho0, hb⟩; refine ⟨_, rfl, ?_⟩; have HO143 := am_ (Kd.R_lower ho0 (below_size bl_)); replace BK140 := bb_ BK140 hb; replace HB := hs_ w hb; (try clear hb); (try clear ho0); obtain ⟨Ao6, co6, eo6⟩ := Kd.R_slice HO143.out; subst eo6))
 go_loopg [11] k (fun kq v11 w' => ∃ (x11_1 : Int), v11 = .int .i64 x11_1 ∧ Aside0 (F60.l0 kq t141 t141 (t141.length : Int) x11_1 = some r) ∧ Aside0 (kq ≤ k) ∧ Aside0 (Kd.R (Kd.int .i64) 2 w' w.heap.size (fun _ => True) (.slice Ao6 t141.length co6) t141) ∧ Aside0 (Kd.R (Kd.int .i64) 2 w' w.heap.size (fun _ => True) (.slice Ao6 t141.length co6) t141) ∧ Aside0 (w'.heap[gb140]? = some (.cells #[.int .i64 a0_0, .int .i64 a0_1, .int .i64 a0_2, .int .i64 a0_3] 23 (0, 0))) ∧ Aside0 (Below w.heap.size w w'))
 case atStart => exact ⟨(0), er_, H', ⟨Nat.le_refl _⟩, ⟨rk_ HO143⟩, ⟨rk_ HO143⟩, ⟨bk_ BK140⟩, ⟨bl_⟩⟩
 case round =>
  clear H'
  try clear hcz4_0 hcz4_1 hcz4_2 hcz4_3
  try clear hfz4_0 hfz4_1 hfz4_2 hfz4_3
  obtain ⟨x11_1, rfl, HA, HK1, HO_3, HO_9, BK140, HB⟩ := hrel
  cases gk with
  | zero => exact absurd HA.out (by simp [F60.l0])
  | succ k1 =>
   have H := HA.out
   clear HA
   simp only [F60.l0] at H
   replace H := it_ H; rcases H with ⟨c7b0, H⟩ | ⟨c7b0, H⟩
   rotate_left
   ·obtain rfl := Option.some.inj H
    go_wp2
    go_ret
    exact ⟨au1_0, bl_⟩

   replace H := itn_ H; rcases H with ⟨c8b0, H⟩
   replace H := itn_ H; rcases H with ⟨c9b0, H⟩
   have HC10 := am_ H
   clear H
   have p144 : 0 ≤ (x11_1 : Int) := od_
   have q144 : x11_1 < (t141.length : Int) := od_
   obtain ⟨ad144, e144, hx144_0⟩ := Kd.at_int (Kd.R_reads' HO_9.out).2.2 x11_1 p144 q144
   cases e144
   replace p144 := eq_true p144
   replace q144 := eq_true q144
   go_upto_region 5 with (fail)
   go_cut [25] (fun v25 wc => ∃ (kq : Nat) (x25_9 : Bool), v25 = .bool x25_9 ∧ Aside0 (F60.j1 kq t141 (rd t141 x11_1) t141 (t141.length : Int) x11_1 x25_9 = some r) ∧ Aside0 (kq ≤ k1) ∧ Aside0 (Kd.R (Kd.int .i64) 2 wc w.heap.size (fun _ => True) (.slice (some ad144) t141.length co6) t141) ∧ Aside0 (Kd.R (Kd.int .i64) 2 wc w.heap.size (fun _ => True) (.slice (some ad144) t141.length co6) t141) ∧ Aside0 (wc.heap[gb140]? = some (.cells #[.int .i64 a0_0, .int .i64 a0_1, .int .i64 a0_2, .int .i64 a0_3] 23 (0, 0))) ∧ Aside0 (Below w.heap.size w wc))
   case first =>
    have H := HC10.out
    clear HC10
    replace H := bi_ H; rcases H with ⟨t145, A11, H⟩
    replace H := ib_ H; rcases H with ⟨rfl, H⟩ | ⟨rfl, H⟩
    rotate_left
    ·have H' := am_ H
     clear H
     go_wp2_with (first | ((with_reducible refine gate_callee (f := 79) rfl ?_); refine gl_ 17 Try.func79 #[.int .i64 (rd t141 x11_1), .int .i64 33, .int .i64 126] ?_ rfl rfl rfl rfl; (with_reducible refine (F79.calls (rd t141 x11_1) 33 126 false _ A11.out).mono ?_); rintro e w' ⟨rfl, ⟨nd, rfl⟩⟩; refine ⟨_, rfl, ?_⟩))
     go_meet
     case rel => exact ⟨_, (true), er_, H', ⟨au1_10⟩, ⟨rk_ HO_3⟩, ⟨rk_ HO_9⟩, ⟨bk_ BK140⟩, ⟨bl_⟩⟩
    have c13b0 := eq_true (of_decide_eq_true as_ : 0 ≤ x11_1)
    by_cases c14 : x11_1 ≤ (t141.length : Int)
    rotate_left
    ·rw [if_neg c14] at H
     exact absurd H (by simp)
    rw [if_pos c14] at H
    have c14b0 := eq_true c14
    have c14b1 : decide (x11_1 ≤ (t141.length : Int)) = true := decide_eq_true c14
    clear c14
    obtain ⟨y146, hy146⟩ : ∃ y_ : List Int, y_ = (t141.take (x11_1 : Int).toNat) := ⟨_, rfl⟩
    replace H : ((F103.f k1 y146 (rd t141 x11_1)).bind fun t150 => (F60.j1 k1 t141 (rd t141 x11_1) t141 (t141.length : Int) x11_1 t150)) = some r := by first | (rw [hy146]; exact H) | exact H
    have Ny146 := am_ hy146
    clear hy146
    replace H := bi_ H; rcases H with ⟨t150, A15, H⟩
    have H' := am_ H
    clear H
    go_wp2_with (first | ((with_reducible refine gate_callee (f := 79) rfl ?_); refine gl_ 17 Try.func79 #[.int .i64 (rd t141 x11_1), .int .i64 33, .int .i64 126] ?_ rfl rfl rfl rfl; (with_reducible refine (F79.calls (rd t141 x11_1) 33 126 true _ A11.out).mono ?_); rintro e w' ⟨rfl, ⟨nd, rfl⟩⟩; refine ⟨_, rfl, ?_⟩; have q16 : (x11_1 : Int) ≤ ((t141.length : Int) : Int) := od_; obtain ⟨i016, hi016, _, hsz16, _⟩ := info_parts info2; have hroom16 : t141.length ≤ co6 := (Kd.R_reads' HO_3.out).2.1; have hC16 : Kd.C (Kd.int .i64) _ (some ad144) t141.length t141 := (Kd.R_reads' HO_3.out).2.2; have hcut16 := cut_to (P := Try.prog) 93 2 .i64 Try.underlying93 hi016 (some ad144) t141.length co6 x11_1 (of_decide_eq_true as_) q16 hroom16; have hr16 := Kd.C_take (m := (x11_1 : Int).toNat) hC16 (by omega); have hy16 : y146.length = (x11_1 : Int).toNat := (by rw [Ny146.out, List.length_take]; omega); rw [← Ny146.out] at hr16; rw [← hy16] at hcut16; have HR149 := am_ hr16; have HC149 := am_ (show y146.length ≤ co6 from by omega); clear hr16 hC16 hroom16 hi016 hsz16; have KY16 := am_ hy16; clear hy16; have KL16 := am_ (show (x11_1 : Int).toNat ≤ t141.length from by omega); replace q16 := eq_true q16) | (go_at_call 103; (with_reducible refine (F103.calls k1 _ _ y146 (rd t141 x11_1) t150 _ ?s1 ?s2 A15.out).mono ?_); (case s1 => repeat (first | exact (by repeat (first | (with_reducible exact HR149.out) | (with_reducible refine Kd.C_alloc ?_ _) | (with_reducible refine Kd.C_drewN ?_ _) | (with_reducible refine Kd.C_drew ?_) | exact HR149.out)) | (with_reducible refine Kd.C_alloc ?_ _) | (with_reducible refine Kd.C_drewN ?_ _) | (with_reducible refine Kd.C_drew ?_))); (case s2 => exact HC149.out); rintro e w' ⟨rfl, ⟨nd, rfl⟩⟩))
    go_meet
    case rel => exact ⟨_, (t150), er_, H', ⟨au1_10⟩, ⟨rk_ HO_3⟩, ⟨rk_ HO_9⟩, ⟨bk_ BK140⟩, ⟨bl_⟩⟩
   case rest =>
    clear HC10
    try clear c7b0
    try clear c8b0
    try clear c9b0
    try clear c13b0
    try clear c14
    try clear c14b0
    try clear c14b1
    try clear q16
    try clear hcz4_0 hcz4_1 hcz4_2 hcz4_3
    try clear hfz4_0 hfz4_1 hfz4_2 hfz4_3
    try clear hx144_0
    try clear p144
    try clear q144
    try clear q16
    obtain ⟨kq, x25_9, rfl, HA, HJ9, HO_3, HO_9, BK140, HB⟩ := hcut
    cases kq with
    | zero => exact absurd HA.out (by simp [F60.j1])
    | succ kj9 =>
     have H := HA.out
     clear HA
     simp only [F60.j1] at H
     replace H := ib_ H; rcases H with ⟨rfl, H⟩ | ⟨rfl, H⟩
     ·obtain rfl := Option.some.inj H
      go_wp2
      go_ret
      exact ⟨au1_0, bl_⟩
     replace H := bi_ H; rcases H with ⟨t151, A18, H⟩
     replace H := ib_ H; rcases H with ⟨rfl, H⟩ | ⟨rfl, H⟩
     ·obtain rfl := Option.some.inj H
      go_wp2_with (first | ((with_reducible refine gate_callee (f := 104) rfl ?_); refine gl_ 29 Try.func104 #[.int .u8 (((rd t141 x11_1)) % 256)] ?_ rfl rfl rfl rfl; (with_reducible refine (F104.calls (((rd t141 x11_1)) % 256) true _ A18.out).mono ?_); rintro e w' ⟨rfl, ⟨nd, rfl⟩⟩; refine ⟨_, rfl, ?_⟩))
      go_ret
      exact ⟨au1_0, bl_⟩
     replace H := it_ H; rcases H with ⟨(c20b0 : decide (97 ≤ (((rd t141 x11_1)) % 256)) = true), H⟩ | ⟨(c20b0 : decide (97 ≤ (((rd t141 x11_1)) % 256)) = false), H⟩
     rotate_left
     ·replace H := bi_ H; rcases H with ⟨t153, A25, H⟩
      replace H := ib_ H; rcases H with ⟨rfl, H⟩ | ⟨rfl, H⟩
      ·obtain rfl := Option.some.inj H
       go_wp2_with (first | ((with_reducible refine gate_callee (f := 104) rfl ?_); refine gl_ 29 Try.func104 #[.int .u8 (((rd t141 x11_1)) % 256)] ?_ rfl rfl rfl rfl; (with_reducible refine (F104.calls (((rd t141 x11_1)) % 256) false _ A18.out).mono ?_); rintro e w' ⟨rfl, ⟨nd, rfl⟩⟩; refine ⟨_, rfl, ?_⟩) | (go_at_call 105; (with_reducible refine (F105.calls (((rd t141 x11_1)) % 256) true _ A25.out).mono ?_); rintro e w' ⟨rfl, ⟨nd, rfl⟩⟩))
       go_ret
       exact ⟨au1_0, bl_⟩
      by_cases c27 : (((rd t141 x11_1)) % 256) = 45
      ·rw [if_pos c27] at H
       have c27b0 : ((((rd t141 x11_1)) % 256) == 45) = true := beq_iff_eq.mpr c27
       have c27b1 : ((((rd t141 x11_1)) % 256) != 45) = false := bne_eq_false_iff_eq.mpr c27
       clear c27
       obtain rfl := Option.some.inj H
       go_wp2_with (first | ((with_reducible refine gate_callee (f := 104) rfl ?_); refine gl_ 29 Try.func104 #[.int .u8 (((rd t141 x11_1)) % 256)] ?_ rfl rfl rfl rfl; (with_reducible refine (F104.calls (((rd t141 x11_1)) % 256) false _ A18.out).mono ?_); rintro e w' ⟨rfl, ⟨nd, rfl⟩⟩; refine ⟨_, rfl, ?_⟩) | (go_at_call 105; (with_reducible refine (F105.calls (((rd t141 x11_1)) % 256) false _ A25.out).mono ?_); rintro e w' ⟨rfl, ⟨nd, rfl⟩⟩))
       go_ret
       exact ⟨au1_0, bl_⟩
      rw [if_neg c27] at H
      have c27b0 : ((((rd t141 x11_1)) % 256) == 45) = false := beq_eq_false_iff_ne.mpr c27
      have c27b1 : ((((rd t141 x11_1)) % 256) != 45) = true := bne_iff_ne.mpr c27
      have H' := am_ H
      clear H
      go_wp2_with (first | ((with_reducible refine gate_callee (f := 104) rfl ?_); refine gl_ 29 Try.func104 #[.int .u8 (((rd t141 x11_1)) % 256)] ?_ rfl rfl rfl rfl; (with_reducible refine (F104.calls (((rd t141 x11_1)) % 256) false _ A18.out).mono ?_); rintro e w' ⟨rfl, ⟨nd, rfl⟩⟩; refine ⟨_, rfl, ?_⟩) | (go_at_call 105; (with_reducible refine (F105.calls (((rd t141 x11_1)) % 256) false _ A25.out).mono ?_); rintro e w' ⟨rfl, ⟨nd, rfl⟩⟩))
      go_roundg kj9
      case measure => have := HK1.out; have := HJ9.out; omega
      case rel => exact ⟨(wrap64 (x11_1 + 1)), er_, H', ⟨by have := HK1.out; have := HJ9.out; omega⟩, ⟨rk_ HO_3⟩, ⟨rk_ HO_9⟩, ⟨bk_ BK140⟩, ⟨bl_⟩⟩
     replace H := it_ H; rcases H with ⟨c21b0, H⟩ | ⟨c21b0, H⟩
     ·obtain rfl := Option.some.inj H
      go_wp2_with (first | ((with_reducible refine gate_callee (f := 104) rfl ?_); refine gl_ 29 Try.func104 #[.int .u8 (((rd t141 x11_1)) % 256)] ?_ rfl rfl rfl rfl; (with_reducible refine (F104.calls (((rd t141 x11_1)) % 256) false _ A18.out).mono ?_); rintro e w' ⟨rfl, ⟨nd, rfl⟩⟩; refine ⟨_, rfl, ?_⟩))
      go_ret
      exact ⟨au1_0, bl_⟩
     replace H := bi_ H; rcases H with ⟨t152, A22, H⟩
     replace H := ib_ H; rcases H with ⟨rfl, H⟩ | ⟨rfl, H⟩
     ·obtain rfl := Option.some.inj H
      go_wp2_with (first | ((with_reducible refine gate_callee (f := 104) rfl ?_); refine gl_ 29 Try.func104 #[.int .u8 (((rd t141 x11_1)) % 256)] ?_ rfl rfl rfl rfl; (with_reducible refine (F104.calls (((rd t141 x11_1)) % 256) false _ A18.out).mono ?_); rintro e w' ⟨rfl, ⟨nd, rfl⟩⟩; refine ⟨_, rfl, ?_⟩) | (go_at_call 105; (with_reducible refine (F105.calls (((rd t141 x11_1)) % 256) true _ A22.out).mono ?_); rintro e w' ⟨rfl, ⟨nd, rfl⟩⟩))
      go_ret
      exact ⟨au1_0, bl_⟩
     by_cases c24 : (((rd t141 x11_1)) % 256) = 45
     ·rw [if_pos c24] at H
      have c24b0 : ((((rd t141 x11_1)) % 256) == 45) = true := beq_iff_eq.mpr c24
      have c24b1 : ((((rd t141 x11_1)) % 256) != 45) = false := bne_eq_false_iff_eq.mpr c24
      clear c24
      obtain rfl := Option.some.inj H
      go_wp2_with (first | ((with_reducible refine gate_callee (f := 104) rfl ?_); refine gl_ 29 Try.func104 #[.int .u8 (((rd t141 x11_1)) % 256)] ?_ rfl rfl rfl rfl; (with_reducible refine (F104.calls (((rd t141 x11_1)) % 256) false _ A18.out).mono ?_); rintro e w' ⟨rfl, ⟨nd, rfl⟩⟩; refine ⟨_, rfl, ?_⟩) | (go_at_call 105; (with_reducible refine (F105.calls (((rd t141 x11_1)) % 256) false _ A22.out).mono ?_); rintro e w' ⟨rfl, ⟨nd, rfl⟩⟩))
      go_ret
      exact ⟨au1_0, bl_⟩
     rw [if_neg c24] at H
     have c24b0 : ((((rd t141 x11_1)) % 256) == 45) = false := beq_eq_false_iff_ne.mpr c24
     have c24b1 : ((((rd t141 x11_1)) % 256) != 45) = true := bne_iff_ne.mpr c24
     have H' := am_ H
     clear H
     go_wp2_with (first | ((with_reducible refine gate_callee (f := 104) rfl ?_); refine gl_ 29 Try.func104 #[.int .u8 (((rd t141 x11_1)) % 256)] ?_ rfl rfl rfl rfl; (with_reducible refine (F104.calls (((rd t141 x11_1)) % 256) false _ A18.out).mono ?_); rintro e w' ⟨rfl, ⟨nd, rfl⟩⟩; refine ⟨_, rfl, ?_⟩) | (go_at_call 105; (with_reducible refine (F105.calls (((rd t141 x11_1)) % 256) false _ A22.out).mono ?_); rintro e w' ⟨rfl, ⟨nd, rfl⟩⟩))
     go_roundg kj9
     case measure => have := HK1.out; have := HJ9.out; omega
     case rel => exact ⟨(wrap64 (x11_1 + 1)), er_, H', ⟨by have := HK1.out; have := HJ9.out; omega⟩, ⟨rk_ HO_3⟩, ⟨rk_ HO_9⟩, ⟨bk_ BK140⟩, ⟨bl_⟩⟩
/-! ### F106: function 106 -/
def F106.f (k : Nat) (a0_0 : Int) (a0_1 : Int) (a0_2 : Int) (a0_3 : Int) (a1 : Int) : Option (Bool) := (F102.f a0_0 a0_1 a0_2 a0_3).bind fun t155 => ((F103.f k t155 (wrap64 (a1))).bind fun t158 => (some t158))
theorem F106.mono : ∀ a0 a1 a2 a3 a4 k, LeO (F106.f k a0 a1 a2 a3 a4) (F106.f (k + 1) a0 a1 a2 a3 a4) := by
 intro a0 a1 a2 a3 a4 k
 unfold F106.f
 repeat' with_reducible first | exact F103.mono _ _ _ | exact LeO.refl _ | exact LeO.none _ | refine LeO.ite ?_ ?_ | refine LeO.bind ?_ (fun _ => ?_)
theorem F106.calls (k : Nat) (a0_0 : Int) (a0_1 : Int) (a0_2 : Int) (a0_3 : Int) (a1 : Int) (r : Bool) (w : World) (h : F106.f k a0_0 a0_1 a0_2 a0_3 a1 = some r) :
  Calls Try.prog 106 #[.agg #[.int .i64 a0_0, .int .i64 a0_1, .int .i64 a0_2, .int .i64 a0_3], .int .u8 a1] w fun e w' => e = .returned (.bool r) ∧ Below w.heap.size w w' := by
 have hu23 := Try.underlying23
 have HB := am_ (Below.refl w.heap.size w)
 have H : ((F102.f a0_0 a0_1 a0_2 a0_3).bind fun t155 => ((F103.f k t155 (wrap64 (a1))).bind fun t158 => (some t158))) = some r := h
 clear h
 replace H := bi_ H; rcases H with ⟨t155, A3, H⟩
 replace H := bi_ H; rcases H with ⟨t158, A4, H⟩
 obtain rfl := Option.some.inj H
 go_enter Try.func106, Try.ntmps106
 go_wp2_with (first | ((with_reducible refine gate_dst (N := 2) rfl ?_); refine be_ 2 #[.int .i64 a0_0, .int .i64 a0_1, .int .i64 a0_2, .int .i64 a0_3] 23 ?_; intro gb154 hg w5 hbox hb; have BK154 := am_ (hbox); have GW154 := am_ (gw_ hg bl_); have GE154 := GW154; replace HB := hs_ w hb; clear hb hbox hg; obtain ⟨hcz6_0, hcz6_1, hcz6_2, hcz6_3, hfz6_0, hfz6_1, hfz6_2, hfz6_3⟩ := cellsF4 BK154.out) | ((with_reducible refine gate_callee (f := 102) rfl ?_); refine gl_ 6 Try.func102 #[.agg #[.int .i64 a0_0, .int .i64 a0_1, .int .i64 a0_2, .int .i64 a0_3]] ?_ rfl rfl rfl rfl; (with_reducible refine (F102.calls a0_0 a0_1 a0_2 a0_3 t155 _ A3.out).mono ?_); rintro e w7 ⟨v156, rfl, ho0, hb⟩; refine ⟨_, rfl, ?_⟩; have HO157 := am_ (Kd.R_lower ho0 (below_size bl_)); replace BK154 := bb_ BK154 hb; replace HB := hs_ w hb; (try clear hb); (try clear ho0); obtain ⟨Ao8, co8, eo8⟩ := Kd.R_slice HO157.out; subst eo8) | ((with_reducible refine gate_callee (f := 103) rfl ?_); refine gl_ 9 Try.func103 #[.slice Ao8 t155.length co8, .int .i64 (wrap64 (a1))] ?_ rfl rfl rfl rfl; (with_reducible refine (F103.calls k _ _ t155 (wrap64 (a1)) t158 _ ?s1 ?s2 A4.out).mono ?_); (case s1 => repeat (first | exact (Kd.R_reads' HO157.out).2.2 | (with_reducible refine Kd.C_alloc ?_ _) | (with_reducible refine Kd.C_drewN ?_ _) | (with_reducible refine Kd.C_drew ?_))); (case s2 => exact (Kd.R_reads' HO157.out).2.1); rintro e w' ⟨rfl, ⟨nd, rfl⟩⟩; refine ⟨_, rfl, ?_⟩))
 go_ret
 exact ⟨au1_0, bl_⟩

/-! ### F73: function 73 -/
def F73.l0 : Nat → ByteArray → List Int → Int → Int → Int → Int → Int → Int → Option (ByteArray)
  | 0, _, _, _, _, _, _, _, _ => none
  | k + 1, x1, x5, x9, x10, x160000, x160001, x160002, x160003 => if x10 < x9 then (if 0 ≤ x10 then (if x10 < (x1.size : Int) then ((F106.f k x160000 x160001 x160002 x160003 (bt x1 x10)).bind fun t163 => (if t163 = true then (if x5.length < 140737488355328 then ((some (x5 ++ [(x160003) % 256] : List Int)).bind fun y164 => (if y164.length < 140737488355328 then (F73.l0 k x1 (y164 ++ [bt x1 x10]) x9 (wrap64 (x10 + 1)) x160000 x160001 x160002 x160003) else (none))) else (none)) else (if x5.length < 140737488355328 then (F73.l0 k x1 (x5 ++ [bt x1 x10]) x9 (wrap64 (x10 + 1)) x160000 x160001 x160002 x160003) else (none)))) else (none)) else (none)) else (some (strOfNums x5))
def F73.f (k : Nat) (a0_0 : Int) (a0_1 : Int) (a0_2 : Int) (a0_3 : Int) (a1 : ByteArray) : Option (ByteArray) := F73.l0 k a1 (([] : List Int)) (a1.size : Int) 0 a0_0 a0_1 a0_2 a0_3
theorem F73.mono_l : ∀ k, (∀ y0 y1 y2 y3 y4 y5 y6 y7, LeO (F73.l0 k y0 y1 y2 y3 y4 y5 y6 y7) (F73.l0 (k + 1) y0 y1 y2 y3 y4 y5 y6 y7))
 | 0 => fun _ _ _ _ _ _ _ _ r h => by simp [F73.l0] at h
 | k + 1 => by
  have ih0 := F73.mono_l k
  intro y0 y1 y2 y3 y4 y5 y6 y7
  unfold F73.l0
  repeat' with_reducible first | exact ih0 _ _ _ _ _ _ _ _ | exact F106.mono _ _ _ _ _ _ | exact LeO.refl _ | exact LeO.none _ | refine LeO.ite ?_ ?_ | refine LeO.bind ?_ (fun _ => ?_)
theorem F73.mono : ∀ a0 a1 a2 a3 a4 k, LeO (F73.f k a0 a1 a2 a3 a4) (F73.f (k + 1) a0 a1 a2 a3 a4) := by
 intro a0 a1 a2 a3 a4 k
 have ih0 := F73.mono_l k
 unfold F73.f
 repeat' with_reducible first | exact ih0 _ _ _ _ _ _ _ _ | exact F106.mono _ _ _ _ _ _ | exact LeO.refl _ | exact LeO.none _ | refine LeO.ite ?_ ?_ | refine LeO.bind ?_ (fun _ => ?_)
theorem F73.calls (k : Nat) (a0_0 : Int) (a0_1 : Int) (a0_2 : Int) (a0_3 : Int) (a1 : ByteArray) (r : ByteArray) (w : World) (h : F73.f k a0_0 a0_1 a0_2 a0_3 a1 = some r) :
  Calls Try.prog 73 #[.agg #[.int .i64 a0_0, .int .i64 a0_1, .int .i64 a0_2, .int .i64 a0_3], .string a1] w fun e w' => e = .returned (.string r) ∧ Below w.heap.size w w' := by
 have hu23 := Try.underlying23
 have HB := am_ (Below.refl w.heap.size w)
 have H : (F73.l0 k a1 (([] : List Int)) (a1.size : Int) 0 a0_0 a0_1 a0_2 a0_3) = some r := h
 clear h
 obtain ⟨y160, hy160⟩ : ∃ y_ : List Int, y_ = (([] : List Int)) := ⟨_, rfl⟩
 replace H : (F73.l0 k a1 y160 (a1.size : Int) 0 a0_0 a0_1 a0_2 a0_3) = some r := by first | (rw [hy160]; exact H) | exact H
 have Ny160 := am_ hy160
 clear hy160
 have H' := am_ H
 clear H
 go_enter Try.func73, Try.ntmps73
 go_wp2_with (first | ((with_reducible refine gate_dst (N := 2) rfl ?_); refine be_ 2 #[.int .i64 a0_0, .int .i64 a0_1, .int .i64 a0_2, .int .i64 a0_3] 23 ?_; intro gb159 hg w3 hbox hb; have BK159 := am_ (hbox); have GW159 := am_ (gw_ hg bl_); have GE159 := GW159; replace HB := hs_ w hb; clear hb hbox hg) | ((with_reducible refine gate_dst (N := 7) rfl ?_); refine Kd.R_lit (Kd.int .u8) _ 5 ?hg (N := 7) ?hd (xs := ([] : List Int)) (inner := []) (ok := fun _ => True) (okp := fun _ => True) ?hr ?hp (fun _ hk => hk) trivial (Below.refl _ _) (Nat.le_refl _) (by simp) ?_; (case hd => rfl); (case hg => rfl); (case hr => exact hr_); (case hp => exact (Reps.none _ _)); intro v161 w4 ho5 hb hg_ hnew_; clear hg_ hnew_; (first | rw [← Ny160.out] at ho5 | (simp only [Int.reduceToNat] at ho5; rw [← Ny160.out] at ho5)); have HO162 := am_ (Kd.R_lower ho5 (below_size bl_)); replace BK159 := bb_ BK159 hb; replace HB := hs_ w hb; clear hb ho5))
 go_loopg [5, 10] k (fun kq v5 v10 w' => ∃ (x5_1 : List Int) (x10_1 : Int), v10 = .int .i64 x10_1 ∧ Aside0 (F73.l0 kq a1 x5_1 (a1.size : Int) x10_1 a0_0 a0_1 a0_2 a0_3 = some r) ∧ Aside0 (kq ≤ k) ∧ Aside0 (Kd.R (Kd.int .u8) 5 w' w.heap.size (fun _ => True) v5 x5_1) ∧ Aside0 (w'.heap[gb159]? = some (.cells #[.int .i64 a0_0, .int .i64 a0_1, .int .i64 a0_2, .int .i64 a0_3] 23 (0, 0))) ∧ Aside0 (Below w.heap.size w w'))
 case atStart => exact ⟨(y160), (0), er_, H', ⟨Nat.le_refl _⟩, ⟨rk_ HO162⟩, ⟨bk_ BK159⟩, ⟨bl_⟩⟩
 case round =>
  clear H'
  obtain ⟨x5_1, x10_1, rfl, HA, HK1, HO_5, BK159, HB⟩ := hrel
  cases gk with
  | zero => exact absurd HA.out (by simp [F73.l0])
  | succ k1 =>
   have H := HA.out
   clear HA
   simp only [F73.l0] at H
   replace H := it_ H; rcases H with ⟨c6b0, H⟩ | ⟨c6b0, H⟩
   rotate_left
   ·obtain rfl := Option.some.inj H
    have hcv25 := own_string (P := Try.prog) Try.underlying36 Try.underlying5 Try.underlying9 (Kd.own_of_R HO_5.out)
    go_wp2
    go_ret
    exact ⟨au1_0, bl_⟩

   replace H := itn_ H; rcases H with ⟨c7b0, H⟩
   replace H := itn_ H; rcases H with ⟨c8b0, H⟩
   replace H := bi_ H; rcases H with ⟨t163, A10, H⟩
   replace H := ib_ H; rcases H with ⟨rfl, H⟩ | ⟨rfl, H⟩
   rotate_left
   ·replace H := iln_ H; rcases H with ⟨LMc21, H⟩
    obtain ⟨y170, hy170⟩ : ∃ y_ : List Int, y_ = (x5_1 ++ [bt a1 x10_1]) := ⟨_, rfl⟩
    replace H : (F73.l0 k1 a1 y170 (a1.size : Int) (wrap64 (x10_1 + 1)) a0_0 a0_1 a0_2 a0_3) = some r := by first | (rw [hy170]; exact H) | exact H
    have Ny170 := am_ hy170
    clear hy170
    have H' := am_ H
    clear H
    try go_wp2
    replace HO_5 := am_ (Kd.R_drew HO_5.out)
    replace BK159 := bd_ BK159
    replace HB := am_ (below_drew1 HB.out)
    have p9 : 0 ≤ (x10_1 : Int) := od_
    have q9 : x10_1 < (a1.size : Int) := od_
    have hx9 := bt_at a1 x10_1
    replace p9 := eq_true p9
    replace q9 := eq_true q9
    refine start_ (n := 5) (S := fun w' => w'.cell? ⟨gb159, 0, none⟩ = some (.int .i64 a0_0) ∧ w'.cell? ⟨gb159, 1, none⟩ = some (.int .i64 a0_1) ∧ w'.cell? ⟨gb159, 2, none⟩ = some (.int .i64 a0_2) ∧ w'.cell? ⟨gb159, 3, none⟩ = some (.int .i64 a0_3)) (ds := []) #[false, false, false, false, false] (by kernel_rfl) rfl rfl ⟨(blk_cell BK159.out 0).trans rfl, (blk_cell BK159.out 1).trans rfl, (blk_cell BK159.out 2).trans rfl, (blk_cell BK159.out 3).trans rfl⟩ (fun hHeld => ?_)
    generalize wr.drew = w22 at HO_5 BK159 HB hHeld ⊢
    refine pk_ 1 14 #[false, true, false, false, false] ?_ rfl rfl
    refine pk_ 2 15 #[false, true, true, false, false] ?_ rfl rfl
    refine take_ (i := 0) (N := some 13) (v := ?_) (a' := ?_) #[true, true, true, false, false] rfl rfl (by kernel_rfl) (fun _ _ _ h => h) (Or.inl ⟨by rfl, ?_⟩) hHeld ?_ ?_
    rotate_left
    ·rintro w' ⟨s0, s1, s2, s3⟩
     go_simp
     with_reducible rfl
    rotate_left
    ·simp only [Act.put, List.setIfInBounds_toArray, List.set_cons_zero, List.set_cons_succ, i64_w, i32_w]
     rfl
    refine take_ (i := 3) (N := some 16) (v := ?_) (a' := ?_) #[true, true, true, true, false] rfl rfl (by kernel_rfl) (fun _ _ _ h => h) (Or.inl ⟨by rfl, ?_⟩) hHeld ?_ ?_
    rotate_left
    ·rintro w' ⟨s0, s1, s2, s3⟩
     go_simp
     with_reducible rfl
    rotate_left
    ·simp only [Act.put, List.setIfInBounds_toArray, List.set_cons_zero, List.set_cons_succ, i64_w, i32_w]
     rfl
    refine one_ (i := 4) (N := some 17) #[true, true, true, true, true] rfl rfl (by kernel_rfl) (by decide) (fun K hK => ?_)
    refine gr_ Try.func106 #[.agg #[.int .i64 a0_0, .int .i64 a0_1, .int .i64 a0_2, .int .i64 a0_3], .int .u8 (bt a1 x10_1)] (by rfl) ?_ rfl rfl rfl
    with_reducible refine (F106.calls k1 a0_0 a0_1 a0_2 a0_3 (bt a1 x10_1) false _ A10.out).mono ?_
    rintro e w23 ⟨rfl, hb⟩
    refine ⟨_, rfl, ?_⟩
    replace HO_5 := am_ (Kd.R_below (rk_ HO_5) hb)
    replace BK159 := bb_ BK159 hb
    replace HB := hs_ w hb
    (try clear hb)
    (try clear hb2)
    (try clear hk)
    (try clear hi)
    refine hK.out _ _ ⟨(blk_cell BK159.out 0).trans rfl, (blk_cell BK159.out 1).trans rfl, (blk_cell BK159.out 2).trans rfl, (blk_cell BK159.out 3).trans rfl⟩ (fun hHeld => ?_)
    clear hK K
    refine no_ 17 ?_
    refine done_ (by kernel_rfl) ?_
    have p20 : 0 ≤ (x10_1 : Int) := od_
    have q20 : x10_1 < (a1.size : Int) := od_
    have hx20 := bt_at a1 x10_1
    replace p20 := eq_true p20
    replace q20 := eq_true q20
    try go_wp2_with (first | ((with_reducible refine gate_builtin (b := .append) (xs := #[.tmp 24, .tmp 28]) rfl ?_); at_builtin; refine Kd.R_append (Kd.int .u8) (w0 := w) w.heap.size rfl (.tmp 24) (.tmp 28) 36 5 (.int .u8 0) 1 rfl Try.underlying36 info5 rfl (by decide) (by omega) u5 x5_1 (bt a1 x10_1) [.int .u8 (bt a1 x10_1)] (fun _ => True) (fun _ => False) rfl rfl ?aP (fun _ hk => hk.elim) ?aF ?aO ?aB ?aS ?aL ?_; (case aP => exact rfl); (case aB => exact bl_); (case aF => exact (fun _ _ => trivial)); (case aO => exact (rk_ HO_5)); (case aS => exact (below_size bl_)); (case aL => have := LMc21.out; omega); intro v171 w24 ho hb hg hat; rw [← Ny170.out] at ho; have n0_ := am_ (bg_ BK159 hg (Kd.R_ne HO_5.out BK159.out (by decide))); have n1_ := am_ (hb); have n2_ := am_ (ho); clear BK159; clear HB; clear HO_5; have BK159 := n0_; have HB := n1_; have HO172 := n2_; clear n0_ n1_ n2_; clear ho hb hg hat))
    go_roundg k1
    case measure => have := HK1.out; omega
    case rel => exact ⟨(y170), (wrap64 (x10_1 + 1)), er_, H', ⟨by have := HK1.out; omega⟩, ⟨rk_ HO172⟩, ⟨bk_ BK159⟩, ⟨bl_⟩⟩
   replace H := iln_ H; rcases H with ⟨LMc12, H⟩
   obtain ⟨y164, hy164⟩ : ∃ y_ : List Int, y_ = (x5_1 ++ [(a0_3) % 256]) := ⟨_, rfl⟩
   replace H : (if y164.length < 140737488355328 then (F73.l0 k1 a1 (y164 ++ [bt a1 x10_1]) (a1.size : Int) (wrap64 (x10_1 + 1)) a0_0 a0_1 a0_2 a0_3) else (none)) = some r := by first | (rw [hy164]; exact H) | exact H
   have Ny164 := am_ hy164
   clear hy164
   replace H := iln_ H; rcases H with ⟨LMc14, H⟩
   obtain ⟨y167, hy167⟩ : ∃ y_ : List Int, y_ = (y164 ++ [bt a1 x10_1]) := ⟨_, rfl⟩
   replace H : (F73.l0 k1 a1 y167 (a1.size : Int) (wrap64 (x10_1 + 1)) a0_0 a0_1 a0_2 a0_3) = some r := by first | (rw [hy167]; exact H) | exact H
   have Ny167 := am_ hy167
   clear hy167
   have H' := am_ H
   clear H
   try go_wp2
   replace HO_5 := am_ (Kd.R_drew HO_5.out)
   replace BK159 := bd_ BK159
   replace HB := am_ (below_drew1 HB.out)
   have p9 : 0 ≤ (x10_1 : Int) := od_
   have q9 : x10_1 < (a1.size : Int) := od_
   have hx9 := bt_at a1 x10_1
   replace p9 := eq_true p9
   replace q9 := eq_true q9
   refine start_ (n := 5) (S := fun w' => w'.cell? ⟨gb159, 0, none⟩ = some (.int .i64 a0_0) ∧ w'.cell? ⟨gb159, 1, none⟩ = some (.int .i64 a0_1) ∧ w'.cell? ⟨gb159, 2, none⟩ = some (.int .i64 a0_2) ∧ w'.cell? ⟨gb159, 3, none⟩ = some (.int .i64 a0_3)) (ds := []) #[false, false, false, false, false] (by kernel_rfl) rfl rfl ⟨(blk_cell BK159.out 0).trans rfl, (blk_cell BK159.out 1).trans rfl, (blk_cell BK159.out 2).trans rfl, (blk_cell BK159.out 3).trans rfl⟩ (fun hHeld => ?_)
   generalize wr.drew = w15 at HO_5 BK159 HB hHeld ⊢
   refine pk_ 1 14 #[false, true, false, false, false] ?_ rfl rfl
   refine pk_ 2 15 #[false, true, true, false, false] ?_ rfl rfl
   refine take_ (i := 0) (N := some 13) (v := ?_) (a' := ?_) #[true, true, true, false, false] rfl rfl (by kernel_rfl) (fun _ _ _ h => h) (Or.inl ⟨by rfl, ?_⟩) hHeld ?_ ?_
   rotate_left
   ·rintro w' ⟨s0, s1, s2, s3⟩
    go_simp
    with_reducible rfl
   rotate_left
   ·simp only [Act.put, List.setIfInBounds_toArray, List.set_cons_zero, List.set_cons_succ, i64_w, i32_w]
    rfl
   refine take_ (i := 3) (N := some 16) (v := ?_) (a' := ?_) #[true, true, true, true, false] rfl rfl (by kernel_rfl) (fun _ _ _ h => h) (Or.inl ⟨by rfl, ?_⟩) hHeld ?_ ?_
   rotate_left
   ·rintro w' ⟨s0, s1, s2, s3⟩
    go_simp
    with_reducible rfl
   rotate_left
   ·simp only [Act.put, List.setIfInBounds_toArray, List.set_cons_zero, List.set_cons_succ, i64_w, i32_w]
    rfl
   refine one_ (i := 4) (N := some 17) #[true, true, true, true, true] rfl rfl (by kernel_rfl) (by decide) (fun K hK => ?_)
   refine gr_ Try.func106 #[.agg #[.int .i64 a0_0, .int .i64 a0_1, .int .i64 a0_2, .int .i64 a0_3], .int .u8 (bt a1 x10_1)] (by rfl) ?_ rfl rfl rfl
   with_reducible refine (F106.calls k1 a0_0 a0_1 a0_2 a0_3 (bt a1 x10_1) true _ A10.out).mono ?_
   rintro e w16 ⟨rfl, hb⟩
   refine ⟨_, rfl, ?_⟩
   replace HO_5 := am_ (Kd.R_below (rk_ HO_5) hb)
   replace BK159 := bb_ BK159 hb
   replace HB := hs_ w hb
   (try clear hb)
   (try clear hb2)
   (try clear hk)
   (try clear hi)
   refine hK.out _ _ ⟨(blk_cell BK159.out 0).trans rfl, (blk_cell BK159.out 1).trans rfl, (blk_cell BK159.out 2).trans rfl, (blk_cell BK159.out 3).trans rfl⟩ (fun hHeld => ?_)
   clear hK K
   refine no_ 17 ?_
   refine done_ (by kernel_rfl) ?_
   obtain ⟨hcz17_0, hcz17_1, hcz17_2, hcz17_3, hfz17_0, hfz17_1, hfz17_2, hfz17_3⟩ := cellsF4 BK159.out
   try go_wp2_with (first | ((with_reducible refine gate_builtin (b := .append) (xs := #[.tmp 18, .tmp 22]) rfl ?_); at_builtin; refine Kd.R_append (Kd.int .u8) (w0 := w) w.heap.size rfl (.tmp 18) (.tmp 22) 36 5 (.int .u8 0) 1 rfl Try.underlying36 info5 rfl (by decide) (by omega) u5 x5_1 ((a0_3) % 256) [.int .u8 ((a0_3) % 256)] (fun _ => True) (fun _ => False) rfl rfl ?aP (fun _ hk => hk.elim) ?aF ?aO ?aB ?aS ?aL ?_; (case aP => exact rfl); (case aB => exact bl_); (case aF => exact (fun _ _ => trivial)); (case aO => exact (rk_ HO_5)); (case aS => exact (below_size bl_)); (case aL => have := LMc12.out; omega); intro v165 w18 ho hb hg hat; rw [← Ny164.out] at ho; have n0_ := am_ (bg_ BK159 hg (Kd.R_ne HO_5.out BK159.out (by decide))); have n1_ := am_ (hb); have n2_ := am_ (ho); clear BK159; clear HB; clear HO_5; have BK159 := n0_; have HB := n1_; have HO166 := n2_; clear n0_ n1_ n2_; clear ho hb hg hat; have p13 : 0 ≤ (x10_1 : Int) := od_; have q13 : x10_1 < (a1.size : Int) := od_; have hx13 := bt_at a1 x10_1; replace p13 := eq_true p13; replace q13 := eq_true q13) | ((with_reducible refine gate_builtin (b := .append) (xs := #[.tmp 24, .tmp 28]) rfl ?_); at_builtin; refine Kd.R_append (Kd.int .u8) (w0 := w) w.heap.size rfl (.tmp 24) (.tmp 28) 36 5 (.int .u8 0) 1 rfl Try.underlying36 info5 rfl (by decide) (by omega) v165 y164 (bt a1 x10_1) [.int .u8 (bt a1 x10_1)] (fun _ => True) (fun _ => False) rfl rfl ?aP (fun _ hk => hk.elim) ?aF ?aO ?aB ?aS ?aL ?_; (case aP => exact rfl); (case aB => exact bl_); (case aF => exact (fun _ _ => trivial)); (case aO => exact (rk_ HO166)); (case aS => exact (below_size bl_)); (case aL => have := LMc14.out; omega); intro v168 w19 ho hb hg hat; rw [← Ny167.out] at ho; have n0_ := am_ (bg_ BK159 hg (Kd.R_ne HO166.out BK159.out (by decide))); have n1_ := am_ (hb); have n2_ := am_ (ho); clear BK159; clear HB; clear HO166; have BK159 := n0_; have HB := n1_; have HO169 := n2_; clear n0_ n1_ n2_; clear ho hb hg hat))
   go_roundg k1
   case measure => have := HK1.out; omega
   case rel => exact ⟨(y167), (wrap64 (x10_1 + 1)), er_, H', ⟨by have := HK1.out; omega⟩, ⟨rk_ HO169⟩, ⟨bk_ BK159⟩, ⟨bl_⟩⟩
/-! ### F86: function 86 -/
mutual
def F86.l0 : Nat → List Int → List (S102) → Int → Int → Int → Int → Int → Int → Option (ByteArray)
  | 0, _, _, _, _, _, _, _, _ => none
  | k + 1, x5, x14, x15, x16, x174000, x174001, x174002, x174003 => if x16 < x15 then (if 0 ≤ x16 then (if x16 < (x14.length : Int) then (if x5.length < 140737488355328 then (F86.l1 k (x5 ++ [(x174001) % 256]) x14 x15 x16 ((rd_T102 x14 x16).f0) (((rd_T102 x14 x16).f0).length : Int) 0 x174000 x174001 x174002 x174003) else (none)) else (none)) else (none)) else (if x5.length < 140737488355328 then (some (strOfNums (x5 ++ [(x174000) % 256]))) else (none))
def F86.l1 : Nat → List Int → List (S102) → Int → Int → List ByteArray → Int → Int → Int → Int → Int → Int → Option (ByteArray)
  | 0, _, _, _, _, _, _, _, _, _, _, _ => none
  | k + 1, x5, x14, x15, x16, x27, x28, x29, x174000, x174001, x174002, x174003 => if x29 < x28 then (if 0 ≤ x29 then (if x29 < (x27.length : Int) then (if x29 > 0 then (if x5.length < 140737488355328 then ((some (x5 ++ [(x174002) % 256] : List Int)).bind fun y187 => ((F73.f k x174000 x174001 x174002 x174003 (rdOf ByteArray.empty x27 x29)).bind fun t190 => (if y187.length + t190.size < 140737488355328 then (F86.l1 k (y187 ++ bytesOf t190) x14 x15 x16 x27 x28 (wrap64 (x29 + 1)) x174000 x174001 x174002 x174003) else (none)))) else (none)) else ((F73.f k x174000 x174001 x174002 x174003 (rdOf ByteArray.empty x27 x29)).bind fun t194 => (if x5.length + t194.size < 140737488355328 then (F86.l1 k (x5 ++ bytesOf t194) x14 x15 x16 x27 x28 (wrap64 (x29 + 1)) x174000 x174001 x174002 x174003) else (none)))) else (none)) else (none)) else (F86.l0 k x5 x14 x15 (wrap64 (x16 + 1)) x174000 x174001 x174002 x174003)
end
def F86.f (k : Nat) (a0_0 : Int) (a0_1 : Int) (a0_2 : Int) (a0_3 : Int) (a1_0 : ByteArray) (l1_1 : List (S102)) : Option (ByteArray) := if a1_0.size ≤ 9223372036854775807 then (F86.l0 k (bytesOf a1_0) l1_1 (l1_1.length : Int) 0 a0_0 a0_1 a0_2 a0_3) else (none)
theorem F86.mono_l : ∀ k, (∀ y0 y1 y2 y3 y4 y5 y6 y7, LeO (F86.l0 k y0 y1 y2 y3 y4 y5 y6 y7) (F86.l0 (k + 1) y0 y1 y2 y3 y4 y5 y6 y7)) ∧ (∀ y0 y1 y2 y3 y4 y5 y6 y7 y8 y9 y10, LeO (F86.l1 k y0 y1 y2 y3 y4 y5 y6 y7 y8 y9 y10) (F86.l1 (k + 1) y0 y1 y2 y3 y4 y5 y6 y7 y8 y9 y10))
 | 0 => ⟨fun _ _ _ _ _ _ _ _ r h => by simp [F86.l0] at h, fun _ _ _ _ _ _ _ _ _ _ _ r h => by simp [F86.l1] at h⟩
 | k + 1 => by
  obtain ⟨ih0, ih1⟩ := F86.mono_l k
  refine ⟨?_, ?_⟩
  rotate_left
  ·intro y0 y1 y2 y3 y4 y5 y6 y7 y8 y9 y10
   unfold F86.l1
   repeat' with_reducible first | exact ih0 _ _ _ _ _ _ _ _ | exact ih1 _ _ _ _ _ _ _ _ _ _ _ | exact F73.mono _ _ _ _ _ _ | exact LeO.refl _ | exact LeO.none _ | refine LeO.ite ?_ ?_ | refine LeO.bind ?_ (fun _ => ?_)
  intro y0 y1 y2 y3 y4 y5 y6 y7
  unfold F86.l0
  repeat' with_reducible first | exact ih0 _ _ _ _ _ _ _ _ | exact ih1 _ _ _ _ _ _ _ _ _ _ _ | exact F73.mono _ _ _ _ _ _ | exact LeO.refl _ | exact LeO.none _ | refine LeO.ite ?_ ?_ | refine LeO.bind ?_ (fun _ => ?_)
theorem F86.mono : ∀ a0 a1 a2 a3 a4 a5 k, LeO (F86.f k a0 a1 a2 a3 a4 a5) (F86.f (k + 1) a0 a1 a2 a3 a4 a5) := by
 intro a0 a1 a2 a3 a4 a5 k
 obtain ⟨ih0, ih1⟩ := F86.mono_l k
 unfold F86.f
 repeat' with_reducible first | exact ih0 _ _ _ _ _ _ _ _ | exact ih1 _ _ _ _ _ _ _ _ _ _ _ | exact F73.mono _ _ _ _ _ _ | exact LeO.refl _ | exact LeO.none _ | refine LeO.ite ?_ ?_ | refine LeO.bind ?_ (fun _ => ?_)
theorem F86.calls (k : Nat) (a0_0 : Int) (a0_1 : Int) (a0_2 : Int) (a0_3 : Int) (a1_0 : ByteArray) (A1_1 : Option Addr) (c1_1 : Nat) (l1_1 : List (S102)) (r : ByteArray) (w : World) (hr1_1 : Kd.C k102 w A1_1 l1_1.length l1_1) (hc1_1 : l1_1.length ≤ c1_1) (h : F86.f k a0_0 a0_1 a0_2 a0_3 a1_0 l1_1 = some r) :
  Calls Try.prog 86 #[.agg #[.int .i64 a0_0, .int .i64 a0_1, .int .i64 a0_2, .int .i64 a0_3], .agg #[.string a1_0, .slice A1_1 l1_1.length c1_1]] w fun e w' => e = .returned (.string r) ∧ Below w.heap.size w w' := by
 have hu23 := Try.underlying23
 have hu59 := Try.underlying59
 have hu102 := Try.underlying102
 have HR1_1 := am_ hr1_1
 have HC1_1 := am_ hc1_1
 clear hr1_1 hc1_1
 have HB := am_ (Below.refl w.heap.size w)
 have H : (if a1_0.size ≤ 9223372036854775807 then (F86.l0 k (bytesOf a1_0) l1_1 (l1_1.length : Int) 0 a0_0 a0_1 a0_2 a0_3) else (none)) = some r := h
 clear h
 by_cases c3 : a1_0.size ≤ 9223372036854775807
 rotate_left
 ·rw [if_neg c3] at H
  exact absurd H (by simp)

 rw [if_pos c3] at H
 have c3b0 := eq_true c3
 have c3b1 : decide (a1_0.size ≤ 9223372036854775807) = true := decide_eq_true c3
 try have c3b2 : (9223372036854775807 < a1_0.size) = False := eq_false (Nat.not_lt.2 c3)
 clear c3
 obtain ⟨y175, hy175⟩ : ∃ y_ : List Int, y_ = (bytesOf a1_0) := ⟨_, rfl⟩
 replace H : (F86.l0 k y175 l1_1 (l1_1.length : Int) 0 a0_0 a0_1 a0_2 a0_3) = some r := by first | (rw [hy175]; exact H) | exact H
 have Ny175 := am_ hy175
 clear hy175
 have H' := am_ H
 clear H
 go_enter Try.func86, Try.ntmps86
 go_wp2_with (first | ((with_reducible refine gate_dst (N := 2) rfl ?_); refine be_ 2 #[.int .i64 a0_0, .int .i64 a0_1, .int .i64 a0_2, .int .i64 a0_3] 23 ?_; intro gb173 hg w4 hbox hb; have BK173 := am_ (hbox); have GW173 := am_ (gw_ hg bl_); have GE173 := GW173; replace HB := hs_ w hb; clear hb hbox hg) | ((with_reducible refine gate_dst (N := 3) rfl ?_); refine be_ 3 #[.string a1_0, .slice A1_1 l1_1.length c1_1] 59 ?_; intro gb174 hg w5 hbox hb; have BK174 := am_ (hbox); have GW174 := am_ (gw_ hg bl_); have GE174 := GW174; replace HB := hs_ w hb; have NB173_174 := am_ (gn_ hg (blkl_ BK173)); have NB174_173 := am_ (gm_ hg (blkl_ BK173)); replace BK173 := bb_ BK173 hb; clear hb hbox hg; have hnb6 := NB174_173.out; have hnc6 := NB173_174.out; obtain ⟨hcz7_0, hcz7_1, hfz7_0, hfz7_1⟩ := cellsF2 BK174.out) | ((with_reducible refine gate_dst (N := 12) rfl ?_); refine Go.Proofs.YtchoalagkcdbhaaW.Mark.RM_bytes _ 5 ?hg (N := 12) ?hd 9 36 _ rfl a1_0 (by first | rfl | (go_simp; done) | (go_simp; rfl)) Try.underlying9 Try.underlying36 Try.underlying5 (ok := fun _ => True) (okp := fun _ => True) (fun _ hk => hk) trivial (Nat.le_trans (of_decide_eq_true as_ : a1_0.size ≤ 9223372036854775807) (Nat.le_refl _)) (Below.refl _ _) (Nat.le_refl _) ?_; (case hd => rfl); (case hg => rfl); intro v176 w8 ho9 hb hg_ hnew_; clear hg_ hnew_; (first | rw [← Ny175.out] at ho9 | (simp only [Int.reduceToNat] at ho9; rw [← Ny175.out] at ho9)); have HO177 := am_ (Go.Proofs.YtchoalagkcdbhaaW.Mark.RM_lower ho9 (below_size bl_)); replace BK173 := bb_ BK173 hb; replace BK174 := bb_ BK174 hb; replace HB := hs_ w hb; clear hb ho9; obtain ⟨hcz10_0, hcz10_1, hfz10_0, hfz10_1⟩ := cellsF2 BK174.out))
 go_loopg [5, 16] k (fun kq v5 v16 w' => ∃ (x5_1 : List Int) (x16_1 : Int), v16 = .int .i64 x16_1 ∧ Aside0 (F86.l0 kq x5_1 l1_1 (l1_1.length : Int) x16_1 a0_0 a0_1 a0_2 a0_3 = some r) ∧ Aside0 (kq ≤ k) ∧ Aside0 (Go.Proofs.YtchoalagkcdbhaaW.Mark.RM 5 w' w.heap.size (fun _ => True) v5 x5_1) ∧ Aside0 (w'.heap[gb173]? = some (.cells #[.int .i64 a0_0, .int .i64 a0_1, .int .i64 a0_2, .int .i64 a0_3] 23 (0, 0))) ∧ Aside0 (w'.heap[gb174]? = some (.cells #[.string a1_0, (.slice A1_1 l1_1.length c1_1)] 59 (0, 0))) ∧ Aside0 (Below w.heap.size w w'))
 case atStart => exact ⟨(y175), (0), er_, H', ⟨Nat.le_refl _⟩, ⟨by (with_reducible repeat (first | apply Go.Proofs.YtchoalagkcdbhaaW.Mark.RM_alloc | apply Go.Proofs.YtchoalagkcdbhaaW.Mark.RM_drewN | apply Go.Proofs.YtchoalagkcdbhaaW.Mark.RM_drew)); exact HO177.out⟩, ⟨bk_ BK173⟩, ⟨bk_ BK174⟩, ⟨bl_⟩⟩
 case round =>
  clear H'
  try clear c3
  try clear c3b0
  try clear c3b1
  try clear c3b2
  try clear hcz10_0 hcz10_1
  try clear hcz7_0 hcz7_1
  try clear hfz10_0 hfz10_1
  try clear hfz7_0 hfz7_1
  obtain ⟨x5_1, x16_1, rfl, HA, HK1, HO_5, BK173, BK174, HB⟩ := hrel
  cases gk with
  | zero => exact absurd HA.out (by simp [F86.l0])
  | succ k1 =>
   have H := HA.out
   clear HA
   simp only [F86.l0] at H
   replace H := it_ H; rcases H with ⟨c11b0, H⟩ | ⟨c11b0, H⟩
   rotate_left
   ·replace H := iln_ H; rcases H with ⟨LMc44, H⟩
    obtain ⟨y178, hy178⟩ : ∃ y_ : List Int, y_ = (x5_1 ++ [(a0_0) % 256]) := ⟨_, rfl⟩
    replace H : (some (strOfNums y178)) = some r := by first | (rw [hy178]; exact H) | exact H
    have Ny178 := am_ hy178
    clear hy178
    obtain rfl := Option.some.inj H
    have hnb45 := NB173_174.out
    have hnc45 := NB174_173.out
    obtain ⟨hcz46_0, hcz46_1, hcz46_2, hcz46_3, hfz46_0, hfz46_1, hfz46_2, hfz46_3⟩ := cellsF4 BK173.out
    go_wp2_with (first | ((with_reducible refine gate_builtin (b := .append) (xs := #[.tmp 49, .tmp 53]) rfl ?_); at_builtin; refine Go.Proofs.YtchoalagkcdbhaaW.Mark.RM_append (w0 := w) w.heap.size rfl (.tmp 49) (.tmp 53) 36 5 (.int .u8 0) 1 rfl Try.underlying36 info5 rfl (by decide) (by omega) u5 x5_1 ((a0_0) % 256) [.int .u8 ((a0_0) % 256)] (fun _ => True) (fun _ => False) rfl rfl ?aP (fun _ hk => hk.elim) ?aF ?aO ?aB ?aS ?aL ?_; (case aP => exact rfl); (case aB => exact bl_); (case aF => exact (fun _ _ => trivial)); (case aO => exact au1_2); (case aS => exact (below_size bl_)); (case aL => have := LMc44.out; omega); intro v179 w47 ho hb hg hat; rw [← Ny178.out] at ho; have n0_ := am_ (bg_ BK173 hg (Go.Proofs.YtchoalagkcdbhaaW.Mark.RM_ne HO_5.out BK173.out (by decide))); have n1_ := am_ (bg_ BK174 hg (Go.Proofs.YtchoalagkcdbhaaW.Mark.RM_ne HO_5.out BK174.out (by decide))); have n2_ := am_ (hb); have n3_ := am_ (ho); clear BK173; clear BK174; clear HB; clear HO_5; have BK173 := n0_; have BK174 := n1_; have HB := n2_; have HO180 := n3_; clear n0_ n1_ n2_ n3_; clear ho hb hg hat; have hcv48 := Go.Proofs.YtchoalagkcdbhaaW.Mark.own_string (P := Try.prog) Try.underlying36 Try.underlying5 Try.underlying9 (Go.Proofs.YtchoalagkcdbhaaW.Mark.own_of_RM HO180.out)))
    go_ret
    exact ⟨au1_0, bl_⟩
   replace H := itn_ H; rcases H with ⟨c12b0, H⟩
   replace H := itn_ H; rcases H with ⟨c13b0, H⟩
   replace H := iln_ H; rcases H with ⟨LMc14, H⟩
   obtain ⟨y183, hy183⟩ : ∃ y_ : List Int, y_ = (x5_1 ++ [(a0_1) % 256]) := ⟨_, rfl⟩
   replace H : (F86.l1 k1 y183 l1_1 (l1_1.length : Int) x16_1 ((rd_T102 l1_1 x16_1).f0) (((rd_T102 l1_1 x16_1).f0).length : Int) 0 a0_0 a0_1 a0_2 a0_3) = some r := by first | (rw [hy183]; exact H) | exact H
   have Ny183 := am_ hy183
   clear hy183
   have H' := am_ H
   clear H
   have p181 : 0 ≤ (x16_1 : Int) := od_
   have q181 : x16_1 < (l1_1.length : Int) := od_
   obtain ⟨ad181, A181_0, c181_0, e181, hx181_0, hl181_0, hi181_0⟩ := at_T102 HR1_1.out x16_1 p181 q181
   cases e181
   replace hx181_0 := (HB.out.cell (World.block_lt_of_cell? _ _ hx181_0)).trans hx181_0
   have HR181_0 := am_ hi181_0
   have HC181_0 := am_ hl181_0
   clear hi181_0 hl181_0
   replace p181 := eq_true p181
   replace q181 := eq_true q181
   go_wp2_with (first | ((with_reducible refine gate_dst (N := 7) rfl ?_); refine be_ 7 #[.slice none 0 0] 102 ?_; intro gb182 hg w15 hbox hb; replace HO_5 := am_ (Go.Proofs.YtchoalagkcdbhaaW.Mark.RM_below au1_2 hb); have BK182 := am_ (hbox); have GW182 := am_ (gw_ hg bl_); have GE182 := GW182; replace HB := hs_ w hb; have NB173_182 := am_ (gn_ hg (blkl_ BK173)); have NB182_173 := am_ (gm_ hg (blkl_ BK173)); replace BK173 := bb_ BK173 hb; have NB174_182 := am_ (gn_ hg (blkl_ BK174)); have NB182_174 := am_ (gm_ hg (blkl_ BK174)); replace BK174 := bb_ BK174 hb; clear hb hbox hg; have hnb16 := NB182_173.out; have hnc16 := NB173_182.out; have hnb17 := NB182_174.out; have hnc17 := NB174_182.out; have hcz18_0 : w15.cell? ⟨gb182, 0, none⟩ = some (.slice none 0 0) := (blk_cell BK182.out 0).trans rfl; have hfz18_0 := blk_frozen BK182.out 0; have hnb19 := NB173_174.out; have hnc19 := NB174_173.out; obtain ⟨hcz20_0, hcz20_1, hcz20_2, hcz20_3, hfz20_0, hfz20_1, hfz20_2, hfz20_3⟩ := cellsF4 BK173.out) | ((with_reducible refine gate_builtin (b := .append) (xs := #[.tmp 20, .tmp 24]) rfl ?_); at_builtin; refine Go.Proofs.YtchoalagkcdbhaaW.Mark.RM_append (w0 := w) w.heap.size rfl (.tmp 20) (.tmp 24) 36 5 (.int .u8 0) 1 rfl Try.underlying36 info5 rfl (by decide) (by omega) u5 x5_1 ((a0_1) % 256) [.int .u8 ((a0_1) % 256)] (fun _ => True) (fun _ => False) rfl (by first | (go_simp; done) | (go_simp; rfl)) ?aP (fun _ hk => hk.elim) ?aF ?aO ?aB ?aS ?aL ?_; (case aP => exact rfl); (case aB => exact bl_); (case aF => exact (fun _ _ => trivial)); (case aO => exact (by (with_reducible repeat (first | apply Go.Proofs.YtchoalagkcdbhaaW.Mark.RM_alloc | apply Go.Proofs.YtchoalagkcdbhaaW.Mark.RM_drewN | apply Go.Proofs.YtchoalagkcdbhaaW.Mark.RM_drew)); exact Go.Proofs.YtchoalagkcdbhaaW.Mark.RM_mono (Go.Proofs.YtchoalagkcdbhaaW.Mark.RM_far (p := ⟨gb182, 0, none⟩) (Go.Proofs.YtchoalagkcdbhaaW.Mark.RM_types HO_5.out BK182.out (by decide)) (fun _ hk => hk.2) (.slice A181_0 ((rd_T102 l1_1 x16_1).f0).length c181_0)) (fun _ hk => trivial))); (case aS => exact (below_size bl_)); (case aL => have := LMc14.out; omega); intro v184 w21 ho hb hg hat; rw [← Ny183.out] at ho; have n0_ := am_ (bg_ BK173 hg (Go.Proofs.YtchoalagkcdbhaaW.Mark.RM_ne HO_5.out BK173.out (by decide))); have n1_ := am_ (bg_ BK174 hg (Go.Proofs.YtchoalagkcdbhaaW.Mark.RM_ne HO_5.out BK174.out (by decide))); have n2_ := am_ (blk_grown (g := gb182) (o := .cells #[.slice A181_0 ((rd_T102 l1_1 x16_1).f0).length c181_0] 102 (0, 0)) (bq_ BK182) hg (Go.Proofs.YtchoalagkcdbhaaW.Mark.RM_ne HO_5.out BK182.out (by decide))); have n3_ := am_ (hb); have n4_ := am_ (ho); clear BK173; clear BK174; clear BK182; clear HB; clear HO_5; have BK173 := n0_; have BK174 := n1_; have BK182 := n2_; have HB := n3_; have HO185 := n4_; clear n0_ n1_ n2_ n3_ n4_; clear ho hb hg hat; have hcz22_0 : w21.cell? ⟨gb182, 0, none⟩ = some (.slice A181_0 ((rd_T102 l1_1 x16_1).f0).length c181_0) := (blk_cell BK182.out 0).trans rfl; have hfz22_0 := blk_frozen BK182.out 0))
   go_loopg [5, 29] k1 (fun kq v5 v29 w' => ∃ (x5_2 : List Int) (x29_2 : Int), v29 = .int .i64 x29_2 ∧ Aside0 (F86.l1 kq x5_2 l1_1 (l1_1.length : Int) x16_1 ((rd_T102 l1_1 x16_1).f0) (((rd_T102 l1_1 x16_1).f0).length : Int) x29_2 a0_0 a0_1 a0_2 a0_3 = some r) ∧ Aside0 (kq ≤ k1) ∧ Aside0 (Go.Proofs.YtchoalagkcdbhaaW.Mark.RM 5 w' w.heap.size (fun _ => True) v5 x5_2) ∧ Aside0 (w'.heap[gb173]? = some (.cells #[.int .i64 a0_0, .int .i64 a0_1, .int .i64 a0_2, .int .i64 a0_3] 23 (0, 0))) ∧ Aside0 (w'.heap[gb174]? = some (.cells #[.string a1_0, (.slice (some ad181) l1_1.length c1_1)] 59 (0, 0))) ∧ Aside0 (w'.heap[gb182]? = some (.cells #[(.slice A181_0 ((rd_T102 l1_1 x16_1).f0).length c181_0)] 102 (0, 0))) ∧ Aside0 (Below w.heap.size w w'))
   case atStart => exact ⟨(y183), (0), er_, H', ⟨Nat.le_refl _⟩, ⟨by (with_reducible repeat (first | apply Go.Proofs.YtchoalagkcdbhaaW.Mark.RM_alloc | apply Go.Proofs.YtchoalagkcdbhaaW.Mark.RM_drewN | apply Go.Proofs.YtchoalagkcdbhaaW.Mark.RM_drew)); exact HO185.out⟩, ⟨bk_ BK173⟩, ⟨bk_ BK174⟩, ⟨bk_ BK182⟩, ⟨bl_⟩⟩
   case round =>
    clear H'
    try clear c3
    try clear c3b0
    try clear c3b1
    try clear c3b2
    try clear c11b0
    try clear c12b0
    try clear c13b0
    try clear hcz10_0 hcz10_1
    try clear hcz18_0
    try clear hcz20_0 hcz20_1 hcz20_2 hcz20_3
    try clear hcz22_0
    try clear hcz7_0 hcz7_1
    try clear hfz10_0 hfz10_1
    try clear hfz18_0
    try clear hfz20_0 hfz20_1 hfz20_2 hfz20_3
    try clear hfz22_0
    try clear hfz7_0 hfz7_1
    try clear hx181_0
    try clear p181
    try clear q181
    obtain ⟨x5_2, x29_2, rfl, HA, HK2, HO_5, BK173, BK174, BK182, HB⟩ := hrel
    cases gk with
    | zero => exact absurd HA.out (by simp [F86.l1])
    | succ k2 =>
     have H := HA.out
     clear HA
     simp only [F86.l1] at H
     replace H := it_ H; rcases H with ⟨c23b0, H⟩ | ⟨c23b0, H⟩
     rotate_left
     ·have H' := am_ H
      clear H
      go_wp2
      go_roundg k2
      case measure => have := HK1.out; have := HK2.out; omega
      case rel => exact ⟨(x5_2), (wrap64 (x16_1 + 1)), er_, H', ⟨au1_11⟩, ⟨by (with_reducible repeat (first | apply Go.Proofs.YtchoalagkcdbhaaW.Mark.RM_alloc | apply Go.Proofs.YtchoalagkcdbhaaW.Mark.RM_drewN | apply Go.Proofs.YtchoalagkcdbhaaW.Mark.RM_drew)); exact HO_5.out⟩, ⟨bk_ BK173⟩, ⟨bk_ BK174⟩, ⟨bl_⟩⟩
     replace H := itn_ H; rcases H with ⟨c24b0, H⟩
     replace H := itn_ H; rcases H with ⟨c25b0, H⟩
     replace H := it_ H; rcases H with ⟨(c26b0 : decide (0 < x29_2) = true), H⟩ | ⟨(c26b0 : decide (0 < x29_2) = false), H⟩
     rotate_left
     ·replace H := bi_ H; rcases H with ⟨t194, A37, H⟩
      replace H := iln_ H; rcases H with ⟨LMc38, H⟩
      obtain ⟨y195, hy195⟩ : ∃ y_ : List Int, y_ = (x5_2 ++ bytesOf t194) := ⟨_, rfl⟩
      replace H : (F86.l1 k2 y195 l1_1 (l1_1.length : Int) x16_1 ((rd_T102 l1_1 x16_1).f0) (((rd_T102 l1_1 x16_1).f0).length : Int) (wrap64 (x29_2 + 1)) a0_0 a0_1 a0_2 a0_3) = some r := by first | (rw [hy195]; exact H) | exact H
      have Ny195 := am_ hy195
      clear hy195
      have H' := am_ H
      clear H
      have p186 : 0 ≤ (x29_2 : Int) := od_
      have q186 : x29_2 < (((rd_T102 l1_1 x16_1).f0).length : Int) := od_
      obtain ⟨ad186, e186, hx186_0⟩ := Kd.at_string HR181_0.out x29_2 p186 q186
      cases e186
      replace hx186_0 := (HB.out.cell (World.block_lt_of_cell? _ _ hx186_0)).trans hx186_0
      replace p186 := eq_true p186
      replace q186 := eq_true q186
      have hnb39 := NB173_174.out
      have hnc39 := NB174_173.out
      have hnb40 := NB173_182.out
      have hnc40 := NB182_173.out
      obtain ⟨hcz41_0, hcz41_1, hcz41_2, hcz41_3, hfz41_0, hfz41_1, hfz41_2, hfz41_3⟩ := cellsF4 BK173.out
      go_wp2_with (first | ((with_reducible refine gate_callee (f := 73) rfl ?_); refine gl_ 45 Try.func73 #[.agg #[.int .i64 a0_0, .int .i64 a0_1, .int .i64 a0_2, .int .i64 a0_3], .string (rdOf ByteArray.empty ((rd_T102 l1_1 x16_1).f0) x29_2)] ?_ rfl rfl rfl rfl; (with_reducible refine (F73.calls k2 a0_0 a0_1 a0_2 a0_3 (rdOf ByteArray.empty ((rd_T102 l1_1 x16_1).f0) x29_2) t194 _ A37.out).mono ?_); rintro e w42 ⟨rfl, hb⟩; refine ⟨_, rfl, ?_⟩; replace HO_5 := am_ (Go.Proofs.YtchoalagkcdbhaaW.Mark.RM_below au1_2 hb); replace BK173 := bb_ BK173 hb; replace BK174 := bb_ BK174 hb; replace BK182 := bb_ BK182 hb; replace HB := hs_ w hb; (try clear hb); (try clear hb2); (try clear hk); (try clear hi)) | (at_builtin; refine Go.Proofs.YtchoalagkcdbhaaW.Mark.print_append_str (w0 := w) w.heap.size rfl (.tmp 42) _ 36 9 5 rfl Try.underlying36 Try.underlying9 info5 u5 x5_2 t194 rfl rfl ?aO ?aB ?aS ?aL ?_; (case aB => exact bl_); (case aO => exact (Go.Proofs.YtchoalagkcdbhaaW.Mark.own_of_RM au1_2)); (case aS => exact (below_size bl_)); (case aL => have := LMc38.out; omega); intro v196 w43 ho0 hb hg; have ho := Go.Proofs.YtchoalagkcdbhaaW.Mark.RM_of_own (h1 := fun _ => rfl) (ok := fun _ => True) ho0 (fun _ _ => trivial); clear ho0; have hat := True.intro; rw [← Ny195.out] at ho; change Go.Proofs.YtchoalagkcdbhaaW.Mark.RM 5 w43 w.heap.size (fun _ => True) v196 y195 at ho; have n0_ := am_ (bg_ BK173 hg (Go.Proofs.YtchoalagkcdbhaaW.Mark.RM_ne HO_5.out BK173.out (by decide))); have n1_ := am_ (bg_ BK174 hg (Go.Proofs.YtchoalagkcdbhaaW.Mark.RM_ne HO_5.out BK174.out (by decide))); have n2_ := am_ (bg_ BK182 hg (Go.Proofs.YtchoalagkcdbhaaW.Mark.RM_ne HO_5.out BK182.out (by decide))); have n3_ := am_ (hb); have n4_ := am_ (ho); clear BK173; clear BK174; clear BK182; clear HB; clear HO_5; have BK173 := n0_; have BK174 := n1_; have BK182 := n2_; have HB := n3_; have HO197 := n4_; clear n0_ n1_ n2_ n3_ n4_; clear ho hb hg hat))
      go_roundg k2
      case measure => have := HK1.out; have := HK2.out; omega
      case rel => exact ⟨(y195), (wrap64 (x29_2 + 1)), er_, H', ⟨au1_11⟩, ⟨by (with_reducible repeat (first | apply Go.Proofs.YtchoalagkcdbhaaW.Mark.RM_alloc | apply Go.Proofs.YtchoalagkcdbhaaW.Mark.RM_drewN | apply Go.Proofs.YtchoalagkcdbhaaW.Mark.RM_drew)); exact HO197.out⟩, ⟨bk_ BK173⟩, ⟨bk_ BK174⟩, ⟨bk_ BK182⟩, ⟨bl_⟩⟩
     replace H := iln_ H; rcases H with ⟨LMc27, H⟩
     obtain ⟨y187, hy187⟩ : ∃ y_ : List Int, y_ = (x5_2 ++ [(a0_2) % 256]) := ⟨_, rfl⟩
     replace H : ((F73.f k2 a0_0 a0_1 a0_2 a0_3 (rdOf ByteArray.empty ((rd_T102 l1_1 x16_1).f0) x29_2)).bind fun t190 => (if y187.length + t190.size < 140737488355328 then (F86.l1 k2 (y187 ++ bytesOf t190) l1_1 (l1_1.length : Int) x16_1 ((rd_T102 l1_1 x16_1).f0) (((rd_T102 l1_1 x16_1).f0).length : Int) (wrap64 (x29_2 + 1)) a0_0 a0_1 a0_2 a0_3) else (none))) = some r := by first | (rw [hy187]; exact H) | exact H
     have Ny187 := am_ hy187
     clear hy187
     replace H := bi_ H; rcases H with ⟨t190, A28, H⟩
     replace H := iln_ H; rcases H with ⟨LMc29, H⟩
     obtain ⟨y191, hy191⟩ : ∃ y_ : List Int, y_ = (y187 ++ bytesOf t190) := ⟨_, rfl⟩
     replace H : (F86.l1 k2 y191 l1_1 (l1_1.length : Int) x16_1 ((rd_T102 l1_1 x16_1).f0) (((rd_T102 l1_1 x16_1).f0).length : Int) (wrap64 (x29_2 + 1)) a0_0 a0_1 a0_2 a0_3) = some r := by first | (rw [hy191]; exact H) | exact H
     have Ny191 := am_ hy191
     clear hy191
     have H' := am_ H
     clear H
     have p186 : 0 ≤ (x29_2 : Int) := od_
     have q186 : x29_2 < (((rd_T102 l1_1 x16_1).f0).length : Int) := od_
     obtain ⟨ad186, e186, hx186_0⟩ := Kd.at_string HR181_0.out x29_2 p186 q186
     cases e186
     replace hx186_0 := (HB.out.cell (World.block_lt_of_cell? _ _ hx186_0)).trans hx186_0
     replace p186 := eq_true p186
     replace q186 := eq_true q186
     have hnb30 := NB173_174.out
     have hnc30 := NB174_173.out
     have hnb31 := NB173_182.out
     have hnc31 := NB182_173.out
     obtain ⟨hcz32_0, hcz32_1, hcz32_2, hcz32_3, hfz32_0, hfz32_1, hfz32_2, hfz32_3⟩ := cellsF4 BK173.out
     go_wp2_with (first | ((with_reducible refine gate_builtin (b := .append) (xs := #[.tmp 36, .tmp 40]) rfl ?_); at_builtin; refine Go.Proofs.YtchoalagkcdbhaaW.Mark.RM_append (w0 := w) w.heap.size rfl (.tmp 36) (.tmp 40) 36 5 (.int .u8 0) 1 rfl Try.underlying36 info5 rfl (by decide) (by omega) u5 x5_2 ((a0_2) % 256) [.int .u8 ((a0_2) % 256)] (fun _ => True) (fun _ => False) rfl rfl ?aP (fun _ hk => hk.elim) ?aF ?aO ?aB ?aS ?aL ?_; (case aP => exact rfl); (case aB => exact bl_); (case aF => exact (fun _ _ => trivial)); (case aO => exact au1_2); (case aS => exact (below_size bl_)); (case aL => have := LMc27.out; omega); intro v188 w33 ho hb hg hat; rw [← Ny187.out] at ho; have n0_ := am_ (bg_ BK173 hg (Go.Proofs.YtchoalagkcdbhaaW.Mark.RM_ne HO_5.out BK173.out (by decide))); have n1_ := am_ (bg_ BK174 hg (Go.Proofs.YtchoalagkcdbhaaW.Mark.RM_ne HO_5.out BK174.out (by decide))); have n2_ := am_ (bg_ BK182 hg (Go.Proofs.YtchoalagkcdbhaaW.Mark.RM_ne HO_5.out BK182.out (by decide))); have n3_ := am_ (hb); have n4_ := am_ (ho); clear BK173; clear BK174; clear BK182; clear HB; clear HO_5; have BK173 := n0_; have BK174 := n1_; have BK182 := n2_; have HB := n3_; have HO189 := n4_; clear n0_ n1_ n2_ n3_ n4_; clear ho hb hg hat; obtain ⟨hcz34_0, hcz34_1, hcz34_2, hcz34_3, hfz34_0, hfz34_1, hfz34_2, hfz34_3⟩ := cellsF4 BK173.out) | ((with_reducible refine gate_callee (f := 73) rfl ?_); refine gl_ 45 Try.func73 #[.agg #[.int .i64 a0_0, .int .i64 a0_1, .int .i64 a0_2, .int .i64 a0_3], .string (rdOf ByteArray.empty ((rd_T102 l1_1 x16_1).f0) x29_2)] ?_ rfl rfl rfl rfl; (with_reducible refine (F73.calls k2 a0_0 a0_1 a0_2 a0_3 (rdOf ByteArray.empty ((rd_T102 l1_1 x16_1).f0) x29_2) t190 _ A28.out).mono ?_); rintro e w35 ⟨rfl, hb⟩; refine ⟨_, rfl, ?_⟩; replace HO189 := am_ (Go.Proofs.YtchoalagkcdbhaaW.Mark.RM_below au1_5 hb); replace BK173 := bb_ BK173 hb; replace BK174 := bb_ BK174 hb; replace BK182 := bb_ BK182 hb; replace HB := hs_ w hb; (try clear hb); (try clear hb2); (try clear hk); (try clear hi)) | (at_builtin; refine Go.Proofs.YtchoalagkcdbhaaW.Mark.print_append_str (w0 := w) w.heap.size rfl (.tmp 42) _ 36 9 5 rfl Try.underlying36 Try.underlying9 info5 v188 y187 t190 rfl rfl ?aO ?aB ?aS ?aL ?_; (case aB => exact bl_); (case aO => exact (Go.Proofs.YtchoalagkcdbhaaW.Mark.own_of_RM au1_5)); (case aS => exact (below_size bl_)); (case aL => have := LMc29.out; omega); intro v192 w36 ho0 hb hg; have ho := Go.Proofs.YtchoalagkcdbhaaW.Mark.RM_of_own (h1 := fun _ => rfl) (ok := fun _ => True) ho0 (fun _ _ => trivial); clear ho0; have hat := True.intro; rw [← Ny191.out] at ho; change Go.Proofs.YtchoalagkcdbhaaW.Mark.RM 5 w36 w.heap.size (fun _ => True) v192 y191 at ho; have n0_ := am_ (bg_ BK173 hg (Go.Proofs.YtchoalagkcdbhaaW.Mark.RM_ne HO189.out BK173.out (by decide))); have n1_ := am_ (bg_ BK174 hg (Go.Proofs.YtchoalagkcdbhaaW.Mark.RM_ne HO189.out BK174.out (by decide))); have n2_ := am_ (bg_ BK182 hg (Go.Proofs.YtchoalagkcdbhaaW.Mark.RM_ne HO189.out BK182.out (by decide))); have n3_ := am_ (hb); have n4_ := am_ (ho); clear BK173; clear BK174; clear BK182; clear HB; clear HO189; have BK173 := n0_; have BK174 := n1_; have BK182 := n2_; have HB := n3_; have HO193 := n4_; clear n0_ n1_ n2_ n3_ n4_; clear ho hb hg hat))
     go_roundg k2
     case measure => have := HK1.out; have := HK2.out; omega
     case rel => exact ⟨(y191), (wrap64 (x29_2 + 1)), er_, H', ⟨au1_11⟩, ⟨by (with_reducible repeat (first | apply Go.Proofs.YtchoalagkcdbhaaW.Mark.RM_alloc | apply Go.Proofs.YtchoalagkcdbhaaW.Mark.RM_drewN | apply Go.Proofs.YtchoalagkcdbhaaW.Mark.RM_drew)); exact HO193.out⟩, ⟨bk_ BK173⟩, ⟨bk_ BK174⟩, ⟨bk_ BK182⟩, ⟨bl_⟩⟩
/-! ### F39: function 39 -/
def F39.f (k : Nat) (a0_0 : Int) (a0_1 : Int) (a0_2 : Int) (a0_3 : Int) (a1_0 : ByteArray) (l1_1 : List (S102)) : Option (ByteArray) := (F60.f k a0_0 a0_1 a0_2 a0_3).bind fun t200 => (if t200 = true then ((F36.f k a1_0 l1_1).bind fun t201 => (if t201 = true then ((F86.f k a0_0 a0_1 a0_2 a0_3 a1_0 l1_1).bind fun t202 => (some t202)) else (some (⟨#[]⟩ : ByteArray)))) else (some (⟨#[]⟩ : ByteArray)))
theorem F39.mono : ∀ a0 a1 a2 a3 a4 a5 k, LeO (F39.f k a0 a1 a2 a3 a4 a5) (F39.f (k + 1) a0 a1 a2 a3 a4 a5) := by
 intro a0 a1 a2 a3 a4 a5 k
 unfold F39.f
 repeat' with_reducible first | exact F36.mono _ _ _ | exact F60.mono _ _ _ _ _ | exact F86.mono _ _ _ _ _ _ _ | exact LeO.refl _ | exact LeO.none _ | refine LeO.ite ?_ ?_ | refine LeO.bind ?_ (fun _ => ?_)
theorem F39.calls (k : Nat) (a0_0 : Int) (a0_1 : Int) (a0_2 : Int) (a0_3 : Int) (a1_0 : ByteArray) (A1_1 : Option Addr) (c1_1 : Nat) (l1_1 : List (S102)) (r : ByteArray) (w : World) (hr1_1 : Kd.C k102 w A1_1 l1_1.length l1_1) (hc1_1 : l1_1.length ≤ c1_1) (h : F39.f k a0_0 a0_1 a0_2 a0_3 a1_0 l1_1 = some r) :
  Calls Try.prog 39 #[.agg #[.int .i64 a0_0, .int .i64 a0_1, .int .i64 a0_2, .int .i64 a0_3], .agg #[.string a1_0, .slice A1_1 l1_1.length c1_1]] w fun e w' => e = .returned (.string r) ∧ Below w.heap.size w w' := by
 have hu23 := Try.underlying23
 have hu59 := Try.underlying59
 have HR1_1 := am_ hr1_1
 have HC1_1 := am_ hc1_1
 clear hr1_1 hc1_1
 have HB := am_ (Below.refl w.heap.size w)
 have H : ((F60.f k a0_0 a0_1 a0_2 a0_3).bind fun t200 => (if t200 = true then ((F36.f k a1_0 l1_1).bind fun t201 => (if t201 = true then ((F86.f k a0_0 a0_1 a0_2 a0_3 a1_0 l1_1).bind fun t202 => (some t202)) else (some (⟨#[]⟩ : ByteArray)))) else (some (⟨#[]⟩ : ByteArray)))) = some r := h
 clear h
 replace H := bi_ H; rcases H with ⟨t200, A3, H⟩
 replace H := ib_ H; rcases H with ⟨rfl, H⟩ | ⟨rfl, H⟩
 rotate_left
 ·obtain rfl := Option.some.inj H
  go_enter Try.func39, Try.ntmps39
  go_wp2_with (first | ((with_reducible refine gate_dst (N := 2) rfl ?_); refine be_ 2 #[.int .i64 a0_0, .int .i64 a0_1, .int .i64 a0_2, .int .i64 a0_3] 23 ?_; intro gb198 hg w25 hbox hb; have BK198 := am_ (hbox); have GW198 := am_ (gw_ hg bl_); have GE198 := GW198; replace HB := hs_ w hb; clear hb hbox hg) | ((with_reducible refine gate_dst (N := 3) rfl ?_); refine be_ 3 #[.string a1_0, .slice A1_1 l1_1.length c1_1] 59 ?_; intro gb199 hg w26 hbox hb; have BK199 := am_ (hbox); have GW199 := am_ (gw_ hg bl_); have GE199 := GW199; replace HB := hs_ w hb; have NB198_199 := am_ (gn_ hg (blkl_ BK198)); have NB199_198 := am_ (gm_ hg (blkl_ BK198)); replace BK198 := bb_ BK198 hb; clear hb hbox hg; have hnb27 := NB198_199.out; have hnc27 := NB199_198.out; obtain ⟨hcz28_0, hcz28_1, hcz28_2, hcz28_3, hfz28_0, hfz28_1, hfz28_2, hfz28_3⟩ := cellsF4 BK198.out) | ((with_reducible refine gate_callee (f := 60) rfl ?_); refine gl_ 6 Try.func60 #[.agg #[.int .i64 a0_0, .int .i64 a0_1, .int .i64 a0_2, .int .i64 a0_3]] ?_ rfl rfl rfl rfl; (with_reducible refine (F60.calls k a0_0 a0_1 a0_2 a0_3 false _ A3.out).mono ?_); rintro e w29 ⟨rfl, hb⟩; refine ⟨_, rfl, ?_⟩; replace BK198 := bb_ BK198 hb; replace BK199 := bb_ BK199 hb; replace HB := hs_ w hb; (try clear hb)))
  go_ret
  exact ⟨au1_0, bl_⟩

 replace H := bi_ H; rcases H with ⟨t201, A5, H⟩
 replace H := ib_ H; rcases H with ⟨rfl, H⟩ | ⟨rfl, H⟩
 rotate_left
 ·obtain rfl := Option.some.inj H
  go_enter Try.func39, Try.ntmps39
  go_wp2_with (first | ((with_reducible refine gate_dst (N := 2) rfl ?_); refine be_ 2 #[.int .i64 a0_0, .int .i64 a0_1, .int .i64 a0_2, .int .i64 a0_3] 23 ?_; intro gb198 hg w18 hbox hb; have BK198 := am_ (hbox); have GW198 := am_ (gw_ hg bl_); have GE198 := GW198; replace HB := hs_ w hb; clear hb hbox hg) | ((with_reducible refine gate_dst (N := 3) rfl ?_); refine be_ 3 #[.string a1_0, .slice A1_1 l1_1.length c1_1] 59 ?_; intro gb199 hg w19 hbox hb; have BK199 := am_ (hbox); have GW199 := am_ (gw_ hg bl_); have GE199 := GW199; replace HB := hs_ w hb; have NB198_199 := am_ (gn_ hg (blkl_ BK198)); have NB199_198 := am_ (gm_ hg (blkl_ BK198)); replace BK198 := bb_ BK198 hb; clear hb hbox hg; have hnb20 := NB198_199.out; have hnc20 := NB199_198.out; obtain ⟨hcz21_0, hcz21_1, hcz21_2, hcz21_3, hfz21_0, hfz21_1, hfz21_2, hfz21_3⟩ := cellsF4 BK198.out) | ((with_reducible refine gate_callee (f := 60) rfl ?_); refine gl_ 6 Try.func60 #[.agg #[.int .i64 a0_0, .int .i64 a0_1, .int .i64 a0_2, .int .i64 a0_3]] ?_ rfl rfl rfl rfl; (with_reducible refine (F60.calls k a0_0 a0_1 a0_2 a0_3 true _ A3.out).mono ?_); rintro e w22 ⟨rfl, hb⟩; refine ⟨_, rfl, ?_⟩; replace BK198 := bb_ BK198 hb; replace BK199 := bb_ BK199 hb; replace HB := hs_ w hb; (try clear hb); obtain ⟨hcz23_0, hcz23_1, hfz23_0, hfz23_1⟩ := cellsF2 BK199.out) | (go_at_call 36; (with_reducible refine (F36.calls k a1_0 _ _ l1_1 false _ ?s1 ?s2 A5.out).mono ?_); (case s1 => exact au1_4); (case s2 => exact HC1_1.out); rintro e w24 ⟨rfl, hb⟩; replace BK198 := bb_ BK198 hb; replace BK199 := bb_ BK199 hb; replace HB := hs_ w hb; (try clear hb)))
  go_ret
  exact ⟨au1_0, bl_⟩
 replace H := bi_ H; rcases H with ⟨t202, A7, H⟩
 obtain rfl := Option.some.inj H
 go_enter Try.func39, Try.ntmps39
 go_wp2_with (first | ((with_reducible refine gate_dst (N := 2) rfl ?_); refine be_ 2 #[.int .i64 a0_0, .int .i64 a0_1, .int .i64 a0_2, .int .i64 a0_3] 23 ?_; intro gb198 hg w8 hbox hb; have BK198 := am_ (hbox); have GW198 := am_ (gw_ hg bl_); have GE198 := GW198; replace HB := hs_ w hb; clear hb hbox hg) | ((with_reducible refine gate_dst (N := 3) rfl ?_); refine be_ 3 #[.string a1_0, .slice A1_1 l1_1.length c1_1] 59 ?_; intro gb199 hg w9 hbox hb; have BK199 := am_ (hbox); have GW199 := am_ (gw_ hg bl_); have GE199 := GW199; replace HB := hs_ w hb; have NB198_199 := am_ (gn_ hg (blkl_ BK198)); have NB199_198 := am_ (gm_ hg (blkl_ BK198)); replace BK198 := bb_ BK198 hb; clear hb hbox hg; have hnb10 := NB198_199.out; have hnc10 := NB199_198.out; obtain ⟨hcz11_0, hcz11_1, hcz11_2, hcz11_3, hfz11_0, hfz11_1, hfz11_2, hfz11_3⟩ := cellsF4 BK198.out) | ((with_reducible refine gate_callee (f := 60) rfl ?_); refine gl_ 6 Try.func60 #[.agg #[.int .i64 a0_0, .int .i64 a0_1, .int .i64 a0_2, .int .i64 a0_3]] ?_ rfl rfl rfl rfl; (with_reducible refine (F60.calls k a0_0 a0_1 a0_2 a0_3 true _ A3.out).mono ?_); rintro e w12 ⟨rfl, hb⟩; refine ⟨_, rfl, ?_⟩; replace BK198 := bb_ BK198 hb; replace BK199 := bb_ BK199 hb; replace HB := hs_ w hb; (try clear hb); obtain ⟨hcz13_0, hcz13_1, hfz13_0, hfz13_1⟩ := cellsF2 BK199.out) | (go_at_call 36; (with_reducible refine (F36.calls k a1_0 _ _ l1_1 true _ ?s1 ?s2 A5.out).mono ?_); (case s1 => exact au1_4); (case s2 => exact HC1_1.out); rintro e w14 ⟨rfl, hb⟩; replace BK198 := bb_ BK198 hb; replace BK199 := bb_ BK199 hb; replace HB := hs_ w hb; (try clear hb); obtain ⟨hcz15_0, hcz15_1, hcz15_2, hcz15_3, hfz15_0, hfz15_1, hfz15_2, hfz15_3⟩ := cellsF4 BK198.out; obtain ⟨hcz16_0, hcz16_1, hfz16_0, hfz16_1⟩ := cellsF2 BK199.out) | ((with_reducible refine gate_callee (f := 86) rfl ?_); refine gl_ 15 Try.func86 #[.agg #[.int .i64 a0_0, .int .i64 a0_1, .int .i64 a0_2, .int .i64 a0_3], .agg #[.string a1_0, .slice A1_1 l1_1.length c1_1]] ?_ rfl rfl rfl rfl; (with_reducible refine (F86.calls k a0_0 a0_1 a0_2 a0_3 a1_0 _ _ l1_1 t202 _ ?s1 ?s2 A7.out).mono ?_); (case s1 => exact au1_4); (case s2 => exact HC1_1.out); rintro e w17 ⟨rfl, hb⟩; refine ⟨_, rfl, ?_⟩; replace BK198 := bb_ BK198 hb; replace BK199 := bb_ BK199 hb; replace HB := hs_ w hb; (try clear hb)))
 go_ret
 exact ⟨au1_0, bl_⟩
/-! ### F62: function 62 -/
def F62.f (a0_0 : Int) (a0_1 : Int) (a0_2 : Int) (a0_3 : Int) (a1 : Int) : Option (Bool) := if (wrap64 (a1)) = a0_0 then (some true) else (if (wrap64 (a1)) = a0_1 then (some true) else (if (wrap64 (a1)) = a0_2 then (some true) else (some ((wrap64 (a1)) == a0_3))))
theorem F62.calls (a0_0 : Int) (a0_1 : Int) (a0_2 : Int) (a0_3 : Int) (a1 : Int) (r : Bool) (w : World) (h : F62.f a0_0 a0_1 a0_2 a0_3 a1 = some r) :
  Calls Try.prog 62 #[.agg #[.int .i64 a0_0, .int .i64 a0_1, .int .i64 a0_2, .int .i64 a0_3], .int .u8 a1] w fun e w' => e = .returned (.bool r) ∧ Below w.heap.size w w' := by
 have hu23 := Try.underlying23
 have HB := am_ (Below.refl w.heap.size w)
 have H : (if (wrap64 (a1)) = a0_0 then (some true) else (if (wrap64 (a1)) = a0_1 then (some true) else (if (wrap64 (a1)) = a0_2 then (some true) else (some ((wrap64 (a1)) == a0_3))))) = some r := h
 clear h
 by_cases c3 : (wrap64 (a1)) = a0_0
 ·rw [if_pos c3] at H
  have c3b0 : ((wrap64 (a1)) == a0_0) = true := beq_iff_eq.mpr c3
  have c3b1 : ((wrap64 (a1)) != a0_0) = false := bne_eq_false_iff_eq.mpr c3
  clear c3
  obtain rfl := Option.some.inj H
  go_enter Try.func62, Try.ntmps62
  go_wp2_with (first | ((with_reducible refine gate_dst (N := 2) rfl ?_); refine be_ 2 #[.int .i64 a0_0, .int .i64 a0_1, .int .i64 a0_2, .int .i64 a0_3] 23 ?_; intro gb203 hg w4 hbox hb; have BK203 := am_ (hbox); have GW203 := am_ (gw_ hg bl_); have GE203 := GW203; replace HB := hs_ w hb; clear hb hbox hg; obtain ⟨hcz5_0, hcz5_1, hcz5_2, hcz5_3, hfz5_0, hfz5_1, hfz5_2, hfz5_3⟩ := cellsF4 BK203.out))
  go_ret
  exact ⟨au1_0, bl_⟩
 rw [if_neg c3] at H
 have c3b0 : ((wrap64 (a1)) == a0_0) = false := beq_eq_false_iff_ne.mpr c3
 have c3b1 : ((wrap64 (a1)) != a0_0) = true := bne_iff_ne.mpr c3
 by_cases c6 : (wrap64 (a1)) = a0_1
 ·rw [if_pos c6] at H
  have c6b0 : ((wrap64 (a1)) == a0_1) = true := beq_iff_eq.mpr c6
  have c6b1 : ((wrap64 (a1)) != a0_1) = false := bne_eq_false_iff_eq.mpr c6
  clear c6
  obtain rfl := Option.some.inj H
  go_enter Try.func62, Try.ntmps62
  go_wp2_with (first | ((with_reducible refine gate_dst (N := 2) rfl ?_); refine be_ 2 #[.int .i64 a0_0, .int .i64 a0_1, .int .i64 a0_2, .int .i64 a0_3] 23 ?_; intro gb203 hg w7 hbox hb; have BK203 := am_ (hbox); have GW203 := am_ (gw_ hg bl_); have GE203 := GW203; replace HB := hs_ w hb; clear hb hbox hg; obtain ⟨hcz8_0, hcz8_1, hcz8_2, hcz8_3, hfz8_0, hfz8_1, hfz8_2, hfz8_3⟩ := cellsF4 BK203.out))
  go_ret
  exact ⟨au1_0, bl_⟩
 rw [if_neg c6] at H
 have c6b0 : ((wrap64 (a1)) == a0_1) = false := beq_eq_false_iff_ne.mpr c6
 have c6b1 : ((wrap64 (a1)) != a0_1) = true := bne_iff_ne.mpr c6
 by_cases c9 : (wrap64 (a1)) = a0_2
 rotate_left
 ·rw [if_neg c9] at H
  have c9b0 : ((wrap64 (a1)) == a0_2) = false := beq_eq_false_iff_ne.mpr c9
  have c9b1 : ((wrap64 (a1)) != a0_2) = true := bne_iff_ne.mpr c9
  obtain rfl := Option.some.inj H
  go_enter Try.func62, Try.ntmps62
  go_wp2_with (first | ((with_reducible refine gate_dst (N := 2) rfl ?_); refine be_ 2 #[.int .i64 a0_0, .int .i64 a0_1, .int .i64 a0_2, .int .i64 a0_3] 23 ?_; intro gb203 hg w12 hbox hb; have BK203 := am_ (hbox); have GW203 := am_ (gw_ hg bl_); have GE203 := GW203; replace HB := hs_ w hb; clear hb hbox hg; obtain ⟨hcz13_0, hcz13_1, hcz13_2, hcz13_3, hfz13_0, hfz13_1, hfz13_2, hfz13_3⟩ := cellsF4 BK203.out))
  go_ret
  exact ⟨au1_0, bl_⟩

 rw [if_pos c9] at H
 have c9b0 : ((wrap64 (a1)) == a0_2) = true := beq_iff_eq.mpr c9
 have c9b1 : ((wrap64 (a1)) != a0_2) = false := bne_eq_false_iff_eq.mpr c9
 clear c9
 obtain rfl := Option.some.inj H
 go_enter Try.func62, Try.ntmps62
 go_wp2_with (first | ((with_reducible refine gate_dst (N := 2) rfl ?_); refine be_ 2 #[.int .i64 a0_0, .int .i64 a0_1, .int .i64 a0_2, .int .i64 a0_3] 23 ?_; intro gb203 hg w10 hbox hb; have BK203 := am_ (hbox); have GW203 := am_ (gw_ hg bl_); have GE203 := GW203; replace HB := hs_ w hb; clear hb hbox hg; obtain ⟨hcz11_0, hcz11_1, hcz11_2, hcz11_3, hfz11_0, hfz11_1, hfz11_2, hfz11_3⟩ := cellsF4 BK203.out))
 go_ret
 exact ⟨au1_0, bl_⟩
/-! ### F18: function 18 -/
def F18.l0 : Nat → ByteArray → List Int → Int → Int → Int → Int → Int → Option (ByteArray × Int × Int)
  | 0, _, _, _, _, _, _, _ => none
  | k + 1, x1, x5, x6, x205000, x205001, x205002, x205003 => if x6 < (x1.size : Int) then (if 0 ≤ x6 then ((F62.f x205000 x205001 x205002 x205003 (bt x1 x6)).bind fun t210 => (if t210 = true then (if (wrap64 (bt x1 x6)) = x205003 then (if (wrap64 (x6 + 1)) = (x1.size : Int) then (some ((⟨#[]⟩ : ByteArray), x6, 3)) else (if 0 ≤ (wrap64 (x6 + 1)) then (if (wrap64 (x6 + 1)) < (x1.size : Int) then ((F62.f x205000 x205001 x205002 x205003 (bt x1 (wrap64 (x6 + 1)))).bind fun t211 => (if t211 = true then (if x5.length < 140737488355328 then (F18.l0 k x1 (x5 ++ [bt x1 (wrap64 (x6 + 1))]) (wrap64 ((wrap64 (x6 + 1)) + 1)) x205000 x205001 x205002 x205003) else (none)) else (some ((⟨#[]⟩ : ByteArray), x6, 3)))) else (none)) else (none))) else (some ((⟨#[]⟩ : ByteArray), x6, 3))) else (if x5.length < 140737488355328 then (F18.l0 k x1 (x5 ++ [bt x1 x6]) (wrap64 (x6 + 1)) x205000 x205001 x205002 x205003) else (none)))) else (none)) else (some (strOfNums x5, 0, 0))
def F18.f (k : Nat) (a0_0 : Int) (a0_1 : Int) (a0_2 : Int) (a0_3 : Int) (a1 : ByteArray) : Option (ByteArray × Int × Int) := if (a1.size : Int) > 20000 then (some ((⟨#[]⟩ : ByteArray), 0, 2)) else ((F23.f k a0_0 a0_1 a0_2 a0_3).bind fun t206 => (if t206 = true then (F18.l0 k a1 (([] : List Int)) 0 a0_0 a0_1 a0_2 a0_3) else (some ((⟨#[]⟩ : ByteArray), 0, 1))))
theorem F18.mono_l : ∀ k, (∀ y0 y1 y2 y3 y4 y5 y6, LeO (F18.l0 k y0 y1 y2 y3 y4 y5 y6) (F18.l0 (k + 1) y0 y1 y2 y3 y4 y5 y6))
 | 0 => fun _ _ _ _ _ _ _ r h => by simp [F18.l0] at h
 | k + 1 => by
  have ih0 := F18.mono_l k
  intro y0 y1 y2 y3 y4 y5 y6
  unfold F18.l0
  repeat' with_reducible first | exact ih0 _ _ _ _ _ _ _ | exact F23.mono _ _ _ _ _ | exact LeO.refl _ | exact LeO.none _ | refine LeO.ite ?_ ?_ | refine LeO.bind ?_ (fun _ => ?_)
theorem F18.mono : ∀ a0 a1 a2 a3 a4 k, LeO (F18.f k a0 a1 a2 a3 a4) (F18.f (k + 1) a0 a1 a2 a3 a4) := by
 intro a0 a1 a2 a3 a4 k
 have ih0 := F18.mono_l k
 unfold F18.f
 repeat' with_reducible first | exact ih0 _ _ _ _ _ _ _ | exact F23.mono _ _ _ _ _ | exact LeO.refl _ | exact LeO.none _ | refine LeO.ite ?_ ?_ | refine LeO.bind ?_ (fun _ => ?_)
def F18.T11 : Bool × List (List Nat × List Nat) := (true, [([], []), ([0], [0]), ([], []), ([2], [2]), ([1, 3], [1, 3]), ([4], [4]), ([5], [5]), ([6, 5], [5, 6]), ([5], [5]), ([8, 5], [5, 8]), ([7, 9, 5], [5, 7, 9]), ([5, 10], [5, 10]), ([11, 5], [11]), ([12], [12]), ([12], [12]), ([12], [12]), ([15, 12], [12, 15]), ([14, 16, 12], [12, 14, 16]), ([13, 17, 12, 12], [12, 13, 17]), ([18, 12], [12, 18]), ([12, 19], [12, 19])])
def F18.B11 : List Nat := [0, 1, 0, 4, 15, 31, 63, 127, 63, 319, 1023, 2047, 4095, 8191, 8191, 8191, 40959, 122879, 262143, 524287, 1048575]
theorem F18.tab11 : rtab .any (opsOf Try.f18 11) = F18.T11 := by kernel_rfl
theorem F18.bits11 : waitsOk F18.T11.2 F18.B11 = true := by kernel_rfl
theorem F18.calls (k : Nat) (a0_0 : Int) (a0_1 : Int) (a0_2 : Int) (a0_3 : Int) (a1 : ByteArray) (r1 : ByteArray) (r2 : Int) (r3 : Int) (w : World) (h : F18.f k a0_0 a0_1 a0_2 a0_3 a1 = some (r1, r2, r3)) :
  Calls Try.prog 18 #[.agg #[.int .i64 a0_0, .int .i64 a0_1, .int .i64 a0_2, .int .i64 a0_3], .string a1] w fun e w' => e = .returned (.agg #[.string r1, .int .i64 r2, .int .i64 r3]) ∧ Below w.heap.size w w' := by
 have hu23 := Try.underlying23
 have hu31 := Try.underlying31
 have HB := am_ (Below.refl w.heap.size w)
 have H : (if (a1.size : Int) > 20000 then (some ((⟨#[]⟩ : ByteArray), 0, 2)) else ((F23.f k a0_0 a0_1 a0_2 a0_3).bind fun t206 => (if t206 = true then (F18.l0 k a1 (([] : List Int)) 0 a0_0 a0_1 a0_2 a0_3) else (some ((⟨#[]⟩ : ByteArray), 0, 1))))) = some (r1, r2, r3) := h
 clear h
 replace H := it_ H; rcases H with ⟨(c3b0 : decide (20000 < (a1.size : Int)) = true), H⟩ | ⟨(c3b0 : decide (20000 < (a1.size : Int)) = false), H⟩
 ·have c3b1 : decide (20000 < a1.size) = true := n2_ c3b0
  simp only [Option.some.injEq, Prod.mk.injEq] at H
  obtain ⟨rfl, rfl, rfl⟩ := H
  go_enter Try.func18, Try.ntmps18
  go_wp2_with (first | ((with_reducible refine gate_dst (N := 2) rfl ?_); (try (refine gate_guard (by rfl) ?_; dsimp only)); refine be_ 2 #[.int .i64 a0_0, .int .i64 a0_1, .int .i64 a0_2, .int .i64 a0_3] 23 ?_; intro gb204 hg w4 hbox hb; have BK204 := am_ (hbox); have GW204 := am_ (gw_ hg bl_); have GE204 := GW204; replace HB := hs_ w hb; clear hb hbox hg) | ((with_reducible refine gate_dst (N := 4) rfl ?_); (try (refine gate_guard (by rfl) ?_; dsimp only)); refine be_ 4 #[.string (⟨#[]⟩ : ByteArray), .int .i64 0, .int .i64 0] 31 ?_; intro gb205 hg w5 hbox hb; have BK205 := am_ (hbox); have GW205 := am_ (gw_ hg bl_); have GE205 := GW205; replace HB := hs_ w hb; have NB204_205 := am_ (gn_ hg (blkl_ BK204)); have NB205_204 := am_ (gm_ hg (blkl_ BK204)); replace BK204 := bb_ BK204 hb; clear hb hbox hg; have hnb6 := NB205_204.out; have hnc6 := NB204_205.out; obtain ⟨hcz7_0, hcz7_1, hcz7_2, hfz7_0, hfz7_1, hfz7_2⟩ := cellsF3 BK205.out))
  refine bodyPost_ret (results_cell_row rfl _ _ gb205 31 #[.string (⟨#[]⟩ : ByteArray), .int .i64 0, .int .i64 2] (0, 0) _ rfl (bq_ BK205) Try.underlying31 rfl (by kernel_rfl)) rfl ?_
  exact ⟨au1_0, bl_⟩
 have c3b1 : decide (20000 < a1.size) = false := n2_ c3b0
 replace H := bi_ H; rcases H with ⟨t206, A8, H⟩
 replace H := ib_ H; rcases H with ⟨rfl, H⟩ | ⟨rfl, H⟩
 rotate_left
 ·simp only [Option.some.injEq, Prod.mk.injEq] at H
  obtain ⟨rfl, rfl, rfl⟩ := H
  go_enter Try.func18, Try.ntmps18
  go_wp2_with (first | ((with_reducible refine gate_dst (N := 2) rfl ?_); (try (refine gate_guard (by rfl) ?_; dsimp only)); refine be_ 2 #[.int .i64 a0_0, .int .i64 a0_1, .int .i64 a0_2, .int .i64 a0_3] 23 ?_; intro gb204 hg w62 hbox hb; have BK204 := am_ (hbox); have GW204 := am_ (gw_ hg bl_); have GE204 := GW204; replace HB := hs_ w hb; clear hb hbox hg) | ((with_reducible refine gate_dst (N := 4) rfl ?_); (try (refine gate_guard (by rfl) ?_; dsimp only)); refine be_ 4 #[.string (⟨#[]⟩ : ByteArray), .int .i64 0, .int .i64 0] 31 ?_; intro gb205 hg w63 hbox hb; have BK205 := am_ (hbox); have GW205 := am_ (gw_ hg bl_); have GE205 := GW205; replace HB := hs_ w hb; have NB204_205 := am_ (gn_ hg (blkl_ BK204)); have NB205_204 := am_ (gm_ hg (blkl_ BK204)); replace BK204 := bb_ BK204 hb; clear hb hbox hg; have hnb64 := NB204_205.out; have hnc64 := NB205_204.out; obtain ⟨hcz65_0, hcz65_1, hcz65_2, hcz65_3, hfz65_0, hfz65_1, hfz65_2, hfz65_3⟩ := cellsF4 BK204.out) | (go_at_call 23; (with_reducible refine (F23.calls k a0_0 a0_1 a0_2 a0_3 false _ A8.out).mono ?_); rintro e w66 ⟨rfl, hb⟩; (try clear A8); replace BK204 := bb_ BK204 hb; replace BK205 := bb_ BK205 hb; replace HB := hs_ w hb; (try clear hb); obtain ⟨hcz67_0, hcz67_1, hcz67_2, hfz67_0, hfz67_1, hfz67_2⟩ := cellsF3 BK205.out))
  refine bodyPost_ret (results_cell_row rfl _ _ gb205 31 #[.string (⟨#[]⟩ : ByteArray), .int .i64 0, .int .i64 1] (0, 0) _ rfl (bq_ BK205) Try.underlying31 rfl (by kernel_rfl)) rfl ?_
  exact ⟨au1_0, bl_⟩

 obtain ⟨y207, hy207⟩ : ∃ y_ : List Int, y_ = (([] : List Int)) := ⟨_, rfl⟩
 replace H : (F18.l0 k a1 y207 0 a0_0 a0_1 a0_2 a0_3) = some (r1, r2, r3) := by first | (rw [hy207]; exact H) | exact H
 have Ny207 := am_ hy207
 clear hy207
 have H' := am_ H
 clear H
 go_enter Try.func18, Try.ntmps18
 go_wp2_with (first | ((with_reducible refine gate_dst (N := 2) rfl ?_); (try (refine gate_guard (by rfl) ?_; dsimp only)); refine be_ 2 #[.int .i64 a0_0, .int .i64 a0_1, .int .i64 a0_2, .int .i64 a0_3] 23 ?_; intro gb204 hg w10 hbox hb; have BK204 := am_ (hbox); have GW204 := am_ (gw_ hg bl_); have GE204 := GW204; replace HB := hs_ w hb; clear hb hbox hg) | ((with_reducible refine gate_dst (N := 4) rfl ?_); (try (refine gate_guard (by rfl) ?_; dsimp only)); refine be_ 4 #[.string (⟨#[]⟩ : ByteArray), .int .i64 0, .int .i64 0] 31 ?_; intro gb205 hg w11 hbox hb; have BK205 := am_ (hbox); have GW205 := am_ (gw_ hg bl_); have GE205 := GW205; replace HB := hs_ w hb; have NB204_205 := am_ (gn_ hg (blkl_ BK204)); have NB205_204 := am_ (gm_ hg (blkl_ BK204)); replace BK204 := bb_ BK204 hb; clear hb hbox hg; have hnb12 := NB204_205.out; have hnc12 := NB205_204.out; obtain ⟨hcz13_0, hcz13_1, hcz13_2, hcz13_3, hfz13_0, hfz13_1, hfz13_2, hfz13_3⟩ := cellsF4 BK204.out) | (go_at_call 23; (with_reducible refine (F23.calls k a0_0 a0_1 a0_2 a0_3 true _ A8.out).mono ?_); rintro e w14 ⟨rfl, hb⟩; (try clear A8); replace BK204 := bb_ BK204 hb; replace BK205 := bb_ BK205 hb; replace HB := hs_ w hb; (try clear hb)) | ((with_reducible refine gate_dst (N := 16) rfl ?_); (try (refine gate_guard (by rfl) ?_; dsimp only)); refine Kd.R_lit (Kd.int .u8) _ 5 ?hg (N := 16) ?hd (xs := ([] : List Int)) (inner := []) (ok := fun _ => True) (okp := fun _ => True) ?hr ?hp (fun _ hk => hk) trivial (Below.refl _ _) (Nat.le_refl _) (by simp) ?_; (case hd => rfl); (case hg => rfl); (case hr => exact hr_); (case hp => exact (Reps.none _ _)); intro v208 w15 ho16 hb hg_ hnew_; clear hg_ hnew_; (first | rw [← Ny207.out] at ho16 | (simp only [Int.reduceToNat] at ho16; rw [← Ny207.out] at ho16)); have HO209 := am_ (Kd.R_lower ho16 (below_size bl_)); replace BK204 := bb_ BK204 hb; replace BK205 := bb_ BK205 hb; replace HB := hs_ w hb; clear hb ho16))
 go_loopg [5, 6] k (fun kq v5 v6 w' => ∃ (x5_1 : List Int) (x6_1 : Int) (x206000_1 : ByteArray) (x206001_1 : Int) (x206002_1 : Int), v6 = .int .i64 x6_1 ∧ Aside0 (F18.l0 kq a1 x5_1 x6_1 a0_0 a0_1 a0_2 a0_3 = some (r1, r2, r3)) ∧ Aside0 (kq ≤ k) ∧ Aside0 (Kd.R (Kd.int .u8) 5 w' w.heap.size (fun _ => True) v5 x5_1) ∧ Aside0 (w'.heap[gb204]? = some (.cells #[.int .i64 a0_0, .int .i64 a0_1, .int .i64 a0_2, .int .i64 a0_3] 23 (0, 0))) ∧ Aside0 (w'.heap[gb205]? = some (.cells #[.string x206000_1, .int .i64 x206001_1, .int .i64 x206002_1] 31 (0, 0))) ∧ Aside0 (Below w.heap.size w w'))
 case atStart => exact ⟨(y207), (0), ((⟨#[]⟩ : ByteArray)), (0), (0), er_, H', ⟨Nat.le_refl _⟩, ⟨rk_ HO209⟩, ⟨bk_ BK204⟩, ⟨bk_ BK205⟩, ⟨bl_⟩⟩
 case round =>
  clear H'
  try clear c3b0
  try clear c3b1
  try clear hcz13_0 hcz13_1 hcz13_2 hcz13_3
  try clear hcz7_0 hcz7_1 hcz7_2
  try clear hfz13_0 hfz13_1 hfz13_2 hfz13_3
  try clear hfz7_0 hfz7_1 hfz7_2
  obtain ⟨x5_1, x6_1, x206000_1, x206001_1, x206002_1, rfl, HA, HK1, HO_5, BK204, BK205, HB⟩ := hrel
  cases gk with
  | zero => exact absurd HA.out (by simp [F18.l0])
  | succ k1 =>
   have H := HA.out
   clear HA
   simp only [F18.l0] at H
   replace H := it_ H; rcases H with ⟨c17b0, H⟩ | ⟨c17b0, H⟩
   rotate_left
   ·simp only [Option.some.injEq, Prod.mk.injEq] at H
    obtain ⟨rfl, rfl, rfl⟩ := H
    have hcv59 := own_string (P := Try.prog) Try.underlying36 Try.underlying5 Try.underlying9 (Kd.own_of_R HO_5.out)
    have hnb60 := NB205_204.out
    have hnc60 := NB204_205.out
    obtain ⟨hcz61_0, hcz61_1, hcz61_2, hfz61_0, hfz61_1, hfz61_2⟩ := cellsF3 BK205.out
    go_wp2
    refine bodyPost_ret (results_cell_row rfl _ _ gb205 31 #[.string (strOfNums x5_1), .int .i64 0, .int .i64 0] (0, 0) _ rfl (bq_ BK205) Try.underlying31 rfl (by kernel_rfl)) rfl ?_
    exact ⟨au1_0, bl_⟩
   replace H := itn_ H; rcases H with ⟨c18b0, H⟩
   replace H := bi_ H; rcases H with ⟨t210, A20, H⟩
   replace H := ib_ H; rcases H with ⟨rfl, H⟩ | ⟨rfl, H⟩
   rotate_left
   ·replace H := iln_ H; rcases H with ⟨LMc54, H⟩
    obtain ⟨y215, hy215⟩ : ∃ y_ : List Int, y_ = (x5_1 ++ [bt a1 x6_1]) := ⟨_, rfl⟩
    replace H : (F18.l0 k1 a1 y215 (wrap64 (x6_1 + 1)) a0_0 a0_1 a0_2 a0_3) = some (r1, r2, r3) := by first | (rw [hy215]; exact H) | exact H
    have Ny215 := am_ hy215
    clear hy215
    have H' := am_ H
    clear H
    have p19 : 0 ≤ (x6_1 : Int) := od_
    have q19 : x6_1 < (a1.size : Int) := od_
    have hx19 := bt_at a1 x6_1
    replace p19 := eq_true p19
    replace q19 := eq_true q19
    have hnb55 := NB204_205.out
    have hnc55 := NB205_204.out
    obtain ⟨hcz56_0, hcz56_1, hcz56_2, hcz56_3, hfz56_0, hfz56_1, hfz56_2, hfz56_3⟩ := cellsF4 BK204.out
    go_wp2_with (first | (go_at_call 62; (with_reducible refine (F62.calls a0_0 a0_1 a0_2 a0_3 (bt a1 x6_1) false _ A20.out).mono ?_); rintro e w57 ⟨rfl, hb⟩; (try clear A20); replace HO_5 := am_ (Kd.R_below (rk_ HO_5) hb); replace BK204 := bb_ BK204 hb; replace BK205 := bb_ BK205 hb; replace HB := hs_ w hb; (try clear hb)) | ((with_reducible refine gate_builtin (b := .append) (xs := #[.tmp 57, .tmp 59]) rfl ?_); (try (refine gate_guard (by rfl) ?_; dsimp only)); at_builtin; refine Kd.R_append (Kd.int .u8) (w0 := w) w.heap.size rfl (.tmp 57) (.tmp 59) 36 5 (.int .u8 0) 1 rfl Try.underlying36 info5 rfl (by decide) (by omega) u5 x5_1 (bt a1 x6_1) [.int .u8 (bt a1 x6_1)] (fun _ => True) (fun _ => False) rfl rfl ?aP (fun _ hk => hk.elim) ?aF ?aO ?aB ?aS ?aL ?_; (case aP => exact rfl); (case aB => exact bl_); (case aF => exact (fun _ _ => trivial)); (case aO => exact (rk_ HO_5)); (case aS => exact (below_size bl_)); (case aL => have := LMc54.out; omega); intro v216 w58 ho hb hg hat; rw [← Ny215.out] at ho; have n0_ := am_ (bg_ BK204 hg (Kd.R_ne HO_5.out BK204.out (by decide))); have n1_ := am_ (bg_ BK205 hg (Kd.R_ne HO_5.out BK205.out (by decide))); have n2_ := am_ (hb); have n3_ := am_ (ho); clear BK204; clear BK205; clear HB; clear HO_5; have BK204 := n0_; have BK205 := n1_; have HB := n2_; have HO217 := n3_; clear n0_ n1_ n2_ n3_; clear ho hb hg hat))
    go_roundg k1
    case measure => have := HK1.out; omega
    case rel => exact ⟨(y215), (wrap64 (x6_1 + 1)), (x206000_1), (x206001_1), (x206002_1), er_, H', ⟨by have := HK1.out; omega⟩, ⟨rk_ HO217⟩, ⟨bk_ BK204⟩, ⟨bk_ BK205⟩, ⟨bl_⟩⟩
   by_cases c22 : (wrap64 (bt a1 x6_1)) = a0_3
   rotate_left
   ·rw [if_neg c22] at H
    have c22b0 : ((wrap64 (bt a1 x6_1)) == a0_3) = false := beq_eq_false_iff_ne.mpr c22
    have c22b1 : ((wrap64 (bt a1 x6_1)) != a0_3) = true := bne_iff_ne.mpr c22
    simp only [Option.some.injEq, Prod.mk.injEq] at H
    obtain ⟨rfl, rfl, rfl⟩ := H
    have p19 : 0 ≤ (x6_1 : Int) := od_
    have q19 : x6_1 < (a1.size : Int) := od_
    have hx19 := bt_at a1 x6_1
    replace p19 := eq_true p19
    replace q19 := eq_true q19
    have hnb49 := NB204_205.out
    have hnc49 := NB205_204.out
    obtain ⟨hcz50_0, hcz50_1, hcz50_2, hcz50_3, hfz50_0, hfz50_1, hfz50_2, hfz50_3⟩ := cellsF4 BK204.out
    try go_wp2_with (first | (go_at_call 62; (with_reducible refine (F62.calls a0_0 a0_1 a0_2 a0_3 (bt a1 x6_1) true _ A20.out).mono ?_); rintro e w51 ⟨rfl, hb⟩; (try clear A20); replace HO_5 := am_ (Kd.R_below (rk_ HO_5) hb); replace BK204 := bb_ BK204 hb; replace BK205 := bb_ BK205 hb; replace HB := hs_ w hb; (try clear hb)))
    replace HO_5 := am_ (Kd.R_drew HO_5.out)
    replace BK204 := bd_ BK204
    replace BK205 := bd_ BK205
    replace HB := am_ (below_drew1 HB.out)
    refine start_ (n := 21) (S := fun w' => w'.cell? ⟨gb204, 0, none⟩ = some (.int .i64 a0_0) ∧ w'.cell? ⟨gb204, 1, none⟩ = some (.int .i64 a0_1) ∧ w'.cell? ⟨gb204, 2, none⟩ = some (.int .i64 a0_2) ∧ w'.cell? ⟨gb204, 3, none⟩ = some (.int .i64 a0_3)) (ds := []) (bs 21 0) (by kernel_rfl) rfl rfl ⟨(blk_cell BK204.out 0).trans rfl, (blk_cell BK204.out 1).trans rfl, (blk_cell BK204.out 2).trans rfl, (blk_cell BK204.out 3).trans rfl⟩ (fun hHeld => ?_); refine with_tabW F18.tab11 F18.bits11 (fun HT_ HW_ => ?_)
    generalize w51.drew = w52 at HO_5 BK204 BK205 HB hHeld ⊢
    refine pu_ 0 29 (bs 21 1) HT_ ?_ rfl rfl
    refine pu_ 1 30 (bs 21 3) HT_ ?_ rfl rfl
    refine pu_ 2 31 (bs 21 7) HT_ ?_ rfl rfl
    refine tk_ 3 32 (bs 21 15) HT_ HW_ hHeld au1_3 ?_ rfl rfl
    refine pu_ 4 33 (bs 21 31) HT_ ?_ rfl rfl
    refine pu_ 5 34 (bs 21 63) HT_ ?_ rfl rfl
    refine pv_ 6 35 (bs 21 127) HT_ ?_ rfl rfl
    refine pv_ 7 36 (bs 21 255) HT_ ?_ rfl rfl
    refine pv_ 8 37 (bs 21 511) HT_ ?_ rfl rfl
    refine pv_ 9 38 (bs 21 1023) HT_ ?_ rfl rfl
    refine pv_ 10 39 (bs 21 2047) HT_ ?_ rfl rfl
    refine pu_ 11 40 (bs 21 4095) HT_ ?_ rfl rfl
    refine pu_ 12 41 (bs 21 8191) HT_ ?_ rfl rfl
    refine pv_ 13 42 (bs 21 16383) HT_ ?_ rfl rfl
    refine pv_ 14 43 (bs 21 32767) HT_ ?_ rfl rfl
    refine pv_ 15 44 (bs 21 65535) HT_ ?_ rfl rfl
    refine pv_ 16 45 (bs 21 131071) HT_ ?_ rfl rfl
    refine pv_ 17 46 (bs 21 262143) HT_ ?_ rfl rfl
    refine pv_ 18 47 (bs 21 524287) HT_ ?_ rfl rfl
    refine pv_ 19 48 (bs 21 1048575) HT_ ?_ rfl rfl
    refine pu_ 20 49 (bs 21 2097151) HT_ ?_ rfl rfl
    refine done_ (done_of HT_.out (by kernel_rfl)) ?_
    obtain ⟨hcz53_0, hcz53_1, hcz53_2, hfz53_0, hfz53_1, hfz53_2⟩ := cellsF3 BK205.out
    try go_wp2
    refine bodyPost_ret (results_cell_row rfl _ _ gb205 31 #[.string (⟨#[]⟩ : ByteArray), .int .i64 x6_1, .int .i64 3] (0, 0) _ rfl (bq_ BK205) Try.underlying31 rfl (by kernel_rfl)) rfl ?_
    exact ⟨au1_0, bl_⟩
   rw [if_pos c22] at H
   have c22b0 : ((wrap64 (bt a1 x6_1)) == a0_3) = true := beq_iff_eq.mpr c22
   have c22b1 : ((wrap64 (bt a1 x6_1)) != a0_3) = false := bne_eq_false_iff_eq.mpr c22
   clear c22
   by_cases c23 : (wrap64 (x6_1 + 1)) = (a1.size : Int)
   ·rw [if_pos c23] at H
    have c23b0 : ((wrap64 (x6_1 + 1)) == (a1.size : Int)) = true := beq_iff_eq.mpr c23
    have c23b1 : ((wrap64 (x6_1 + 1)) != (a1.size : Int)) = false := bne_eq_false_iff_eq.mpr c23
    clear c23
    simp only [Option.some.injEq, Prod.mk.injEq] at H
    obtain ⟨rfl, rfl, rfl⟩ := H
    have p19 : 0 ≤ (x6_1 : Int) := od_
    have q19 : x6_1 < (a1.size : Int) := od_
    have hx19 := bt_at a1 x6_1
    replace p19 := eq_true p19
    replace q19 := eq_true q19
    have hnb24 := NB204_205.out
    have hnc24 := NB205_204.out
    obtain ⟨hcz25_0, hcz25_1, hcz25_2, hcz25_3, hfz25_0, hfz25_1, hfz25_2, hfz25_3⟩ := cellsF4 BK204.out
    try go_wp2_with (first | (go_at_call 62; (with_reducible refine (F62.calls a0_0 a0_1 a0_2 a0_3 (bt a1 x6_1) true _ A20.out).mono ?_); rintro e w26 ⟨rfl, hb⟩; (try clear A20); replace HO_5 := am_ (Kd.R_below (rk_ HO_5) hb); replace BK204 := bb_ BK204 hb; replace BK205 := bb_ BK205 hb; replace HB := hs_ w hb; (try clear hb)))
    replace HO_5 := am_ (Kd.R_drew HO_5.out)
    replace BK204 := bd_ BK204
    replace BK205 := bd_ BK205
    replace HB := am_ (below_drew1 HB.out)
    refine start_ (n := 21) (S := fun w' => w'.cell? ⟨gb204, 0, none⟩ = some (.int .i64 a0_0) ∧ w'.cell? ⟨gb204, 1, none⟩ = some (.int .i64 a0_1) ∧ w'.cell? ⟨gb204, 2, none⟩ = some (.int .i64 a0_2) ∧ w'.cell? ⟨gb204, 3, none⟩ = some (.int .i64 a0_3)) (ds := []) (bs 21 0) (by kernel_rfl) rfl rfl ⟨(blk_cell BK204.out 0).trans rfl, (blk_cell BK204.out 1).trans rfl, (blk_cell BK204.out 2).trans rfl, (blk_cell BK204.out 3).trans rfl⟩ (fun hHeld => ?_); refine with_tabW F18.tab11 F18.bits11 (fun HT_ HW_ => ?_)
    generalize w26.drew = w27 at HO_5 BK204 BK205 HB hHeld ⊢
    refine pu_ 0 29 (bs 21 1) HT_ ?_ rfl rfl
    refine pu_ 1 30 (bs 21 3) HT_ ?_ rfl rfl
    refine pu_ 2 31 (bs 21 7) HT_ ?_ rfl rfl
    refine tk_ 3 32 (bs 21 15) HT_ HW_ hHeld au1_3 ?_ rfl rfl
    refine pu_ 4 33 (bs 21 31) HT_ ?_ rfl rfl
    refine pu_ 5 34 (bs 21 63) HT_ ?_ rfl rfl
    refine pu_ 6 35 (bs 21 127) HT_ ?_ rfl rfl
    refine pu_ 7 36 (bs 21 255) HT_ ?_ rfl rfl
    refine pu_ 8 37 (bs 21 511) HT_ ?_ rfl rfl
    refine pu_ 9 38 (bs 21 1023) HT_ ?_ rfl rfl
    refine pu_ 10 39 (bs 21 2047) HT_ ?_ rfl rfl
    refine pu_ 11 40 (bs 21 4095) HT_ ?_ rfl rfl
    refine pu_ 12 41 (bs 21 8191) HT_ ?_ rfl rfl
    refine pv_ 13 42 (bs 21 16383) HT_ ?_ rfl rfl
    refine pv_ 14 43 (bs 21 32767) HT_ ?_ rfl rfl
    refine pv_ 15 44 (bs 21 65535) HT_ ?_ rfl rfl
    refine pv_ 16 45 (bs 21 131071) HT_ ?_ rfl rfl
    refine pv_ 17 46 (bs 21 262143) HT_ ?_ rfl rfl
    refine pv_ 18 47 (bs 21 524287) HT_ ?_ rfl rfl
    refine pv_ 19 48 (bs 21 1048575) HT_ ?_ rfl rfl
    refine pu_ 20 49 (bs 21 2097151) HT_ ?_ rfl rfl
    refine done_ (done_of HT_.out (by kernel_rfl)) ?_
    obtain ⟨hcz28_0, hcz28_1, hcz28_2, hfz28_0, hfz28_1, hfz28_2⟩ := cellsF3 BK205.out
    try go_wp2
    refine bodyPost_ret (results_cell_row rfl _ _ gb205 31 #[.string (⟨#[]⟩ : ByteArray), .int .i64 x6_1, .int .i64 3] (0, 0) _ rfl (bq_ BK205) Try.underlying31 rfl (by kernel_rfl)) rfl ?_
    exact ⟨au1_0, bl_⟩
   rw [if_neg c23] at H
   have c23b0 : ((wrap64 (x6_1 + 1)) == (a1.size : Int)) = false := beq_eq_false_iff_ne.mpr c23
   have c23b1 : ((wrap64 (x6_1 + 1)) != (a1.size : Int)) = true := bne_iff_ne.mpr c23
   obtain ⟨ji29, hji29⟩ : ∃ j_ : Int, (wrap64 (x6_1 + 1)) = j_ := ⟨_, rfl⟩
   replace H : (if 0 ≤ (ji29) then (if (ji29) < (a1.size : Int) then ((F62.f a0_0 a0_1 a0_2 a0_3 (bt a1 (ji29))).bind fun t211 => (if t211 = true then (if x5_1.length < 140737488355328 then (F18.l0 k1 a1 (x5_1 ++ [bt a1 (ji29)]) (wrap64 ((ji29) + 1)) a0_0 a0_1 a0_2 a0_3) else (none)) else (some ((⟨#[]⟩ : ByteArray), x6_1, 3)))) else (none)) else (none)) = some (r1, r2, r3) := by first | (rw [hji29] at H; exact H) | (simp only [hji29] at H ⊢; exact H)
   (try rw [hji29] at c23b0)
   (try rw [hji29] at c23b1)
   (try rw [hji29] at A20)
   have hji29w : (IntKind.i64.wrap (x6_1 + 1)) = ji29 := (i64_w _).trans hji29
   replace H := itn_ H; rcases H with ⟨c30b0, H⟩
   replace H := itn_ H; rcases H with ⟨c31b0, H⟩
   replace H := bi_ H; rcases H with ⟨t211, A33, H⟩
   replace H := ib_ H; rcases H with ⟨rfl, H⟩ | ⟨rfl, H⟩
   rotate_left
   ·simp only [Option.some.injEq, Prod.mk.injEq] at H
    obtain ⟨rfl, rfl, rfl⟩ := H
    have p19 : 0 ≤ (x6_1 : Int) := od_
    have q19 : x6_1 < (a1.size : Int) := od_
    have hx19 := bt_at a1 x6_1
    replace p19 := eq_true p19
    replace q19 := eq_true q19
    have hnb43 := NB204_205.out
    have hnc43 := NB205_204.out
    obtain ⟨hcz44_0, hcz44_1, hcz44_2, hcz44_3, hfz44_0, hfz44_1, hfz44_2, hfz44_3⟩ := cellsF4 BK204.out
    try go_wp2_with (first | (go_at_call 62; (with_reducible refine (F62.calls a0_0 a0_1 a0_2 a0_3 (bt a1 x6_1) true _ A20.out).mono ?_); rintro e w45 ⟨rfl, hb⟩; (try clear A20); replace HO_5 := am_ (Kd.R_below (rk_ HO_5) hb); replace BK204 := bb_ BK204 hb; replace BK205 := bb_ BK205 hb; replace HB := hs_ w hb; (try clear hb)))
    replace HO_5 := am_ (Kd.R_drew HO_5.out)
    replace BK204 := bd_ BK204
    replace BK205 := bd_ BK205
    replace HB := am_ (below_drew1 HB.out)
    have p32 : 0 ≤ ((ji29) : Int) := od_
    have q32 : (ji29) < (a1.size : Int) := od_
    have hx32 := bt_at a1 (ji29)
    replace p32 := eq_true p32
    replace q32 := eq_true q32
    refine start_ (n := 21) (S := fun w' => w'.cell? ⟨gb204, 0, none⟩ = some (.int .i64 a0_0) ∧ w'.cell? ⟨gb204, 1, none⟩ = some (.int .i64 a0_1) ∧ w'.cell? ⟨gb204, 2, none⟩ = some (.int .i64 a0_2) ∧ w'.cell? ⟨gb204, 3, none⟩ = some (.int .i64 a0_3)) (ds := []) (bs 21 0) (by kernel_rfl) rfl rfl ⟨(blk_cell BK204.out 0).trans rfl, (blk_cell BK204.out 1).trans rfl, (blk_cell BK204.out 2).trans rfl, (blk_cell BK204.out 3).trans rfl⟩ (fun hHeld => ?_); refine with_tabW F18.tab11 F18.bits11 (fun HT_ HW_ => ?_)
    generalize w45.drew = w46 at HO_5 BK204 BK205 HB hHeld ⊢
    refine pu_ 0 29 (bs 21 1) HT_ ?_ rfl rfl
    refine pu_ 1 30 (bs 21 3) HT_ ?_ rfl rfl
    refine pu_ 2 31 (bs 21 7) HT_ ?_ rfl rfl
    refine tk_ 3 32 (bs 21 15) HT_ HW_ hHeld au1_3 ?_ rfl rfl
    refine pu_ 4 33 (bs 21 31) HT_ ?_ rfl rfl
    refine pu_ 5 34 (bs 21 63) HT_ ?_ rfl rfl
    refine pu_ 6 35 (bs 21 127) HT_ ?_ rfl rfl
    refine pu_ 7 36 (bs 21 255) HT_ ?_ rfl rfl
    refine pu_ 8 37 (bs 21 511) HT_ ?_ rfl rfl
    refine pu_ 9 38 (bs 21 1023) HT_ ?_ rfl rfl
    refine pu_ 10 39 (bs 21 2047) HT_ ?_ rfl rfl
    refine pu_ 11 40 (bs 21 4095) HT_ ?_ rfl rfl
    refine pu_ 12 41 (bs 21 8191) HT_ ?_ rfl rfl
    refine pu_ 14 43 (bs 21 24575) HT_ ?_ rfl rfl
    refine pu_ 15 44 (bs 21 57343) HT_ ?_ rfl rfl
    refine pu_ 16 45 (bs 21 122879) HT_ ?_ rfl rfl
    refine tk_ 13 42 (bs 21 131071) HT_ HW_ hHeld au1_3 ?_ rfl rfl
    refine tk_ 17 46 (bs 21 262143) HT_ HW_ hHeld au1_3 ?_ rfl rfl
    refine one_ (i := 18) (N := some 47) (bs 21 524287) rfl rfl (one_of HT_.out (by kernel_rfl)) (by decide) (fun K hK => ?_)
    refine goes_ Try.func62 (by kernel_rfl) rfl #[.agg #[.int .i64 a0_0, .int .i64 a0_1, .int .i64 a0_2, .int .i64 a0_3], .int .u8 (bt a1 (ji29))] (by rfl) rfl rfl au1_8 ?_
    with_reducible refine (F62.calls a0_0 a0_1 a0_2 a0_3 (bt a1 (ji29)) false _ A33.out).mono ?_
    rintro e w47 ⟨rfl, hb⟩
    refine ⟨_, rfl, ?_⟩
    replace HO_5 := am_ (Kd.R_below (rk_ HO_5) hb)
    replace BK204 := bb_ BK204 hb
    replace BK205 := bb_ BK205 hb
    replace HB := hs_ w hb
    (try clear hb)
    (try clear hb2)
    (try clear hk)
    (try clear hi)
    refine hK.out _ _ ⟨(blk_cell BK204.out 0).trans rfl, (blk_cell BK204.out 1).trans rfl, (blk_cell BK204.out 2).trans rfl, (blk_cell BK204.out 3).trans rfl⟩ (fun hHeld => ?_)
    clear hK K
    refine no_ 47 ?_
    refine pu_ 19 48 (bs 21 1048575) HT_ ?_ rfl rfl
    refine pu_ 20 49 (bs 21 2097151) HT_ ?_ rfl rfl
    refine done_ (done_of HT_.out (by kernel_rfl)) ?_
    obtain ⟨hcz48_0, hcz48_1, hcz48_2, hfz48_0, hfz48_1, hfz48_2⟩ := cellsF3 BK205.out
    try go_wp2
    refine bodyPost_ret (results_cell_row rfl _ _ gb205 31 #[.string (⟨#[]⟩ : ByteArray), .int .i64 x6_1, .int .i64 3] (0, 0) _ rfl (bq_ BK205) Try.underlying31 rfl (by kernel_rfl)) rfl ?_
    exact ⟨by first | rfl | (simp [errW_none, errW_some] <;> rfl) | (simp only [← hji29]; first | rfl | (simp [errW_none, errW_some] <;> rfl)) | (simp [*, errW_none, errW_some] <;> rfl), bl_⟩
   replace H := iln_ H; rcases H with ⟨LMc36, H⟩
   obtain ⟨y212, hy212⟩ : ∃ y_ : List Int, y_ = (x5_1 ++ [bt a1 (ji29)]) := ⟨_, rfl⟩
   replace H : (F18.l0 k1 a1 y212 (wrap64 ((ji29) + 1)) a0_0 a0_1 a0_2 a0_3) = some (r1, r2, r3) := by first | (rw [hy212]; exact H) | exact H
   have Ny212 := am_ hy212
   clear hy212
   have H' := am_ H
   clear H
   have p19 : 0 ≤ (x6_1 : Int) := od_
   have q19 : x6_1 < (a1.size : Int) := od_
   have hx19 := bt_at a1 x6_1
   replace p19 := eq_true p19
   replace q19 := eq_true q19
   have hnb37 := NB204_205.out
   have hnc37 := NB205_204.out
   obtain ⟨hcz38_0, hcz38_1, hcz38_2, hcz38_3, hfz38_0, hfz38_1, hfz38_2, hfz38_3⟩ := cellsF4 BK204.out
   try go_wp2_with (first | (go_at_call 62; (with_reducible refine (F62.calls a0_0 a0_1 a0_2 a0_3 (bt a1 x6_1) true _ A20.out).mono ?_); rintro e w39 ⟨rfl, hb⟩; (try clear A20); replace HO_5 := am_ (Kd.R_below (rk_ HO_5) hb); replace BK204 := bb_ BK204 hb; replace BK205 := bb_ BK205 hb; replace HB := hs_ w hb; (try clear hb)))
   replace HO_5 := am_ (Kd.R_drew HO_5.out)
   replace BK204 := bd_ BK204
   replace BK205 := bd_ BK205
   replace HB := am_ (below_drew1 HB.out)
   have p32 : 0 ≤ ((ji29) : Int) := od_
   have q32 : (ji29) < (a1.size : Int) := od_
   have hx32 := bt_at a1 (ji29)
   replace p32 := eq_true p32
   replace q32 := eq_true q32
   refine start_ (n := 21) (S := fun w' => w'.cell? ⟨gb204, 0, none⟩ = some (.int .i64 a0_0) ∧ w'.cell? ⟨gb204, 1, none⟩ = some (.int .i64 a0_1) ∧ w'.cell? ⟨gb204, 2, none⟩ = some (.int .i64 a0_2) ∧ w'.cell? ⟨gb204, 3, none⟩ = some (.int .i64 a0_3)) (ds := []) (bs 21 0) (by kernel_rfl) rfl rfl ⟨(blk_cell BK204.out 0).trans rfl, (blk_cell BK204.out 1).trans rfl, (blk_cell BK204.out 2).trans rfl, (blk_cell BK204.out 3).trans rfl⟩ (fun hHeld => ?_); refine with_tabW F18.tab11 F18.bits11 (fun HT_ HW_ => ?_)
   generalize w39.drew = w40 at HO_5 BK204 BK205 HB hHeld ⊢
   refine pu_ 0 29 (bs 21 1) HT_ ?_ rfl rfl
   refine pu_ 1 30 (bs 21 3) HT_ ?_ rfl rfl
   refine pu_ 2 31 (bs 21 7) HT_ ?_ rfl rfl
   refine tk_ 3 32 (bs 21 15) HT_ HW_ hHeld au1_3 ?_ rfl rfl
   refine pu_ 4 33 (bs 21 31) HT_ ?_ rfl rfl
   refine pu_ 5 34 (bs 21 63) HT_ ?_ rfl rfl
   refine pu_ 6 35 (bs 21 127) HT_ ?_ rfl rfl
   refine pu_ 7 36 (bs 21 255) HT_ ?_ rfl rfl
   refine pu_ 8 37 (bs 21 511) HT_ ?_ rfl rfl
   refine pu_ 9 38 (bs 21 1023) HT_ ?_ rfl rfl
   refine pu_ 10 39 (bs 21 2047) HT_ ?_ rfl rfl
   refine pu_ 11 40 (bs 21 4095) HT_ ?_ rfl rfl
   refine pu_ 12 41 (bs 21 8191) HT_ ?_ rfl rfl
   refine pu_ 14 43 (bs 21 24575) HT_ ?_ rfl rfl
   refine pu_ 15 44 (bs 21 57343) HT_ ?_ rfl rfl
   refine pu_ 16 45 (bs 21 122879) HT_ ?_ rfl rfl
   refine tk_ 13 42 (bs 21 131071) HT_ HW_ hHeld au1_3 ?_ rfl rfl
   refine tk_ 17 46 (bs 21 262143) HT_ HW_ hHeld au1_3 ?_ rfl rfl
   refine one_ (i := 18) (N := some 47) (bs 21 524287) rfl rfl (one_of HT_.out (by kernel_rfl)) (by decide) (fun K hK => ?_)
   refine goes_ Try.func62 (by kernel_rfl) rfl #[.agg #[.int .i64 a0_0, .int .i64 a0_1, .int .i64 a0_2, .int .i64 a0_3], .int .u8 (bt a1 (ji29))] (by rfl) rfl rfl au1_8 ?_
   with_reducible refine (F62.calls a0_0 a0_1 a0_2 a0_3 (bt a1 (ji29)) true _ A33.out).mono ?_
   rintro e w41 ⟨rfl, hb⟩
   refine ⟨_, rfl, ?_⟩
   replace HO_5 := am_ (Kd.R_below (rk_ HO_5) hb)
   replace BK204 := bb_ BK204 hb
   replace BK205 := bb_ BK205 hb
   replace HB := hs_ w hb
   (try clear hb)
   (try clear hb2)
   (try clear hk)
   (try clear hi)
   refine hK.out _ _ ⟨(blk_cell BK204.out 0).trans rfl, (blk_cell BK204.out 1).trans rfl, (blk_cell BK204.out 2).trans rfl, (blk_cell BK204.out 3).trans rfl⟩ (fun hHeld => ?_)
   clear hK K
   refine no_ 47 ?_
   refine pu_ 19 48 (bs 21 1048575) HT_ ?_ rfl rfl
   refine pu_ 20 49 (bs 21 2097151) HT_ ?_ rfl rfl
   refine done_ (done_of HT_.out (by kernel_rfl)) ?_
   have p35 : 0 ≤ ((ji29) : Int) := od_
   have q35 : (ji29) < (a1.size : Int) := od_
   have hx35 := bt_at a1 (ji29)
   replace p35 := eq_true p35
   replace q35 := eq_true q35
   try go_wp2_with (first | ((with_reducible refine gate_builtin (b := .append) (xs := #[.tmp 57, .tmp 59]) rfl ?_); (try (refine gate_guard (by rfl) ?_; dsimp only)); at_builtin; refine Kd.R_append (Kd.int .u8) (w0 := w) w.heap.size rfl (.tmp 57) (.tmp 59) 36 5 (.int .u8 0) 1 rfl Try.underlying36 info5 rfl (by decide) (by omega) u5 x5_1 (bt a1 (ji29)) [.int .u8 (bt a1 (ji29))] (fun _ => True) (fun _ => False) rfl rfl ?aP (fun _ hk => hk.elim) ?aF ?aO ?aB ?aS ?aL ?_; (case aP => exact rfl); (case aB => exact bl_); (case aF => exact (fun _ _ => trivial)); (case aO => exact (rk_ HO_5)); (case aS => exact (below_size bl_)); (case aL => have := LMc36.out; omega); intro v213 w42 ho hb hg hat; rw [← Ny212.out] at ho; have n0_ := am_ (bg_ BK204 hg (Kd.R_ne HO_5.out BK204.out (by decide))); have n1_ := am_ (bg_ BK205 hg (Kd.R_ne HO_5.out BK205.out (by decide))); have n2_ := am_ (hb); have n3_ := am_ (ho); clear BK204; clear BK205; clear HB; clear HO_5; have BK204 := n0_; have BK205 := n1_; have HB := n2_; have HO214 := n3_; clear n0_ n1_ n2_ n3_; clear ho hb hg hat))
   go_roundg k1
   case measure => have := HK1.out; omega
   case rel => exact ⟨(y212), (wrap64 ((ji29) + 1)), (x206000_1), (x206001_1), (x206002_1), (by first | rfl | (simp; done) | (simp only [← hji29] <;> (first | rfl | simp)) | (simp [*]; done)), H', ⟨by have := HK1.out; omega⟩, ⟨rk_ HO214⟩, ⟨bk_ BK204⟩, ⟨bk_ BK205⟩, ⟨bl_⟩⟩
/-! ### F68: function 68 -/
def F68.l0 : Nat → ByteArray → Int → List ByteArray → Int → Int → Int → Int → Int → Int → Option (List ByteArray)
  | 0, _, _, _, _, _, _, _, _, _ => none
  | k + 1, x1, x2, x7, x8, x9, x219000, x219001, x219002, x219003 => if x9 < (x1.size : Int) then (if 0 ≤ x9 then (if (wrap64 (bt x1 x9)) = x219003 then (F68.l0 k x1 x2 x7 x8 (wrap64 ((wrap64 (x9 + 1)) + 1)) x219000 x219001 x219002 x219003) else (if (wrap64 (bt x1 x9)) = x2 then (if 0 ≤ x8 then (if x8 ≤ x9 then (if x9 ≤ (x1.size : Int) then (if x7.length < 8796093022208 then (F68.l0 k x1 x2 (x7 ++ [x1.extract (x8 : Int).toNat (x9 : Int).toNat]) (wrap64 (x9 + 1)) (wrap64 (x9 + 1)) x219000 x219001 x219002 x219003) else (none)) else (none)) else (none)) else (none)) else (F68.l0 k x1 x2 x7 x8 (wrap64 (x9 + 1)) x219000 x219001 x219002 x219003))) else (none)) else (if 0 ≤ x8 then (if x8 ≤ (x1.size : Int) then (if x7.length < 8796093022208 then (some (x7 ++ [x1.extract (x8 : Int).toNat x1.size])) else (none)) else (none)) else (none))
def F68.f (k : Nat) (a0_0 : Int) (a0_1 : Int) (a0_2 : Int) (a0_3 : Int) (a1 : ByteArray) (a2 : Int) : Option (List ByteArray) := F68.l0 k a1 a2 (([] : List ByteArray)) 0 0 a0_0 a0_1 a0_2 a0_3
theorem F68.mono_l : ∀ k, (∀ y0 y1 y2 y3 y4 y5 y6 y7 y8, LeO (F68.l0 k y0 y1 y2 y3 y4 y5 y6 y7 y8) (F68.l0 (k + 1) y0 y1 y2 y3 y4 y5 y6 y7 y8))
 | 0 => fun _ _ _ _ _ _ _ _ _ r h => by simp [F68.l0] at h
 | k + 1 => by
  have ih0 := F68.mono_l k
  intro y0 y1 y2 y3 y4 y5 y6 y7 y8
  unfold F68.l0
  repeat' with_reducible first | exact ih0 _ _ _ _ _ _ _ _ _ | exact LeO.refl _ | exact LeO.none _ | refine LeO.ite ?_ ?_ | refine LeO.bind ?_ (fun _ => ?_)
theorem F68.mono : ∀ a0 a1 a2 a3 a4 a5 k, LeO (F68.f k a0 a1 a2 a3 a4 a5) (F68.f (k + 1) a0 a1 a2 a3 a4 a5) := by
 intro a0 a1 a2 a3 a4 a5 k
 have ih0 := F68.mono_l k
 unfold F68.f
 repeat' with_reducible first | exact ih0 _ _ _ _ _ _ _ _ _ | exact LeO.refl _ | exact LeO.none _ | refine LeO.ite ?_ ?_ | refine LeO.bind ?_ (fun _ => ?_)
theorem F68.calls (k : Nat) (a0_0 : Int) (a0_1 : Int) (a0_2 : Int) (a0_3 : Int) (a1 : ByteArray) (a2 : Int) (r : List ByteArray) (w : World) (h : F68.f k a0_0 a0_1 a0_2 a0_3 a1 a2 = some r) :
  Calls Try.prog 68 #[.agg #[.int .i64 a0_0, .int .i64 a0_1, .int .i64 a0_2, .int .i64 a0_3], .string a1, .int .i64 a2] w fun e w' => ∃ v0_ : Value, e = .returned (v0_) ∧ Kd.R Kd.string 9 w' w.heap.size (fun _ => True) v0_ r ∧ Below w.heap.size w w' := by
 have hu23 := Try.underlying23
 have HB := am_ (Below.refl w.heap.size w)
 have H : (F68.l0 k a1 a2 (([] : List ByteArray)) 0 0 a0_0 a0_1 a0_2 a0_3) = some r := h
 clear h
 obtain ⟨y219, hy219⟩ : ∃ y_ : List ByteArray, y_ = (([] : List ByteArray)) := ⟨_, rfl⟩
 replace H : (F68.l0 k a1 a2 y219 0 0 a0_0 a0_1 a0_2 a0_3) = some r := by first | (rw [hy219]; exact H) | exact H
 have Ny219 := am_ hy219
 clear hy219
 have H' := am_ H
 clear H
 go_enter Try.func68, Try.ntmps68
 go_wp2_with (first | ((with_reducible refine gate_dst (N := 3) rfl ?_); refine be_ 3 #[.int .i64 a0_0, .int .i64 a0_1, .int .i64 a0_2, .int .i64 a0_3] 23 ?_; intro gb218 hg w4 hbox hb; have BK218 := am_ (hbox); have GW218 := am_ (gw_ hg bl_); have GE218 := GW218; replace HB := hs_ w hb; clear hb hbox hg) | ((with_reducible refine gate_dst (N := 10) rfl ?_); refine Kd.R_lit Kd.string _ 9 ?hg (N := 10) ?hd (xs := ([] : List ByteArray)) (inner := []) (ok := fun _ => True) (okp := fun _ => True) ?hr ?hp (fun _ hk => hk) trivial (Below.refl _ _) (Nat.le_refl _) (by simp) ?_; (case hd => rfl); (case hg => rfl); (case hr => exact hr_); (case hp => exact (Reps.none _ _)); intro v220 w5 ho6 hb hg_ hnew_; clear hg_ hnew_; (first | rw [← Ny219.out] at ho6 | (simp only [Int.reduceToNat] at ho6; rw [← Ny219.out] at ho6)); have HO221 := am_ (Kd.R_lower ho6 (below_size bl_)); replace BK218 := bb_ BK218 hb; replace HB := hs_ w hb; clear hb ho6))
 repeat (go_quiet (first | ((with_reducible refine gate_dst (N := 3) rfl ?_); refine be_ 3 #[.int .i64 a0_0, .int .i64 a0_1, .int .i64 a0_2, .int .i64 a0_3] 23 ?_; intro gb218 hg w4 hbox hb; have BK218 := am_ (hbox); have GW218 := am_ (gw_ hg bl_); have GE218 := GW218; replace HB := hs_ w hb; clear hb hbox hg) | ((with_reducible refine gate_dst (N := 10) rfl ?_); refine Kd.R_lit Kd.string _ 9 ?hg (N := 10) ?hd (xs := ([] : List ByteArray)) (inner := []) (ok := fun _ => True) (okp := fun _ => True) ?hr ?hp (fun _ hk => hk) trivial (Below.refl _ _) (Nat.le_refl _) (by simp) ?_; (case hd => rfl); (case hg => rfl); (case hr => exact hr_); (case hp => exact (Reps.none _ _)); intro v220 w5 ho6 hb hg_ hnew_; clear hg_ hnew_; (first | rw [← Ny219.out] at ho6 | (simp only [Int.reduceToNat] at ho6; rw [← Ny219.out] at ho6)); have HO221 := am_ (Kd.R_lower ho6 (below_size bl_)); replace BK218 := bb_ BK218 hb; replace HB := hs_ w hb; clear hb ho6)); try go_wp2_with (first | ((with_reducible refine gate_dst (N := 3) rfl ?_); refine be_ 3 #[.int .i64 a0_0, .int .i64 a0_1, .int .i64 a0_2, .int .i64 a0_3] 23 ?_; intro gb218 hg w4 hbox hb; have BK218 := am_ (hbox); have GW218 := am_ (gw_ hg bl_); have GE218 := GW218; replace HB := hs_ w hb; clear hb hbox hg) | ((with_reducible refine gate_dst (N := 10) rfl ?_); refine Kd.R_lit Kd.string _ 9 ?hg (N := 10) ?hd (xs := ([] : List ByteArray)) (inner := []) (ok := fun _ => True) (okp := fun _ => True) ?hr ?hp (fun _ hk => hk) trivial (Below.refl _ _) (Nat.le_refl _) (by simp) ?_; (case hd => rfl); (case hg => rfl); (case hr => exact hr_); (case hp => exact (Reps.none _ _)); intro v220 w5 ho6 hb hg_ hnew_; clear hg_ hnew_; (first | rw [← Ny219.out] at ho6 | (simp only [Int.reduceToNat] at ho6; rw [← Ny219.out] at ho6)); have HO221 := am_ (Kd.R_lower ho6 (below_size bl_)); replace BK218 := bb_ BK218 hb; replace HB := hs_ w hb; clear hb ho6)))
 go_loopg [7, 8, 9] k (fun kq v7 v8 v9 w' => ∃ (x7_1 : List ByteArray) (x8_1 : Int) (x9_1 : Int), v8 = .int .i64 x8_1 ∧ v9 = .int .i64 x9_1 ∧ Aside0 (F68.l0 kq a1 a2 x7_1 x8_1 x9_1 a0_0 a0_1 a0_2 a0_3 = some r) ∧ Aside0 (kq ≤ k) ∧ Aside0 (Kd.R Kd.string 9 w' w.heap.size (fun _ => True) v7 x7_1) ∧ Aside0 (w'.heap[gb218]? = some (.cells #[.int .i64 a0_0, .int .i64 a0_1, .int .i64 a0_2, .int .i64 a0_3] 23 (0, 0))) ∧ Aside0 (Below w.heap.size w w'))
 case atStart => exact ⟨(y219), (0), (0), er_, er_, H', ⟨Nat.le_refl _⟩, ⟨rk_ HO221⟩, ⟨bk_ BK218⟩, ⟨bl_⟩⟩
 case round =>
  clear H'
  obtain ⟨x7_1, x8_1, x9_1, rfl, rfl, HA, HK1, HO_7, BK218, HB⟩ := hrel
  cases gk with
  | zero => exact absurd HA.out (by simp [F68.l0])
  | succ k1 =>
   have H := HA.out
   clear HA
   simp only [F68.l0] at H
   replace H := it_ H; rcases H with ⟨c7b0, H⟩ | ⟨c7b0, H⟩
   rotate_left
   ·by_cases c21 : 0 ≤ x8_1
    rotate_left
    ·rw [if_neg c21] at H
     exact absurd H (by simp)

    rw [if_pos c21] at H
    have c21b0 := eq_true c21
    have c21b1 : decide (0 ≤ x8_1) = true := decide_eq_true c21
    clear c21
    by_cases c22 : x8_1 ≤ (a1.size : Int)
    rotate_left
    ·rw [if_neg c22] at H
     exact absurd H (by simp)
    rw [if_pos c22] at H
    have c22b0 := eq_true c22
    have c22b1 : decide (x8_1 ≤ (a1.size : Int)) = true := decide_eq_true c22
    clear c22
    replace H := iln_ H; rcases H with ⟨LMc23, H⟩
    obtain ⟨y222, hy222⟩ : ∃ y_ : List ByteArray, y_ = (x7_1 ++ [a1.extract (x8_1 : Int).toNat a1.size]) := ⟨_, rfl⟩
    replace H : (some y222) = some r := by first | (rw [hy222]; exact H) | exact H
    have Ny222 := am_ hy222
    clear hy222
    obtain rfl := Option.some.inj H
    go_wp2_with (first | ((with_reducible refine gate_builtin (b := .append) (xs := #[.tmp 41, .tmp 45]) rfl ?_); at_builtin; refine Kd.R_append Kd.string (w0 := w) w.heap.size rfl (.tmp 41) (.tmp 45) 41 9 (.string ⟨#[]⟩) 16 rfl Try.underlying41 info9 rfl (by decide) (by omega) u7 x7_1 (a1.extract (x8_1 : Int).toNat a1.size) [.string (a1.extract (x8_1 : Int).toNat a1.size)] (fun _ => True) (fun _ => False) rfl rfl ?aP (fun _ hk => hk.elim) ?aF ?aO ?aB ?aS ?aL ?_; (case aP => exact rfl); (case aB => exact bl_); (case aF => exact (fun _ _ => trivial)); (case aO => exact (rk_ HO_7)); (case aS => exact (below_size bl_)); (case aL => have := LMc23.out; omega); intro v223 w24 ho hb hg hat; rw [← Ny222.out] at ho; have n0_ := am_ (bg_ BK218 hg (Kd.R_ne HO_7.out BK218.out (by decide))); have n1_ := am_ (hb); have n2_ := am_ (ho); clear BK218; clear HB; clear HO_7; have BK218 := n0_; have HB := n1_; have HO224 := n2_; clear n0_ n1_ n2_; clear ho hb hg hat))
    repeat (go_quiet (first | ((with_reducible refine gate_builtin (b := .append) (xs := #[.tmp 41, .tmp 45]) rfl ?_); at_builtin; refine Kd.R_append Kd.string (w0 := w) w.heap.size rfl (.tmp 41) (.tmp 45) 41 9 (.string ⟨#[]⟩) 16 rfl Try.underlying41 info9 rfl (by decide) (by omega) u7 x7_1 (a1.extract (x8_1 : Int).toNat a1.size) [.string (a1.extract (x8_1 : Int).toNat a1.size)] (fun _ => True) (fun _ => False) rfl rfl ?aP (fun _ hk => hk.elim) ?aF ?aO ?aB ?aS ?aL ?_; (case aP => exact rfl); (case aB => exact bl_); (case aF => exact (fun _ _ => trivial)); (case aO => exact (rk_ HO_7)); (case aS => exact (below_size bl_)); (case aL => have := LMc23.out; omega); intro v223 w24 ho hb hg hat; rw [← Ny222.out] at ho; have n0_ := am_ (bg_ BK218 hg (Kd.R_ne HO_7.out BK218.out (by decide))); have n1_ := am_ (hb); have n2_ := am_ (ho); clear BK218; clear HB; clear HO_7; have BK218 := n0_; have HB := n1_; have HO224 := n2_; clear n0_ n1_ n2_; clear ho hb hg hat)); try go_wp2_with (first | ((with_reducible refine gate_builtin (b := .append) (xs := #[.tmp 41, .tmp 45]) rfl ?_); at_builtin; refine Kd.R_append Kd.string (w0 := w) w.heap.size rfl (.tmp 41) (.tmp 45) 41 9 (.string ⟨#[]⟩) 16 rfl Try.underlying41 info9 rfl (by decide) (by omega) u7 x7_1 (a1.extract (x8_1 : Int).toNat a1.size) [.string (a1.extract (x8_1 : Int).toNat a1.size)] (fun _ => True) (fun _ => False) rfl rfl ?aP (fun _ hk => hk.elim) ?aF ?aO ?aB ?aS ?aL ?_; (case aP => exact rfl); (case aB => exact bl_); (case aF => exact (fun _ _ => trivial)); (case aO => exact (rk_ HO_7)); (case aS => exact (below_size bl_)); (case aL => have := LMc23.out; omega); intro v223 w24 ho hb hg hat; rw [← Ny222.out] at ho; have n0_ := am_ (bg_ BK218 hg (Kd.R_ne HO_7.out BK218.out (by decide))); have n1_ := am_ (hb); have n2_ := am_ (ho); clear BK218; clear HB; clear HO_7; have BK218 := n0_; have HB := n1_; have HO224 := n2_; clear n0_ n1_ n2_; clear ho hb hg hat)))
    go_ret
    exact ⟨_, au1_0, rk_ HO224, bl_⟩
   replace H := itn_ H; rcases H with ⟨c8b0, H⟩
   by_cases c10 : (wrap64 (bt a1 x9_1)) = a0_3
   ·rw [if_pos c10] at H
    have c10b0 : ((wrap64 (bt a1 x9_1)) == a0_3) = true := beq_iff_eq.mpr c10
    have c10b1 : ((wrap64 (bt a1 x9_1)) != a0_3) = false := bne_eq_false_iff_eq.mpr c10
    clear c10
    have H' := am_ H
    clear H
    have p9 : 0 ≤ (x9_1 : Int) := od_
    have q9 : x9_1 < (a1.size : Int) := od_
    have hx9 := bt_at a1 x9_1
    replace p9 := eq_true p9
    replace q9 := eq_true q9
    obtain ⟨hcz11_0, hcz11_1, hcz11_2, hcz11_3, hfz11_0, hfz11_1, hfz11_2, hfz11_3⟩ := cellsF4 BK218.out
    go_wp2
    repeat (go_quiet (fail); try go_wp2)
    go_roundg k1
    case measure => have := HK1.out; omega
    case rel => exact ⟨(x7_1), (x8_1), (wrap64 ((wrap64 (x9_1 + 1)) + 1)), er_, er_, H', ⟨by have := HK1.out; omega⟩, ⟨rk_ HO_7⟩, ⟨bk_ BK218⟩, ⟨bl_⟩⟩
   rw [if_neg c10] at H
   have c10b0 : ((wrap64 (bt a1 x9_1)) == a0_3) = false := beq_eq_false_iff_ne.mpr c10
   have c10b1 : ((wrap64 (bt a1 x9_1)) != a0_3) = true := bne_iff_ne.mpr c10
   by_cases c13 : (wrap64 (bt a1 x9_1)) = a2
   rotate_left
   ·rw [if_neg c13] at H
    have c13b0 : ((wrap64 (bt a1 x9_1)) == a2) = false := beq_eq_false_iff_ne.mpr c13
    have c13b1 : ((wrap64 (bt a1 x9_1)) != a2) = true := bne_iff_ne.mpr c13
    have H' := am_ H
    clear H
    have p9 : 0 ≤ (x9_1 : Int) := od_
    have q9 : x9_1 < (a1.size : Int) := od_
    have hx9 := bt_at a1 x9_1
    replace p9 := eq_true p9
    replace q9 := eq_true q9
    obtain ⟨hcz20_0, hcz20_1, hcz20_2, hcz20_3, hfz20_0, hfz20_1, hfz20_2, hfz20_3⟩ := cellsF4 BK218.out
    have p12 : 0 ≤ (x9_1 : Int) := od_
    have q12 : x9_1 < (a1.size : Int) := od_
    have hx12 := bt_at a1 x9_1
    replace p12 := eq_true p12
    replace q12 := eq_true q12
    go_wp2
    repeat (go_quiet (fail); try go_wp2)
    go_roundg k1
    case measure => have := HK1.out; omega
    case rel => exact ⟨(x7_1), (x8_1), (wrap64 (x9_1 + 1)), er_, er_, H', ⟨by have := HK1.out; omega⟩, ⟨rk_ HO_7⟩, ⟨bk_ BK218⟩, ⟨bl_⟩⟩
   rw [if_pos c13] at H
   have c13b0 : ((wrap64 (bt a1 x9_1)) == a2) = true := beq_iff_eq.mpr c13
   have c13b1 : ((wrap64 (bt a1 x9_1)) != a2) = false := bne_eq_false_iff_eq.mpr c13
   clear c13
   by_cases c14 : 0 ≤ x8_1
   rotate_left
   ·rw [if_neg c14] at H
    exact absurd H (by simp)
   rw [if_pos c14] at H
   have c14b0 := eq_true c14
   have c14b1 : decide (0 ≤ x8_1) = true := decide_eq_true c14
   clear c14
   by_cases c15 : x8_1 ≤ x9_1
   rotate_left
   ·rw [if_neg c15] at H
    exact absurd H (by simp)
   rw [if_pos c15] at H
   have c15b0 := eq_true c15
   have c15b1 : decide (x8_1 ≤ x9_1) = true := decide_eq_true c15
   clear c15
   by_cases c16 : x9_1 ≤ (a1.size : Int)
   rotate_left
   ·rw [if_neg c16] at H
    exact absurd H (by simp)
   rw [if_pos c16] at H
   have c16b0 := eq_true c16
   have c16b1 : decide (x9_1 ≤ (a1.size : Int)) = true := decide_eq_true c16
   clear c16
   replace H := iln_ H; rcases H with ⟨LMc17, H⟩
   obtain ⟨y225, hy225⟩ : ∃ y_ : List ByteArray, y_ = (x7_1 ++ [a1.extract (x8_1 : Int).toNat (x9_1 : Int).toNat]) := ⟨_, rfl⟩
   replace H : (F68.l0 k1 a1 a2 y225 (wrap64 (x9_1 + 1)) (wrap64 (x9_1 + 1)) a0_0 a0_1 a0_2 a0_3) = some r := by first | (rw [hy225]; exact H) | exact H
   have Ny225 := am_ hy225
   clear hy225
   have H' := am_ H
   clear H
   have p9 : 0 ≤ (x9_1 : Int) := od_
   have q9 : x9_1 < (a1.size : Int) := od_
   have hx9 := bt_at a1 x9_1
   replace p9 := eq_true p9
   replace q9 := eq_true q9
   obtain ⟨hcz18_0, hcz18_1, hcz18_2, hcz18_3, hfz18_0, hfz18_1, hfz18_2, hfz18_3⟩ := cellsF4 BK218.out
   have p12 : 0 ≤ (x9_1 : Int) := od_
   have q12 : x9_1 < (a1.size : Int) := od_
   have hx12 := bt_at a1 x9_1
   replace p12 := eq_true p12
   replace q12 := eq_true q12
   go_wp2_with (first | ((with_reducible refine gate_builtin (b := .append) (xs := #[.tmp 32, .tmp 37]) rfl ?_); at_builtin; refine Kd.R_append Kd.string (w0 := w) w.heap.size rfl (.tmp 32) (.tmp 37) 41 9 (.string ⟨#[]⟩) 16 rfl Try.underlying41 info9 rfl (by decide) (by omega) u7 x7_1 (a1.extract (x8_1 : Int).toNat (x9_1 : Int).toNat) [.string (a1.extract (x8_1 : Int).toNat (x9_1 : Int).toNat)] (fun _ => True) (fun _ => False) rfl rfl ?aP (fun _ hk => hk.elim) ?aF ?aO ?aB ?aS ?aL ?_; (case aP => exact rfl); (case aB => exact bl_); (case aF => exact (fun _ _ => trivial)); (case aO => exact (rk_ HO_7)); (case aS => exact (below_size bl_)); (case aL => have := LMc17.out; omega); intro v226 w19 ho hb hg hat; rw [← Ny225.out] at ho; have n0_ := am_ (bg_ BK218 hg (Kd.R_ne HO_7.out BK218.out (by decide))); have n1_ := am_ (hb); have n2_ := am_ (ho); clear BK218; clear HB; clear HO_7; have BK218 := n0_; have HB := n1_; have HO227 := n2_; clear n0_ n1_ n2_; clear ho hb hg hat))
   repeat (go_quiet (first | ((with_reducible refine gate_builtin (b := .append) (xs := #[.tmp 32, .tmp 37]) rfl ?_); at_builtin; refine Kd.R_append Kd.string (w0 := w) w.heap.size rfl (.tmp 32) (.tmp 37) 41 9 (.string ⟨#[]⟩) 16 rfl Try.underlying41 info9 rfl (by decide) (by omega) u7 x7_1 (a1.extract (x8_1 : Int).toNat (x9_1 : Int).toNat) [.string (a1.extract (x8_1 : Int).toNat (x9_1 : Int).toNat)] (fun _ => True) (fun _ => False) rfl rfl ?aP (fun _ hk => hk.elim) ?aF ?aO ?aB ?aS ?aL ?_; (case aP => exact rfl); (case aB => exact bl_); (case aF => exact (fun _ _ => trivial)); (case aO => exact (rk_ HO_7)); (case aS => exact (below_size bl_)); (case aL => have := LMc17.out; omega); intro v226 w19 ho hb hg hat; rw [← Ny225.out] at ho; have n0_ := am_ (bg_ BK218 hg (Kd.R_ne HO_7.out BK218.out (by decide))); have n1_ := am_ (hb); have n2_ := am_ (ho); clear BK218; clear HB; clear HO_7; have BK218 := n0_; have HB := n1_; have HO227 := n2_; clear n0_ n1_ n2_; clear ho hb hg hat)); try go_wp2_with (first | ((with_reducible refine gate_builtin (b := .append) (xs := #[.tmp 32, .tmp 37]) rfl ?_); at_builtin; refine Kd.R_append Kd.string (w0 := w) w.heap.size rfl (.tmp 32) (.tmp 37) 41 9 (.string ⟨#[]⟩) 16 rfl Try.underlying41 info9 rfl (by decide) (by omega) u7 x7_1 (a1.extract (x8_1 : Int).toNat (x9_1 : Int).toNat) [.string (a1.extract (x8_1 : Int).toNat (x9_1 : Int).toNat)] (fun _ => True) (fun _ => False) rfl rfl ?aP (fun _ hk => hk.elim) ?aF ?aO ?aB ?aS ?aL ?_; (case aP => exact rfl); (case aB => exact bl_); (case aF => exact (fun _ _ => trivial)); (case aO => exact (rk_ HO_7)); (case aS => exact (below_size bl_)); (case aL => have := LMc17.out; omega); intro v226 w19 ho hb hg hat; rw [← Ny225.out] at ho; have n0_ := am_ (bg_ BK218 hg (Kd.R_ne HO_7.out BK218.out (by decide))); have n1_ := am_ (hb); have n2_ := am_ (ho); clear BK218; clear HB; clear HO_7; have BK218 := n0_; have HB := n1_; have HO227 := n2_; clear n0_ n1_ n2_; clear ho hb hg hat)))
   go_roundg k1
   case measure => have := HK1.out; omega
   case rel => exact ⟨(y225), (wrap64 (x9_1 + 1)), (wrap64 (x9_1 + 1)), er_, er_, H', ⟨by have := HK1.out; omega⟩, ⟨rk_ HO227⟩, ⟨bk_ BK218⟩, ⟨bl_⟩⟩
/-! ### F114: function 114 -/
def F114.f (a0 : Int) : Option (ByteArray × (List (S102)) × Int × Int × Int) := some ((⟨#[]⟩ : ByteArray), ([] : List (S102)), 0, a0, 3)
theorem F114.calls (a0 : Int) (r1 : ByteArray) (r2 : List (S102)) (r3 : Int) (r4 : Int) (r5 : Int) (w : World) (h : F114.f a0 = some (r1, r2, r3, r4, r5)) :
  Calls Try.prog 114 #[.int .i64 a0] w fun e w' => ∃ v1_ : Value, e = .returned (.agg #[.string r1, v1_, .int .i64 r3, .int .i64 r4, .int .i64 r5]) ∧ Kd.S k102 102 w' w.heap.size (fun _ => True) v1_ r2 ∧ Below w.heap.size w w' := by
 have hu66 := Try.underlying66
 have HB := am_ (Below.refl w.heap.size w)
 have H : (some ((⟨#[]⟩ : ByteArray), ([] : List (S102)), 0, a0, 3)) = some (r1, r2, r3, r4, r5) := h
 clear h
 simp only [Option.some.injEq, Prod.mk.injEq] at H
 obtain ⟨rfl, rfl, rfl, rfl, rfl⟩ := H
 go_enter Try.func114, Try.ntmps114
 go_wp2_with (first | ((with_reducible refine gate_dst (N := 2) rfl ?_); refine be_ 2 #[.string (⟨#[]⟩ : ByteArray), .slice none 0 0, .int .i64 0, .int .i64 0, .int .i64 0] 66 ?_; intro gb228 hg w2 hbox hb; have BK228 := am_ (hbox); have GW228 := am_ (gw_ hg bl_); have GE228 := GW228; replace HB := hs_ w hb; clear hb hbox hg; obtain ⟨hcz3_0, hcz3_1, hcz3_2, hcz3_3, hcz3_4, hfz3_0, hfz3_1, hfz3_2, hfz3_3, hfz3_4⟩ := cellsF5 BK228.out))
 refine bodyPost_ret (results_cell_row rfl _ _ gb228 66 #[.string (⟨#[]⟩ : ByteArray), .slice none 0 0, .int .i64 0, .int .i64 a0, .int .i64 3] (0, 0) _ rfl (bq_ BK228) Try.underlying66 rfl (by kernel_rfl)) rfl ?_
 exact ⟨_, au1_0, by first | exact Kd.S_nil _ _ _ _ _ | exact Kd.N_nil _ _ _ _ _ | exact Kd.V_nil _ _ _ _ _ | exact Kd.Q_nil _ _ _ _ _ | exact Kd.R_nil _ _ _ _ _, bl_⟩
end Go.Proofs.Ytchoalagkcdbhaa.PFnSegmentBack
