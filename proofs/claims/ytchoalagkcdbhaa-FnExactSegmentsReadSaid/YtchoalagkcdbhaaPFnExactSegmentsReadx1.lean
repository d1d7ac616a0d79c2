-- printed by a program of this session (wip/xp/xprint.py) out of the translation; Lean checks it
import Derived.Test.YtchoalagkcdbhaaPFnExactSegmentsReadx0
namespace Go.Proofs.Ytchoalagkcdbhaa.PFnExactSegmentsRead
open Go.RowKit Go.Proofs.YtchoalagkcdbhaaW.PrintWords Go.Proofs.YtchoalagkcdbhaaW.PrintLast Go.Proofs.YtchoalagkcdbhaaW.PrintMore
attribute [local go_sem] max2_int min2_int max_two min_two max_three min_three max_four min_four   -- for this text's walks alone
set_option linter.unusedVariables false
set_option linter.unusedSimpArgs false
set_option maxHeartbeats 8000000
set_option maxRecDepth 100000

theorem au1_0 {p : Prop} (h : p := by first | rfl | (simp [errW_none, errW_some] <;> rfl) | (simp [*, errW_none, errW_some] <;> rfl)) : p := h
theorem au1_1 {p : Prop} (h : p := by exact (Reps.one (show Kd.M (Kd.int .i64) _ _ _ a0_0 [.int .i64 a0_0] from rfl) (Reps.one (show Kd.M (Kd.int .i64) _ _ _ a0_1 [.int .i64 a0_1] from rfl) (Reps.one (show Kd.M (Kd.int .i64) _ _ _ a0_2 [.int .i64 a0_2] from rfl) (Reps.one (show Kd.M (Kd.int .i64) _ _ _ a0_3 [.int .i64 a0_3] from rfl) (Reps.none _ _)))))) : p := h
theorem au1_2 {p : Prop} (h : p := by rintro w' ⟨s0, s1, s2, s3⟩; go_simp; with_reducible rfl) : p := h
theorem au1_3 {p : Prop} (h : p := by (try simp only [List.map_toArray, List.map_cons, List.map_nil]); first | done | (simp only [hji29]; rfl) | rfl | (simp only [List.length_drop, List.length_take]; rfl)) : p := h

/-! ### F19: function 19 -/
def F19.f (a0_0 : Int) (a0_1 : Int) (a0_2 : Int) (a0_3 : Int) : Option (Int × Int × Int × Int) := some (a0_0, a0_1, a0_2, a0_3)
theorem F19.calls (a0_0 : Int) (a0_1 : Int) (a0_2 : Int) (a0_3 : Int) (r1 : Int) (r2 : Int) (r3 : Int) (r4 : Int) (w : World) (h : F19.f a0_0 a0_1 a0_2 a0_3 = some (r1, r2, r3, r4)) :
  Calls Try.prog 19 #[.agg #[.int .i64 a0_0, .int .i64 a0_1, .int .i64 a0_2, .int .i64 a0_3]] w fun e w' => e = .returned (.agg #[.int .i64 r1, .int .i64 r2, .int .i64 r3, .int .i64 r4]) ∧ Below w.heap.size w w' := by
 have hu29 := Try.underlying29
 have hu23 := Try.underlying23
 have HB := am_ (Below.refl w.heap.size w)
 have H : (some (a0_0, a0_1, a0_2, a0_3)) = some (r1, r2, r3, r4) := h
 clear h
 simp only [Option.some.injEq, Prod.mk.injEq] at H
 obtain ⟨rfl, rfl, rfl, rfl⟩ := H
 go_enter Try.func19, Try.ntmps19
 go_wp2_with (first | ((with_reducible refine gate_dst (N := 1) rfl ?_); refine be_ 1 #[.int .i64 a0_0, .int .i64 a0_1, .int .i64 a0_2, .int .i64 a0_3] 29 ?_; intro gb101 hg w2 hbox hb; have BK101 := am_ (hbox); have GW101 := am_ (gw_ hg bl_); have GE101 := GW101; replace HB := hs_ w hb; clear hb hbox hg) | ((with_reducible refine gate_dst (N := 2) rfl ?_); refine be_ 2 #[.int .i64 0, .int .i64 0, .int .i64 0, .int .i64 0] 23 ?_; intro gb102 hg w3 hbox hb; have BK102 := am_ (hbox); have GW102 := am_ (gw_ hg bl_); have GE102 := GW102; replace HB := hs_ w hb; have NB101_102 := am_ (gn_ hg (blkl_ BK101)); have NB102_101 := am_ (gm_ hg (blkl_ BK101)); replace BK101 := bb_ BK101 hb; clear hb hbox hg) | ((with_reducible refine gate_dst (N := 3) rfl ?_); refine be_ 3 #[.int .i64 0, .int .i64 0, .int .i64 0, .int .i64 0] 23 ?_; intro gb103 hg w4 hbox hb; have BK103 := am_ (hbox); have GW103 := am_ (gw_ hg bl_); have GE103 := GW103; replace HB := hs_ w hb; have NB101_103 := am_ (gn_ hg (blkl_ BK101)); have NB103_101 := am_ (gm_ hg (blkl_ BK101)); replace BK101 := bb_ BK101 hb; have NB102_103 := am_ (gn_ hg (blkl_ BK102)); have NB103_102 := am_ (gm_ hg (blkl_ BK102)); replace BK102 := bb_ BK102 hb; clear hb hbox hg; have hnb5 := NB101_102.out; have hnc5 := NB102_101.out; have hnb6 := NB101_103.out; have hnc6 := NB103_101.out; obtain ⟨hcz7_0, hcz7_1, hcz7_2, hcz7_3, hfz7_0, hfz7_1, hfz7_2, hfz7_3⟩ := cellsF4 BK101.out; have hnb8 := NB103_102.out; have hnc8 := NB102_103.out; obtain ⟨hcz9_0, hcz9_1, hcz9_2, hcz9_3, hfz9_0, hfz9_1, hfz9_2, hfz9_3⟩ := cellsF4 BK103.out; obtain ⟨hcz10_0, hcz10_1, hcz10_2, hcz10_3, hfz10_0, hfz10_1, hfz10_2, hfz10_3⟩ := cellsF4 BK102.out))
 refine bodyPost_ret (results_cell_row rfl _ _ gb102 23 #[.int .i64 a0_0, .int .i64 a0_1, .int .i64 a0_2, .int .i64 a0_3] (0, 0) _ rfl (bq_ BK102) Try.underlying23 rfl (by kernel_rfl)) rfl ?_
 exact ⟨au1_0, bl_⟩

/-! ### F66: function 66 -/
def F66.f (a0 : Int) : Option (Bool) := if a0 < 33 then (some false) else (if a0 > 126 then (some false) else (if a0 = 45 then (some false) else (if a0 ≥ 65 then (if a0 ≤ 90 then (some (!true)) else (if a0 ≥ 97 then (if a0 ≤ 122 then (some (!true)) else (if a0 ≥ 48 then (some (!(decide (a0 ≤ 57)))) else (some (!false)))) else (if a0 ≥ 48 then (some (!(decide (a0 ≤ 57)))) else (some (!false))))) else (if a0 ≥ 97 then (if a0 ≤ 122 then (some (!true)) else (if a0 ≥ 48 then (some (!(decide (a0 ≤ 57)))) else (some (!false)))) else (if a0 ≥ 48 then (some (!(decide (a0 ≤ 57)))) else (some (!false)))))))
theorem F66.calls (a0 : Int) (r : Bool) (w : World) (h : F66.f a0 = some r) :
  Calls Try.prog 66 #[.int .i64 a0] w fun e w' => e = .returned (.bool r) ∧ Drawn0 w w' := by
 have H : (if a0 < 33 then (some false) else (if a0 > 126 then (some false) else (if a0 = 45 then (some false) else (if a0 ≥ 65 then (if a0 ≤ 90 then (some (!true)) else (if a0 ≥ 97 then (if a0 ≤ 122 then (some (!true)) else (if a0 ≥ 48 then (some (!(decide (a0 ≤ 57)))) else (some (!false)))) else (if a0 ≥ 48 then (some (!(decide (a0 ≤ 57)))) else (some (!false))))) else (if a0 ≥ 97 then (if a0 ≤ 122 then (some (!true)) else (if a0 ≥ 48 then (some (!(decide (a0 ≤ 57)))) else (some (!false)))) else (if a0 ≥ 48 then (some (!(decide (a0 ≤ 57)))) else (some (!false)))))))) = some r := h
 clear h
 replace H := it_ H; rcases H with ⟨c2b0, H⟩ | ⟨c2b0, H⟩
 ·obtain rfl := Option.some.inj H
  go_enter Try.func66, Try.ntmps66
  go_wp2
  go_ret
  exact ⟨er_, dn_⟩
 replace H := it_ H; rcases H with ⟨(c3b0 : decide (126 < a0) = true), H⟩ | ⟨(c3b0 : decide (126 < a0) = false), H⟩
 ·obtain rfl := Option.some.inj H
  go_enter Try.func66, Try.ntmps66
  go_wp2
  go_ret
  exact ⟨er_, dn_⟩
 by_cases c4 : a0 = 45
 ·rw [if_pos c4] at H
  have c4b0 : (a0 == 45) = true := beq_iff_eq.mpr c4
  have c4b1 : (a0 != 45) = false := bne_eq_false_iff_eq.mpr c4
  clear c4
  obtain rfl := Option.some.inj H
  go_enter Try.func66, Try.ntmps66
  go_wp2
  go_ret
  exact ⟨er_, dn_⟩
 rw [if_neg c4] at H
 have c4b0 : (a0 == 45) = false := beq_eq_false_iff_ne.mpr c4
 have c4b1 : (a0 != 45) = true := bne_iff_ne.mpr c4
 replace H := it_ H; rcases H with ⟨(c5b0 : decide (65 ≤ a0) = true), H⟩ | ⟨(c5b0 : decide (65 ≤ a0) = false), H⟩
 rotate_left
 ·replace H := it_ H; rcases H with ⟨(c11b0 : decide (97 ≤ a0) = true), H⟩ | ⟨(c11b0 : decide (97 ≤ a0) = false), H⟩
  rotate_left
  ·replace H := it_ H; rcases H with ⟨(c14b0 : decide (48 ≤ a0) = true), H⟩ | ⟨(c14b0 : decide (48 ≤ a0) = false), H⟩
   ·obtain rfl := Option.some.inj H
    go_enter Try.func66, Try.ntmps66
    go_wp2
    go_ret
    exact ⟨er_, dn_⟩
   obtain rfl := Option.some.inj H
   go_enter Try.func66, Try.ntmps66
   go_wp2
   go_ret
   exact ⟨er_, dn_⟩

  replace H := it_ H; rcases H with ⟨c12b0, H⟩ | ⟨c12b0, H⟩
  ·obtain rfl := Option.some.inj H
   go_enter Try.func66, Try.ntmps66
   go_wp2
   go_ret
   exact ⟨er_, dn_⟩
  replace H := it_ H; rcases H with ⟨(c13b0 : decide (48 ≤ a0) = true), H⟩ | ⟨(c13b0 : decide (48 ≤ a0) = false), H⟩
  rotate_left
  ·obtain rfl := Option.some.inj H
   go_enter Try.func66, Try.ntmps66
   go_wp2
   go_ret
   exact ⟨er_, dn_⟩
  obtain rfl := Option.some.inj H
  go_enter Try.func66, Try.ntmps66
  go_wp2
  go_ret
  exact ⟨er_, dn_⟩
 replace H := it_ H; rcases H with ⟨c6b0, H⟩ | ⟨c6b0, H⟩
 ·obtain rfl := Option.some.inj H
  go_enter Try.func66, Try.ntmps66
  go_wp2
  go_ret
  exact ⟨er_, dn_⟩
 replace H := it_ H; rcases H with ⟨(c7b0 : decide (97 ≤ a0) = true), H⟩ | ⟨(c7b0 : decide (97 ≤ a0) = false), H⟩
 rotate_left
 ·replace H := it_ H; rcases H with ⟨(c10b0 : decide (48 ≤ a0) = true), H⟩ | ⟨(c10b0 : decide (48 ≤ a0) = false), H⟩
  rotate_left
  ·obtain rfl := Option.some.inj H
   go_enter Try.func66, Try.ntmps66
   go_wp2
   go_ret
   exact ⟨er_, dn_⟩
  obtain rfl := Option.some.inj H
  go_enter Try.func66, Try.ntmps66
  go_wp2
  go_ret
  exact ⟨er_, dn_⟩
 replace H := it_ H; rcases H with ⟨c8b0, H⟩ | ⟨c8b0, H⟩
 ·obtain rfl := Option.some.inj H
  go_enter Try.func66, Try.ntmps66
  go_wp2
  go_ret
  exact ⟨er_, dn_⟩
 replace H := it_ H; rcases H with ⟨(c9b0 : decide (48 ≤ a0) = true), H⟩ | ⟨(c9b0 : decide (48 ≤ a0) = false), H⟩
 rotate_left
 ·obtain rfl := Option.some.inj H
  go_enter Try.func66, Try.ntmps66
  go_wp2
  go_ret
  exact ⟨er_, dn_⟩
 obtain rfl := Option.some.inj H
 go_enter Try.func66, Try.ntmps66
 go_wp2
 go_ret
 exact ⟨er_, dn_⟩
/-! ### F23: function 23 -/
mutual
def F23.l0 : Nat → List Int → Int → Option (Bool)
  | 0, _, _ => none
  | k + 1, x3, x4 => if x4 < 4 then (if 0 ≤ x4 then (if x4 < (x3.length : Int) then ((F66.f (rd x3 x4)).bind fun t109 => (if t109 = true then (F23.l1 k x3 x4 0) else (some false))) else (none)) else (none)) else (some true)
def F23.l1 : Nat → List Int → Int → Int → Option (Bool)
  | 0, _, _, _ => none
  | k + 1, x3, x4, x5 => if x5 < x4 then (if 0 ≤ x5 then (if x5 < (x3.length : Int) then (if 0 ≤ x4 then (if x4 < (x3.length : Int) then (if (rd x3 x5) = (rd x3 x4) then (some false) else (F23.l1 k x3 x4 (wrap64 (x5 + 1)))) else (none)) else (none)) else (none)) else (none)) else (F23.l0 k x3 (wrap64 (x4 + 1)))
end
def F23.f (k : Nat) (a0_0 : Int) (a0_1 : Int) (a0_2 : Int) (a0_3 : Int) : Option (Bool) := F23.l0 k (([a0_0, a0_1, a0_2, a0_3] : List Int)) 0
theorem F23.mono_l : ∀ k, (∀ y0 y1, LeO (F23.l0 k y0 y1) (F23.l0 (k + 1) y0 y1)) ∧ (∀ y0 y1 y2, LeO (F23.l1 k y0 y1 y2) (F23.l1 (k + 1) y0 y1 y2))
 | 0 => ⟨fun _ _ r h => by simp [F23.l0] at h, fun _ _ _ r h => by simp [F23.l1] at h⟩
 | k + 1 => by
  obtain ⟨ih0, ih1⟩ := F23.mono_l k
  refine ⟨?_, ?_⟩
  rotate_left
  ·intro y0 y1 y2
   unfold F23.l1
   repeat' with_reducible first | exact ih0 _ _ | exact ih1 _ _ _ | exact LeO.refl _ | exact LeO.none _ | refine LeO.ite ?_ ?_ | refine LeO.bind ?_ (fun _ => ?_)
  intro y0 y1
  unfold F23.l0
  repeat' with_reducible first | exact ih0 _ _ | exact ih1 _ _ _ | exact LeO.refl _ | exact LeO.none _ | refine LeO.ite ?_ ?_ | refine LeO.bind ?_ (fun _ => ?_)
theorem F23.mono : ∀ a0 a1 a2 a3 k, LeO (F23.f k a0 a1 a2 a3) (F23.f (k + 1) a0 a1 a2 a3) := by
 intro a0 a1 a2 a3 k
 obtain ⟨ih0, ih1⟩ := F23.mono_l k
 unfold F23.f
 repeat' with_reducible first | exact ih0 _ _ | exact ih1 _ _ _ | exact LeO.refl _ | exact LeO.none _ | refine LeO.ite ?_ ?_ | refine LeO.bind ?_ (fun _ => ?_)
theorem F23.calls (k : Nat) (a0_0 : Int) (a0_1 : Int) (a0_2 : Int) (a0_3 : Int) (r : Bool) (w : World) (h : F23.f k a0_0 a0_1 a0_2 a0_3 = some r) :
  Calls Try.prog 23 #[.agg #[.int .i64 a0_0, .int .i64 a0_1, .int .i64 a0_2, .int .i64 a0_3]] w fun e w' => e = .returned (.bool r) ∧ Below w.heap.size w w' := by
 have hu23 := Try.underlying23
 have HB := am_ (Below.refl w.heap.size w)
 have H : (F23.l0 k (([a0_0, a0_1, a0_2, a0_3] : List Int)) 0) = some r := h
 clear h
 obtain ⟨y105, hy105⟩ : ∃ y_ : List Int, y_ = (([a0_0, a0_1, a0_2, a0_3] : List Int)) := ⟨_, rfl⟩
 replace H : (F23.l0 k y105 0) = some r := by first | (rw [hy105]; exact H) | exact H
 have Ny105 := am_ hy105
 clear hy105
 have H' := am_ H
 clear H
 go_enter Try.func23, Try.ntmps23
 go_wp2_with (first | ((with_reducible refine gate_dst (N := 1) rfl ?_); refine be_ 1 #[.int .i64 a0_0, .int .i64 a0_1, .int .i64 a0_2, .int .i64 a0_3] 23 ?_; intro gb104 hg w2 hbox hb; have BK104 := am_ (hbox); have GW104 := am_ (gw_ hg bl_); have GE104 := GW104; replace HB := hs_ w hb; clear hb hbox hg; obtain ⟨hcz3_0, hcz3_1, hcz3_2, hcz3_3, hfz3_0, hfz3_1, hfz3_2, hfz3_3⟩ := cellsF4 BK104.out) | ((with_reducible refine gate_dst (N := 14) rfl ?_); refine Kd.R_lit (Kd.int .i64) _ 2 ?hg (N := 14) ?hd (xs := ([a0_0, a0_1, a0_2, a0_3] : List Int)) (inner := [.int .i64 a0_0, .int .i64 a0_1, .int .i64 a0_2, .int .i64 a0_3]) (ok := fun _ => True) (okp := fun _ => True) ?hr ?hp (fun _ hk => hk) trivial (Below.refl _ _) (Nat.le_refl _) (by simp) ?_; (case hd => rfl); (case hg => rfl); (case hr => exact hr_); (case hp => exact au1_1); intro v106 w4 ho5 hb hg_ hnew_; clear hg_ hnew_; (first | rw [← Ny105.out] at ho5 | (simp only [Int.reduceToNat] at ho5; rw [← Ny105.out] at ho5)); have HO107 := am_ (Kd.R_lower ho5 (below_size bl_)); replace BK104 := bb_ BK104 hb; replace HB := hs_ w hb; clear hb ho5))
 repeat (go_quiet (first | ((with_reducible refine gate_dst (N := 1) rfl ?_); refine be_ 1 #[.int .i64 a0_0, .int .i64 a0_1, .int .i64 a0_2, .int .i64 a0_3] 23 ?_; intro gb104 hg w2 hbox hb; have BK104 := am_ (hbox); have GW104 := am_ (gw_ hg bl_); have GE104 := GW104; replace HB := hs_ w hb; clear hb hbox hg; obtain ⟨hcz3_0, hcz3_1, hcz3_2, hcz3_3, hfz3_0, hfz3_1, hfz3_2, hfz3_3⟩ := cellsF4 BK104.out) | ((with_reducible refine gate_dst (N := 14) rfl ?_); refine Kd.R_lit (Kd.int .i64) _ 2 ?hg (N := 14) ?hd (xs := ([a0_0, a0_1, a0_2, a0_3] : List Int)) (inner := [.int .i64 a0_0, .int .i64 a0_1, .int .i64 a0_2, .int .i64 a0_3]) (ok := fun _ => True) (okp := fun _ => True) ?hr ?hp (fun _ hk => hk) trivial (Below.refl _ _) (Nat.le_refl _) (by simp) ?_; (case hd => rfl); (case hg => rfl); (case hr => exact hr_); (case hp => exact au1_1); intro v106 w4 ho5 hb hg_ hnew_; clear hg_ hnew_; (first | rw [← Ny105.out] at ho5 | (simp only [Int.reduceToNat] at ho5; rw [← Ny105.out] at ho5)); have HO107 := am_ (Kd.R_lower ho5 (below_size bl_)); replace BK104 := bb_ BK104 hb; replace HB := hs_ w hb; clear hb ho5)); try go_wp2_with (first | ((with_reducible refine gate_dst (N := 1) rfl ?_); refine be_ 1 #[.int .i64 a0_0, .int .i64 a0_1, .int .i64 a0_2, .int .i64 a0_3] 23 ?_; intro gb104 hg w2 hbox hb; have BK104 := am_ (hbox); have GW104 := am_ (gw_ hg bl_); have GE104 := GW104; replace HB := hs_ w hb; clear hb hbox hg; obtain ⟨hcz3_0, hcz3_1, hcz3_2, hcz3_3, hfz3_0, hfz3_1, hfz3_2, hfz3_3⟩ := cellsF4 BK104.out) | ((with_reducible refine gate_dst (N := 14) rfl ?_); refine Kd.R_lit (Kd.int .i64) _ 2 ?hg (N := 14) ?hd (xs := ([a0_0, a0_1, a0_2, a0_3] : List Int)) (inner := [.int .i64 a0_0, .int .i64 a0_1, .int .i64 a0_2, .int .i64 a0_3]) (ok := fun _ => True) (okp := fun _ => True) ?hr ?hp (fun _ hk => hk) trivial (Below.refl _ _) (Nat.le_refl _) (by simp) ?_; (case hd => rfl); (case hg => rfl); (case hr => exact hr_); (case hp => exact au1_1); intro v106 w4 ho5 hb hg_ hnew_; clear hg_ hnew_; (first | rw [← Ny105.out] at ho5 | (simp only [Int.reduceToNat] at ho5; rw [← Ny105.out] at ho5)); have HO107 := am_ (Kd.R_lower ho5 (below_size bl_)); replace BK104 := bb_ BK104 hb; replace HB := hs_ w hb; clear hb ho5)))
 go_loopg [4] k (fun kq v4 w' => ∃ (x4_1 : Int), v4 = .int .i64 x4_1 ∧ Aside0 (F23.l0 kq y105 x4_1 = some r) ∧ Aside0 (kq ≤ k) ∧ Aside0 (Kd.R (Kd.int .i64) 2 w' w.heap.size (fun _ => True) v106 y105) ∧ Aside0 (w'.heap[gb104]? = some (.cells #[.int .i64 a0_0, .int .i64 a0_1, .int .i64 a0_2, .int .i64 a0_3] 23 (0, 0))) ∧ Aside0 (Below w.heap.size w w'))
 case atStart => exact ⟨(0), er_, H', ⟨Nat.le_refl _⟩, ⟨rk_ HO107⟩, ⟨bk_ BK104⟩, ⟨bl_⟩⟩
 case round =>
  clear H'
  try clear hcz3_0 hcz3_1 hcz3_2 hcz3_3
  try clear hfz3_0 hfz3_1 hfz3_2 hfz3_3
  obtain ⟨x4_1, rfl, HA, HK1, HO_3, BK104, HB⟩ := hrel
  cases gk with
  | zero => exact absurd HA.out (by simp [F23.l0])
  | succ k1 =>
   have H := HA.out
   clear HA
   simp only [F23.l0] at H
   replace H := it_ H; rcases H with ⟨c6b0, H⟩ | ⟨c6b0, H⟩
   rotate_left
   ·obtain rfl := Option.some.inj H
    go_wp2
    repeat (go_quiet (fail); try go_wp2)
    go_ret
    exact ⟨au1_0, bl_⟩

   replace H := itn_ H; rcases H with ⟨c7b0, H⟩
   replace H := itn_ H; rcases H with ⟨c8b0, H⟩
   replace H := bi_ H; rcases H with ⟨t109, A9, H⟩
   replace H := ib_ H; rcases H with ⟨rfl, H⟩ | ⟨rfl, H⟩
   rotate_left
   ·obtain rfl := Option.some.inj H
    obtain ⟨Ao18, co18, eo18⟩ := Kd.R_slice HO_3.out
    subst eo18
    have p108 : 0 ≤ (x4_1 : Int) := od_
    have q108 : x4_1 < (y105.length : Int) := od_
    obtain ⟨ad108, e108, hx108_0⟩ := Kd.at_int (Kd.R_reads' HO_3.out).2.2 x4_1 p108 q108
    cases e108
    replace p108 := eq_true p108
    replace q108 := eq_true q108
    go_wp2_with (first | (go_at_call 66; (with_reducible refine (F66.calls (rd y105 x4_1) false _ A9.out).mono ?_); rintro e w' ⟨rfl, ⟨nd, rfl⟩⟩; (try first | exact ⟨rfl, _, World.drewN_drewN _ _ _⟩ | exact ⟨rfl, _, Eq.trans (World.drewN_drewN _ _ _) (congrArg (World.drewN _) (Nat.add_assoc _ _ _))⟩)))
    repeat (go_quiet (first | (go_at_call 66; (with_reducible refine (F66.calls (rd y105 x4_1) false _ A9.out).mono ?_); rintro e w' ⟨rfl, ⟨nd, rfl⟩⟩; (try first | exact ⟨rfl, _, World.drewN_drewN _ _ _⟩ | exact ⟨rfl, _, Eq.trans (World.drewN_drewN _ _ _) (congrArg (World.drewN _) (Nat.add_assoc _ _ _))⟩))); try go_wp2_with (first | (go_at_call 66; (with_reducible refine (F66.calls (rd y105 x4_1) false _ A9.out).mono ?_); rintro e w' ⟨rfl, ⟨nd, rfl⟩⟩; (try first | exact ⟨rfl, _, World.drewN_drewN _ _ _⟩ | exact ⟨rfl, _, Eq.trans (World.drewN_drewN _ _ _) (congrArg (World.drewN _) (Nat.add_assoc _ _ _))⟩))))
    go_ret
    exact ⟨au1_0, bl_⟩
   have H' := am_ H
   clear H
   obtain ⟨Ao11, co11, eo11⟩ := Kd.R_slice HO_3.out
   subst eo11
   have p108 : 0 ≤ (x4_1 : Int) := od_
   have q108 : x4_1 < (y105.length : Int) := od_
   obtain ⟨ad108, e108, hx108_0⟩ := Kd.at_int (Kd.R_reads' HO_3.out).2.2 x4_1 p108 q108
   cases e108
   replace p108 := eq_true p108
   replace q108 := eq_true q108
   go_wp2_with (first | (go_at_call 66; (with_reducible refine (F66.calls (rd y105 x4_1) true _ A9.out).mono ?_); rintro e w' ⟨rfl, ⟨nd, rfl⟩⟩; (try first | exact ⟨rfl, _, World.drewN_drewN _ _ _⟩ | exact ⟨rfl, _, Eq.trans (World.drewN_drewN _ _ _) (congrArg (World.drewN _) (Nat.add_assoc _ _ _))⟩)))
   repeat (go_quiet (first | (go_at_call 66; (with_reducible refine (F66.calls (rd y105 x4_1) true _ A9.out).mono ?_); rintro e w' ⟨rfl, ⟨nd, rfl⟩⟩; (try first | exact ⟨rfl, _, World.drewN_drewN _ _ _⟩ | exact ⟨rfl, _, Eq.trans (World.drewN_drewN _ _ _) (congrArg (World.drewN _) (Nat.add_assoc _ _ _))⟩))); try go_wp2_with (first | (go_at_call 66; (with_reducible refine (F66.calls (rd y105 x4_1) true _ A9.out).mono ?_); rintro e w' ⟨rfl, ⟨nd, rfl⟩⟩; (try first | exact ⟨rfl, _, World.drewN_drewN _ _ _⟩ | exact ⟨rfl, _, Eq.trans (World.drewN_drewN _ _ _) (congrArg (World.drewN _) (Nat.add_assoc _ _ _))⟩))))
   go_loopg [5] k1 (fun kq v5 w' => ∃ (x5_2 : Int), v5 = .int .i64 x5_2 ∧ Aside0 (F23.l1 kq y105 x4_1 x5_2 = some r) ∧ Aside0 (kq ≤ k1) ∧ Aside0 (Kd.R (Kd.int .i64) 2 w' w.heap.size (fun _ => True) (.slice (some ad108) y105.length co11) y105) ∧ Aside0 (w'.heap[gb104]? = some (.cells #[.int .i64 a0_0, .int .i64 a0_1, .int .i64 a0_2, .int .i64 a0_3] 23 (0, 0))) ∧ Aside0 (Below w.heap.size w w'))
   case atStart => exact ⟨(0), er_, H', ⟨Nat.le_refl _⟩, ⟨rk_ HO_3⟩, ⟨bk_ BK104⟩, ⟨bl_⟩⟩
   case round =>
    clear H'
    try clear c6b0
    try clear c7b0
    try clear c8b0
    try clear hcz3_0 hcz3_1 hcz3_2 hcz3_3
    try clear hfz3_0 hfz3_1 hfz3_2 hfz3_3
    try clear hx108_0
    try clear p108
    try clear q108
    obtain ⟨x5_2, rfl, HA, HK2, HO_3, BK104, HB⟩ := hrel
    cases gk with
    | zero => exact absurd HA.out (by simp [F23.l1])
    | succ k2 =>
     have H := HA.out
     clear HA
     simp only [F23.l1] at H
     replace H := it_ H; rcases H with ⟨c12b0, H⟩ | ⟨c12b0, H⟩
     rotate_left
     ·have H' := am_ H
      clear H
      go_wp2
      repeat (go_quiet (fail); try go_wp2)
      go_roundg k2
      case measure => have := HK1.out; have := HK2.out; omega
      case rel => exact ⟨(wrap64 (x4_1 + 1)), er_, H', ⟨by have := HK1.out; have := HK2.out; omega⟩, ⟨rk_ HO_3⟩, ⟨bk_ BK104⟩, ⟨bl_⟩⟩
     replace H := itn_ H; rcases H with ⟨c13b0, H⟩
     replace H := itn_ H; rcases H with ⟨c14b0, H⟩
     replace H := itn_ H; rcases H with ⟨c15b0, H⟩
     replace H := itn_ H; rcases H with ⟨c16b0, H⟩
     by_cases c17 : (rd y105 x5_2) = (rd y105 x4_1)
     ·rw [if_pos c17] at H
      have c17b0 : ((rd y105 x5_2) == (rd y105 x4_1)) = true := beq_iff_eq.mpr c17
      have c17b1 : ((rd y105 x5_2) != (rd y105 x4_1)) = false := bne_eq_false_iff_eq.mpr c17
      clear c17
      obtain rfl := Option.some.inj H
      have p110 : 0 ≤ (x5_2 : Int) := od_
      have q110 : x5_2 < (y105.length : Int) := od_
      obtain ⟨ad110, e110, hx110_0⟩ := Kd.at_int (Kd.R_reads' HO_3.out).2.2 x5_2 p110 q110
      obtain rfl : ad108 = ad110 := (by injection e110)
      replace p110 := eq_true p110
      replace q110 := eq_true q110
      have p111 : 0 ≤ (x4_1 : Int) := od_
      have q111 : x4_1 < (y105.length : Int) := od_
      obtain ⟨ad111, e111, hx111_0⟩ := Kd.at_int (Kd.R_reads' HO_3.out).2.2 x4_1 p111 q111
      obtain rfl : ad108 = ad111 := (by injection e111)
      replace p111 := eq_true p111
      replace q111 := eq_true q111
      go_wp2
      repeat (go_quiet (fail); try go_wp2)
      go_ret
      exact ⟨au1_0, bl_⟩
     rw [if_neg c17] at H
     have c17b0 : ((rd y105 x5_2) == (rd y105 x4_1)) = false := beq_eq_false_iff_ne.mpr c17
     have c17b1 : ((rd y105 x5_2) != (rd y105 x4_1)) = true := bne_iff_ne.mpr c17
     have H' := am_ H
     clear H
     have p110 : 0 ≤ (x5_2 : Int) := od_
     have q110 : x5_2 < (y105.length : Int) := od_
     obtain ⟨ad110, e110, hx110_0⟩ := Kd.at_int (Kd.R_reads' HO_3.out).2.2 x5_2 p110 q110
     obtain rfl : ad108 = ad110 := (by injection e110)
     replace p110 := eq_true p110
     replace q110 := eq_true q110
     have p111 : 0 ≤ (x4_1 : Int) := od_
     have q111 : x4_1 < (y105.length : Int) := od_
     obtain ⟨ad111, e111, hx111_0⟩ := Kd.at_int (Kd.R_reads' HO_3.out).2.2 x4_1 p111 q111
     obtain rfl : ad108 = ad111 := (by injection e111)
     replace p111 := eq_true p111
     replace q111 := eq_true q111
     go_wp2
     repeat (go_quiet (fail); try go_wp2)
     go_roundg k2
     case measure => have := HK1.out; have := HK2.out; omega
     case rel => exact ⟨(wrap64 (x5_2 + 1)), er_, H', ⟨by have := HK1.out; have := HK2.out; omega⟩, ⟨rk_ HO_3⟩, ⟨bk_ BK104⟩, ⟨bl_⟩⟩
/-! ### F62: function 62 -/
def F62.f (a0_0 : Int) (a0_1 : Int) (a0_2 : Int) (a0_3 : Int) (a1 : Int) : Option (Bool) := if (wrap64 (a1)) = a0_0 then (some true) else (if (wrap64 (a1)) = a0_1 then (some true) else (if (wrap64 (a1)) = a0_2 then (some true) else (some ((wrap64 (a1)) == a0_3))))
theorem F62.calls (a0_0 : Int) (a0_1 : Int) (a0_2 : Int) (a0_3 : Int) (a1 : Int) (r : Bool) (w : World) (h : F62.f a0_0 a0_1 a0_2 a0_3 a1 = some r) :
  Calls Try.prog 62 #[.agg #[.int .i64 a0_0, .int .i64 a0_1, .int .i64 a0_2, .int .i64 a0_3], .int .u8 a1] w fun e w' => e = .returned (.bool r) ∧ Below w.heap.size w w' := by
 have hu23 := Try.underlying23
 have HB := am_ (Below.refl w.heap.size w)
 have H : (if (wrap64 (a1)) = a0_0 then (some true) else (if (wrap64 (a1)) = a0_1 then (some true) else (if (wrap64 (a1)) = a0_2 then (some true) else (some ((wrap64 (a1)) == a0_3))))) = some r := h
 clear h
 by_cases c3 : (wrap64 (a1)) = a0_0
 ·rw [if_pos c3] at H
  have c3b0 : ((wrap64 (a1)) == a0_0) = true := beq_iff_eq.mpr c3
  have c3b1 : ((wrap64 (a1)) != a0_0) = false := bne_eq_false_iff_eq.mpr c3
  clear c3
  obtain rfl := Option.some.inj H
  go_enter Try.func62, Try.ntmps62
  go_wp2_with (first | ((with_reducible refine gate_dst (N := 2) rfl ?_); refine be_ 2 #[.int .i64 a0_0, .int .i64 a0_1, .int .i64 a0_2, .int .i64 a0_3] 23 ?_; intro gb112 hg w4 hbox hb; have BK112 := am_ (hbox); have GW112 := am_ (gw_ hg bl_); have GE112 := GW112; replace HB := hs_ w hb; clear hb hbox hg; obtain ⟨hcz5_0, hcz5_1, hcz5_2, hcz5_3, hfz5_0, hfz5_1, hfz5_2, hfz5_3⟩ := cellsF4 BK112.out))
  go_ret
  exact ⟨au1_0, bl_⟩
 rw [if_neg c3] at H
 have c3b0 : ((wrap64 (a1)) == a0_0) = false := beq_eq_false_iff_ne.mpr c3
 have c3b1 : ((wrap64 (a1)) != a0_0) = true := bne_iff_ne.mpr c3
 by_cases c6 : (wrap64 (a1)) = a0_1
 ·rw [if_pos c6] at H
  have c6b0 : ((wrap64 (a1)) == a0_1) = true := beq_iff_eq.mpr c6
  have c6b1 : ((wrap64 (a1)) != a0_1) = false := bne_eq_false_iff_eq.mpr c6
  clear c6
  obtain rfl := Option.some.inj H
  go_enter Try.func62, Try.ntmps62
  go_wp2_with (first | ((with_reducible refine gate_dst (N := 2) rfl ?_); refine be_ 2 #[.int .i64 a0_0, .int .i64 a0_1, .int .i64 a0_2, .int .i64 a0_3] 23 ?_; intro gb112 hg w7 hbox hb; have BK112 := am_ (hbox); have GW112 := am_ (gw_ hg bl_); have GE112 := GW112; replace HB := hs_ w hb; clear hb hbox hg; obtain ⟨hcz8_0, hcz8_1, hcz8_2, hcz8_3, hfz8_0, hfz8_1, hfz8_2, hfz8_3⟩ := cellsF4 BK112.out))
  go_ret
  exact ⟨au1_0, bl_⟩
 rw [if_neg c6] at H
 have c6b0 : ((wrap64 (a1)) == a0_1) = false := beq_eq_false_iff_ne.mpr c6
 have c6b1 : ((wrap64 (a1)) != a0_1) = true := bne_iff_ne.mpr c6
 by_cases c9 : (wrap64 (a1)) = a0_2
 rotate_left
 ·rw [if_neg c9] at H
  have c9b0 : ((wrap64 (a1)) == a0_2) = false := beq_eq_false_iff_ne.mpr c9
  have c9b1 : ((wrap64 (a1)) != a0_2) = true := bne_iff_ne.mpr c9
  obtain rfl := Option.some.inj H
  go_enter Try.func62, Try.ntmps62
  go_wp2_with (first | ((with_reducible refine gate_dst (N := 2) rfl ?_); refine be_ 2 #[.int .i64 a0_0, .int .i64 a0_1, .int .i64 a0_2, .int .i64 a0_3] 23 ?_; intro gb112 hg w12 hbox hb; have BK112 := am_ (hbox); have GW112 := am_ (gw_ hg bl_); have GE112 := GW112; replace HB := hs_ w hb; clear hb hbox hg; obtain ⟨hcz13_0, hcz13_1, hcz13_2, hcz13_3, hfz13_0, hfz13_1, hfz13_2, hfz13_3⟩ := cellsF4 BK112.out))
  go_ret
  exact ⟨au1_0, bl_⟩

 rw [if_pos c9] at H
 have c9b0 : ((wrap64 (a1)) == a0_2) = true := beq_iff_eq.mpr c9
 have c9b1 : ((wrap64 (a1)) != a0_2) = false := bne_eq_false_iff_eq.mpr c9
 clear c9
 obtain rfl := Option.some.inj H
 go_enter Try.func62, Try.ntmps62
 go_wp2_with (first | ((with_reducible refine gate_dst (N := 2) rfl ?_); refine be_ 2 #[.int .i64 a0_0, .int .i64 a0_1, .int .i64 a0_2, .int .i64 a0_3] 23 ?_; intro gb112 hg w10 hbox hb; have BK112 := am_ (hbox); have GW112 := am_ (gw_ hg bl_); have GE112 := GW112; replace HB := hs_ w hb; clear hb hbox hg; obtain ⟨hcz11_0, hcz11_1, hcz11_2, hcz11_3, hfz11_0, hfz11_1, hfz11_2, hfz11_3⟩ := cellsF4 BK112.out))
 go_ret
 exact ⟨au1_0, bl_⟩
/-! ### F18: function 18 -/
def F18.l0 : Nat → ByteArray → List Int → Int → Int → Int → Int → Int → Option (ByteArray × Int × Int)
  | 0, _, _, _, _, _, _, _ => none
  | k + 1, x1, x5, x6, x114000, x114001, x114002, x114003 => if x6 < (x1.size : Int) then (if 0 ≤ x6 then ((F62.f x114000 x114001 x114002 x114003 (bt x1 x6)).bind fun t119 => (if t119 = true then (if (wrap64 (bt x1 x6)) = x114003 then (if (wrap64 (x6 + 1)) = (x1.size : Int) then (some ((⟨#[]⟩ : ByteArray), x6, 3)) else (if 0 ≤ (wrap64 (x6 + 1)) then (if (wrap64 (x6 + 1)) < (x1.size : Int) then ((F62.f x114000 x114001 x114002 x114003 (bt x1 (wrap64 (x6 + 1)))).bind fun t120 => (if t120 = true then (if x5.length < 140737488355328 then (F18.l0 k x1 (x5 ++ [bt x1 (wrap64 (x6 + 1))]) (wrap64 ((wrap64 (x6 + 1)) + 1)) x114000 x114001 x114002 x114003) else (none)) else (some ((⟨#[]⟩ : ByteArray), x6, 3)))) else (none)) else (none))) else (some ((⟨#[]⟩ : ByteArray), x6, 3))) else (if x5.length < 140737488355328 then (F18.l0 k x1 (x5 ++ [bt x1 x6]) (wrap64 (x6 + 1)) x114000 x114001 x114002 x114003) else (none)))) else (none)) else (some (strOfNums x5, 0, 0))
def F18.f (k : Nat) (a0_0 : Int) (a0_1 : Int) (a0_2 : Int) (a0_3 : Int) (a1 : ByteArray) : Option (ByteArray × Int × Int) := if (a1.size : Int) > 20000 then (some ((⟨#[]⟩ : ByteArray), 0, 2)) else ((F23.f k a0_0 a0_1 a0_2 a0_3).bind fun t115 => (if t115 = true then (F18.l0 k a1 (([] : List Int)) 0 a0_0 a0_1 a0_2 a0_3) else (some ((⟨#[]⟩ : ByteArray), 0, 1))))
theorem F18.mono_l : ∀ k, (∀ y0 y1 y2 y3 y4 y5 y6, LeO (F18.l0 k y0 y1 y2 y3 y4 y5 y6) (F18.l0 (k + 1) y0 y1 y2 y3 y4 y5 y6))
 | 0 => fun _ _ _ _ _ _ _ r h => by simp [F18.l0] at h
 | k + 1 => by
  have ih0 := F18.mono_l k
  intro y0 y1 y2 y3 y4 y5 y6
  unfold F18.l0
  repeat' with_reducible first | exact ih0 _ _ _ _ _ _ _ | exact F23.mono _ _ _ _ _ | exact LeO.refl _ | exact LeO.none _ | refine LeO.ite ?_ ?_ | refine LeO.bind ?_ (fun _ => ?_)
theorem F18.mono : ∀ a0 a1 a2 a3 a4 k, LeO (F18.f k a0 a1 a2 a3 a4) (F18.f (k + 1) a0 a1 a2 a3 a4) := by
 intro a0 a1 a2 a3 a4 k
 have ih0 := F18.mono_l k
 unfold F18.f
 repeat' with_reducible first | exact ih0 _ _ _ _ _ _ _ | exact F23.mono _ _ _ _ _ | exact LeO.refl _ | exact LeO.none _ | refine LeO.ite ?_ ?_ | refine LeO.bind ?_ (fun _ => ?_)
def F18.T11 : Bool × List (List Nat × List Nat) := (true, [([], []), ([0], [0]), ([], []), ([2], [2]), ([1, 3], [1, 3]), ([4], [4]), ([5], [5]), ([6, 5], [5, 6]), ([5], [5]), ([8, 5], [5, 8]), ([7, 9, 5], [5, 7, 9]), ([5, 10], [5, 10]), ([11, 5], [11]), ([12], [12]), ([12], [12]), ([12], [12]), ([15, 12], [12, 15]), ([14, 16, 12], [12, 14, 16]), ([13, 17, 12, 12], [12, 13, 17]), ([18, 12], [12, 18]), ([12, 19], [12, 19])])
def F18.B11 : List Nat := [0, 1, 0, 4, 15, 31, 63, 127, 63, 319, 1023, 2047, 4095, 8191, 8191, 8191, 40959, 122879, 262143, 524287, 1048575]
theorem F18.tab11 : rtab .any (opsOf Try.f18 11) = F18.T11 := by kernel_rfl
theorem F18.bits11 : waitsOk F18.T11.2 F18.B11 = true := by kernel_rfl
theorem F18.calls (k : Nat) (a0_0 : Int) (a0_1 : Int) (a0_2 : Int) (a0_3 : Int) (a1 : ByteArray) (r1 : ByteArray) (r2 : Int) (r3 : Int) (w : World) (h : F18.f k a0_0 a0_1 a0_2 a0_3 a1 = some (r1, r2, r3)) :
  Calls Try.prog 18 #[.agg #[.int .i64 a0_0, .int .i64 a0_1, .int .i64 a0_2, .int .i64 a0_3], .string a1] w fun e w' => e = .returned (.agg #[.string r1, .int .i64 r2, .int .i64 r3]) ∧ Below w.heap.size w w' := by
 have hu23 := Try.underlying23
 have hu31 := Try.underlying31
 have HB := am_ (Below.refl w.heap.size w)
 have H : (if (a1.size : Int) > 20000 then (some ((⟨#[]⟩ : ByteArray), 0, 2)) else ((F23.f k a0_0 a0_1 a0_2 a0_3).bind fun t115 => (if t115 = true then (F18.l0 k a1 (([] : List Int)) 0 a0_0 a0_1 a0_2 a0_3) else (some ((⟨#[]⟩ : ByteArray), 0, 1))))) = some (r1, r2, r3) := h
 clear h
 replace H := it_ H; rcases H with ⟨(c3b0 : decide (20000 < (a1.size : Int)) = true), H⟩ | ⟨(c3b0 : decide (20000 < (a1.size : Int)) = false), H⟩
 ·have c3b1 : decide (20000 < a1.size) = true := n2_ c3b0
  simp only [Option.some.injEq, Prod.mk.injEq] at H
  obtain ⟨rfl, rfl, rfl⟩ := H
  go_enter Try.func18, Try.ntmps18
  go_wp2_with (first | ((with_reducible refine gate_dst (N := 2) rfl ?_); (try (refine gate_guard (by rfl) ?_; dsimp only)); refine be_ 2 #[.int .i64 a0_0, .int .i64 a0_1, .int .i64 a0_2, .int .i64 a0_3] 23 ?_; intro gb113 hg w4 hbox hb; have BK113 := am_ (hbox); have GW113 := am_ (gw_ hg bl_); have GE113 := GW113; replace HB := hs_ w hb; clear hb hbox hg) | ((with_reducible refine gate_dst (N := 4) rfl ?_); (try (refine gate_guard (by rfl) ?_; dsimp only)); refine be_ 4 #[.string (⟨#[]⟩ : ByteArray), .int .i64 0, .int .i64 0] 31 ?_; intro gb114 hg w5 hbox hb; have BK114 := am_ (hbox); have GW114 := am_ (gw_ hg bl_); have GE114 := GW114; replace HB := hs_ w hb; have NB113_114 := am_ (gn_ hg (blkl_ BK113)); have NB114_113 := am_ (gm_ hg (blkl_ BK113)); replace BK113 := bb_ BK113 hb; clear hb hbox hg; have hnb6 := NB114_113.out; have hnc6 := NB113_114.out; obtain ⟨hcz7_0, hcz7_1, hcz7_2, hfz7_0, hfz7_1, hfz7_2⟩ := cellsF3 BK114.out))
  refine bodyPost_ret (results_cell_row rfl _ _ gb114 31 #[.string (⟨#[]⟩ : ByteArray), .int .i64 0, .int .i64 2] (0, 0) _ rfl (bq_ BK114) Try.underlying31 rfl (by kernel_rfl)) rfl ?_
  exact ⟨au1_0, bl_⟩
 have c3b1 : decide (20000 < a1.size) = false := n2_ c3b0
 replace H := bi_ H; rcases H with ⟨t115, A8, H⟩
 replace H := ib_ H; rcases H with ⟨rfl, H⟩ | ⟨rfl, H⟩
 rotate_left
 ·simp only [Option.some.injEq, Prod.mk.injEq] at H
  obtain ⟨rfl, rfl, rfl⟩ := H
  go_enter Try.func18, Try.ntmps18
  go_wp2_with (first | ((with_reducible refine gate_dst (N := 2) rfl ?_); (try (refine gate_guard (by rfl) ?_; dsimp only)); refine be_ 2 #[.int .i64 a0_0, .int .i64 a0_1, .int .i64 a0_2, .int .i64 a0_3] 23 ?_; intro gb113 hg w62 hbox hb; have BK113 := am_ (hbox); have GW113 := am_ (gw_ hg bl_); have GE113 := GW113; replace HB := hs_ w hb; clear hb hbox hg) | ((with_reducible refine gate_dst (N := 4) rfl ?_); (try (refine gate_guard (by rfl) ?_; dsimp only)); refine be_ 4 #[.string (⟨#[]⟩ : ByteArray), .int .i64 0, .int .i64 0] 31 ?_; intro gb114 hg w63 hbox hb; have BK114 := am_ (hbox); have GW114 := am_ (gw_ hg bl_); have GE114 := GW114; replace HB := hs_ w hb; have NB113_114 := am_ (gn_ hg (blkl_ BK113)); have NB114_113 := am_ (gm_ hg (blkl_ BK113)); replace BK113 := bb_ BK113 hb; clear hb hbox hg; have hnb64 := NB113_114.out; have hnc64 := NB114_113.out; obtain ⟨hcz65_0, hcz65_1, hcz65_2, hcz65_3, hfz65_0, hfz65_1, hfz65_2, hfz65_3⟩ := cellsF4 BK113.out) | (go_at_call 23; (with_reducible refine (F23.calls k a0_0 a0_1 a0_2 a0_3 false _ A8.out).mono ?_); rintro e w66 ⟨rfl, hb⟩; (try clear A8); replace BK113 := bb_ BK113 hb; replace BK114 := bb_ BK114 hb; replace HB := hs_ w hb; (try clear hb); obtain ⟨hcz67_0, hcz67_1, hcz67_2, hfz67_0, hfz67_1, hfz67_2⟩ := cellsF3 BK114.out))
  refine bodyPost_ret (results_cell_row rfl _ _ gb114 31 #[.string (⟨#[]⟩ : ByteArray), .int .i64 0, .int .i64 1] (0, 0) _ rfl (bq_ BK114) Try.underlying31 rfl (by kernel_rfl)) rfl ?_
  exact ⟨au1_0, bl_⟩

 obtain ⟨y116, hy116⟩ : ∃ y_ : List Int, y_ = (([] : List Int)) := ⟨_, rfl⟩
 replace H : (F18.l0 k a1 y116 0 a0_0 a0_1 a0_2 a0_3) = some (r1, r2, r3) := by first | (rw [hy116]; exact H) | exact H
 have Ny116 := am_ hy116
 clear hy116
 have H' := am_ H
 clear H
 go_enter Try.func18, Try.ntmps18
 go_wp2_with (first | ((with_reducible refine gate_dst (N := 2) rfl ?_); (try (refine gate_guard (by rfl) ?_; dsimp only)); refine be_ 2 #[.int .i64 a0_0, .int .i64 a0_1, .int .i64 a0_2, .int .i64 a0_3] 23 ?_; intro gb113 hg w10 hbox hb; have BK113 := am_ (hbox); have GW113 := am_ (gw_ hg bl_); have GE113 := GW113; replace HB := hs_ w hb; clear hb hbox hg) | ((with_reducible refine gate_dst (N := 4) rfl ?_); (try (refine gate_guard (by rfl) ?_; dsimp only)); refine be_ 4 #[.string (⟨#[]⟩ : ByteArray), .int .i64 0, .int .i64 0] 31 ?_; intro gb114 hg w11 hbox hb; have BK114 := am_ (hbox); have GW114 := am_ (gw_ hg bl_); have GE114 := GW114; replace HB := hs_ w hb; have NB113_114 := am_ (gn_ hg (blkl_ BK113)); have NB114_113 := am_ (gm_ hg (blkl_ BK113)); replace BK113 := bb_ BK113 hb; clear hb hbox hg; have hnb12 := NB113_114.out; have hnc12 := NB114_113.out; obtain ⟨hcz13_0, hcz13_1, hcz13_2, hcz13_3, hfz13_0, hfz13_1, hfz13_2, hfz13_3⟩ := cellsF4 BK113.out) | (go_at_call 23; (with_reducible refine (F23.calls k a0_0 a0_1 a0_2 a0_3 true _ A8.out).mono ?_); rintro e w14 ⟨rfl, hb⟩; (try clear A8); replace BK113 := bb_ BK113 hb; replace BK114 := bb_ BK114 hb; replace HB := hs_ w hb; (try clear hb)) | ((with_reducible refine gate_dst (N := 16) rfl ?_); (try (refine gate_guard (by rfl) ?_; dsimp only)); refine Kd.R_lit (Kd.int .u8) _ 5 ?hg (N := 16) ?hd (xs := ([] : List Int)) (inner := []) (ok := fun _ => True) (okp := fun _ => True) ?hr ?hp (fun _ hk => hk) trivial (Below.refl _ _) (Nat.le_refl _) (by simp) ?_; (case hd => rfl); (case hg => rfl); (case hr => exact hr_); (case hp => exact (Reps.none _ _)); intro v117 w15 ho16 hb hg_ hnew_; clear hg_ hnew_; (first | rw [← Ny116.out] at ho16 | (simp only [Int.reduceToNat] at ho16; rw [← Ny116.out] at ho16)); have HO118 := am_ (Kd.R_lower ho16 (below_size bl_)); replace BK113 := bb_ BK113 hb; replace BK114 := bb_ BK114 hb; replace HB := hs_ w hb; clear hb ho16))
 go_loopg [5, 6] k (fun kq v5 v6 w' => ∃ (x5_1 : List Int) (x6_1 : Int) (x115000_1 : ByteArray) (x115001_1 : Int) (x115002_1 : Int), v6 = .int .i64 x6_1 ∧ Aside0 (F18.l0 kq a1 x5_1 x6_1 a0_0 a0_1 a0_2 a0_3 = some (r1, r2, r3)) ∧ Aside0 (kq ≤ k) ∧ Aside0 (Kd.R (Kd.int .u8) 5 w' w.heap.size (fun _ => True) v5 x5_1) ∧ Aside0 (w'.heap[gb113]? = some (.cells #[.int .i64 a0_0, .int .i64 a0_1, .int .i64 a0_2, .int .i64 a0_3] 23 (0, 0))) ∧ Aside0 (w'.heap[gb114]? = some (.cells #[.string x115000_1, .int .i64 x115001_1, .int .i64 x115002_1] 31 (0, 0))) ∧ Aside0 (Below w.heap.size w w'))
 case atStart => exact ⟨(y116), (0), ((⟨#[]⟩ : ByteArray)), (0), (0), er_, H', ⟨Nat.le_refl _⟩, ⟨rk_ HO118⟩, ⟨bk_ BK113⟩, ⟨bk_ BK114⟩, ⟨bl_⟩⟩
 case round =>
  clear H'
  try clear c3b0
  try clear c3b1
  try clear hcz13_0 hcz13_1 hcz13_2 hcz13_3
  try clear hcz7_0 hcz7_1 hcz7_2
  try clear hfz13_0 hfz13_1 hfz13_2 hfz13_3
  try clear hfz7_0 hfz7_1 hfz7_2
  obtain ⟨x5_1, x6_1, x115000_1, x115001_1, x115002_1, rfl, HA, HK1, HO_5, BK113, BK114, HB⟩ := hrel
  cases gk with
  | zero => exact absurd HA.out (by simp [F18.l0])
  | succ k1 =>
   have H := HA.out
   clear HA
   simp only [F18.l0] at H
   replace H := it_ H; rcases H with ⟨c17b0, H⟩ | ⟨c17b0, H⟩
   rotate_left
   ·simp only [Option.some.injEq, Prod.mk.injEq] at H
    obtain ⟨rfl, rfl, rfl⟩ := H
    have hcv59 := own_string (P := Try.prog) Try.underlying36 Try.underlying5 Try.underlying9 (Kd.own_of_R HO_5.out)
    have hnb60 := NB114_113.out
    have hnc60 := NB113_114.out
    obtain ⟨hcz61_0, hcz61_1, hcz61_2, hfz61_0, hfz61_1, hfz61_2⟩ := cellsF3 BK114.out
    go_wp2
    refine bodyPost_ret (results_cell_row rfl _ _ gb114 31 #[.string (strOfNums x5_1), .int .i64 0, .int .i64 0] (0, 0) _ rfl (bq_ BK114) Try.underlying31 rfl (by kernel_rfl)) rfl ?_
    exact ⟨au1_0, bl_⟩
   replace H := itn_ H; rcases H with ⟨c18b0, H⟩
   replace H := bi_ H; rcases H with ⟨t119, A20, H⟩
   replace H := ib_ H; rcases H with ⟨rfl, H⟩ | ⟨rfl, H⟩
   rotate_left
   ·replace H := iln_ H; rcases H with ⟨LMc54, H⟩
    obtain ⟨y124, hy124⟩ : ∃ y_ : List Int, y_ = (x5_1 ++ [bt a1 x6_1]) := ⟨_, rfl⟩
    replace H : (F18.l0 k1 a1 y124 (wrap64 (x6_1 + 1)) a0_0 a0_1 a0_2 a0_3) = some (r1, r2, r3) := by first | (rw [hy124]; exact H) | exact H
    have Ny124 := am_ hy124
    clear hy124
    have H' := am_ H
    clear H
    have p19 : 0 ≤ (x6_1 : Int) := od_
    have q19 : x6_1 < (a1.size : Int) := od_
    have hx19 := bt_at a1 x6_1
    replace p19 := eq_true p19
    replace q19 := eq_true q19
    have hnb55 := NB113_114.out
    have hnc55 := NB114_113.out
    obtain ⟨hcz56_0, hcz56_1, hcz56_2, hcz56_3, hfz56_0, hfz56_1, hfz56_2, hfz56_3⟩ := cellsF4 BK113.out
    go_wp2_with (first | (go_at_call 62; (with_reducible refine (F62.calls a0_0 a0_1 a0_2 a0_3 (bt a1 x6_1) false _ A20.out).mono ?_); rintro e w57 ⟨rfl, hb⟩; (try clear A20); replace HO_5 := am_ (Kd.R_below (rk_ HO_5) hb); replace BK113 := bb_ BK113 hb; replace BK114 := bb_ BK114 hb; replace HB := hs_ w hb; (try clear hb)) | ((with_reducible refine gate_builtin (b := .append) (xs := #[.tmp 57, .tmp 59]) rfl ?_); (try (refine gate_guard (by rfl) ?_; dsimp only)); at_builtin; refine Kd.R_append (Kd.int .u8) (w0 := w) w.heap.size rfl (.tmp 57) (.tmp 59) 36 5 (.int .u8 0) 1 rfl Try.underlying36 info5 rfl (by decide) (by omega) u5 x5_1 (bt a1 x6_1) [.int .u8 (bt a1 x6_1)] (fun _ => True) (fun _ => False) rfl rfl ?aP (fun _ hk => hk.elim) ?aF ?aO ?aB ?aS ?aL ?_; (case aP => exact rfl); (case aB => exact bl_); (case aF => exact (fun _ _ => trivial)); (case aO => exact (rk_ HO_5)); (case aS => exact (below_size bl_)); (case aL => have := LMc54.out; omega); intro v125 w58 ho hb hg hat; rw [← Ny124.out] at ho; have n0_ := am_ (bg_ BK113 hg (Kd.R_ne HO_5.out BK113.out (by decide))); have n1_ := am_ (bg_ BK114 hg (Kd.R_ne HO_5.out BK114.out (by decide))); have n2_ := am_ (hb); have n3_ := am_ (ho); clear BK113; clear BK114; clear HB; clear HO_5; have BK113 := n0_; have BK114 := n1_; have HB := n2_; have HO126 := n3_; clear n0_ n1_ n2_ n3_; clear ho hb hg hat))
    go_roundg k1
    case measure => have := HK1.out; omega
    case rel => exact ⟨(y124), (wrap64 (x6_1 + 1)), (x115000_1), (x115001_1), (x115002_1), er_, H', ⟨by have := HK1.out; omega⟩, ⟨rk_ HO126⟩, ⟨bk_ BK113⟩, ⟨bk_ BK114⟩, ⟨bl_⟩⟩
   by_cases c22 : (wrap64 (bt a1 x6_1)) = a0_3
   rotate_left
   ·rw [if_neg c22] at H
    have c22b0 : ((wrap64 (bt a1 x6_1)) == a0_3) = false := beq_eq_false_iff_ne.mpr c22
    have c22b1 : ((wrap64 (bt a1 x6_1)) != a0_3) = true := bne_iff_ne.mpr c22
    simp only [Option.some.injEq, Prod.mk.injEq] at H
    obtain ⟨rfl, rfl, rfl⟩ := H
    have p19 : 0 ≤ (x6_1 : Int) := od_
    have q19 : x6_1 < (a1.size : Int) := od_
    have hx19 := bt_at a1 x6_1
    replace p19 := eq_true p19
    replace q19 := eq_true q19
    have hnb49 := NB113_114.out
    have hnc49 := NB114_113.out
    obtain ⟨hcz50_0, hcz50_1, hcz50_2, hcz50_3, hfz50_0, hfz50_1, hfz50_2, hfz50_3⟩ := cellsF4 BK113.out
    try go_wp2_with (first | (go_at_call 62; (with_reducible refine (F62.calls a0_0 a0_1 a0_2 a0_3 (bt a1 x6_1) true _ A20.out).mono ?_); rintro e w51 ⟨rfl, hb⟩; (try clear A20); replace HO_5 := am_ (Kd.R_below (rk_ HO_5) hb); replace BK113 := bb_ BK113 hb; replace BK114 := bb_ BK114 hb; replace HB := hs_ w hb; (try clear hb)))
    replace HO_5 := am_ (Kd.R_drew HO_5.out)
    replace BK113 := bd_ BK113
    replace BK114 := bd_ BK114
    replace HB := am_ (below_drew1 HB.out)
    refine start_ (n := 21) (S := fun w' => w'.cell? ⟨gb113, 0, none⟩ = some (.int .i64 a0_0) ∧ w'.cell? ⟨gb113, 1, none⟩ = some (.int .i64 a0_1) ∧ w'.cell? ⟨gb113, 2, none⟩ = some (.int .i64 a0_2) ∧ w'.cell? ⟨gb113, 3, none⟩ = some (.int .i64 a0_3)) (ds := []) (bs 21 0) (by kernel_rfl) rfl rfl ⟨(blk_cell BK113.out 0).trans rfl, (blk_cell BK113.out 1).trans rfl, (blk_cell BK113.out 2).trans rfl, (blk_cell BK113.out 3).trans rfl⟩ (fun hHeld => ?_); refine with_tabW F18.tab11 F18.bits11 (fun HT_ HW_ => ?_)
    generalize w51.drew = w52 at HO_5 BK113 BK114 HB hHeld ⊢
    refine pu_ 0 29 (bs 21 1) HT_ ?_ rfl rfl
    refine pu_ 1 30 (bs 21 3) HT_ ?_ rfl rfl
    refine pu_ 2 31 (bs 21 7) HT_ ?_ rfl rfl
    refine tk_ 3 32 (bs 21 15) HT_ HW_ hHeld au1_2 ?_ rfl rfl
    refine pu_ 4 33 (bs 21 31) HT_ ?_ rfl rfl
    refine pu_ 5 34 (bs 21 63) HT_ ?_ rfl rfl
    refine pv_ 6 35 (bs 21 127) HT_ ?_ rfl rfl
    refine pv_ 7 36 (bs 21 255) HT_ ?_ rfl rfl
    refine pv_ 8 37 (bs 21 511) HT_ ?_ rfl rfl
    refine pv_ 9 38 (bs 21 1023) HT_ ?_ rfl rfl
    refine pv_ 10 39 (bs 21 2047) HT_ ?_ rfl rfl
    refine pu_ 11 40 (bs 21 4095) HT_ ?_ rfl rfl
    refine pu_ 12 41 (bs 21 8191) HT_ ?_ rfl rfl
    refine pv_ 13 42 (bs 21 16383) HT_ ?_ rfl rfl
    refine pv_ 14 43 (bs 21 32767) HT_ ?_ rfl rfl
    refine pv_ 15 44 (bs 21 65535) HT_ ?_ rfl rfl
    refine pv_ 16 45 (bs 21 131071) HT_ ?_ rfl rfl
    refine pv_ 17 46 (bs 21 262143) HT_ ?_ rfl rfl
    refine pv_ 18 47 (bs 21 524287) HT_ ?_ rfl rfl
    refine pv_ 19 48 (bs 21 1048575) HT_ ?_ rfl rfl
    refine pu_ 20 49 (bs 21 2097151) HT_ ?_ rfl rfl
    refine done_ (done_of HT_.out (by kernel_rfl)) ?_
    obtain ⟨hcz53_0, hcz53_1, hcz53_2, hfz53_0, hfz53_1, hfz53_2⟩ := cellsF3 BK114.out
    try go_wp2
    refine bodyPost_ret (results_cell_row rfl _ _ gb114 31 #[.string (⟨#[]⟩ : ByteArray), .int .i64 x6_1, .int .i64 3] (0, 0) _ rfl (bq_ BK114) Try.underlying31 rfl (by kernel_rfl)) rfl ?_
    exact ⟨au1_0, bl_⟩
   rw [if_pos c22] at H
   have c22b0 : ((wrap64 (bt a1 x6_1)) == a0_3) = true := beq_iff_eq.mpr c22
   have c22b1 : ((wrap64 (bt a1 x6_1)) != a0_3) = false := bne_eq_false_iff_eq.mpr c22
   clear c22
   by_cases c23 : (wrap64 (x6_1 + 1)) = (a1.size : Int)
   ·rw [if_pos c23] at H
    have c23b0 : ((wrap64 (x6_1 + 1)) == (a1.size : Int)) = true := beq_iff_eq.mpr c23
    have c23b1 : ((wrap64 (x6_1 + 1)) != (a1.size : Int)) = false := bne_eq_false_iff_eq.mpr c23
    clear c23
    simp only [Option.some.injEq, Prod.mk.injEq] at H
    obtain ⟨rfl, rfl, rfl⟩ := H
    have p19 : 0 ≤ (x6_1 : Int) := od_
    have q19 : x6_1 < (a1.size : Int) := od_
    have hx19 := bt_at a1 x6_1
    replace p19 := eq_true p19
    replace q19 := eq_true q19
    have hnb24 := NB113_114.out
    have hnc24 := NB114_113.out
    obtain ⟨hcz25_0, hcz25_1, hcz25_2, hcz25_3, hfz25_0, hfz25_1, hfz25_2, hfz25_3⟩ := cellsF4 BK113.out
    try go_wp2_with (first | (go_at_call 62; (with_reducible refine (F62.calls a0_0 a0_1 a0_2 a0_3 (bt a1 x6_1) true _ A20.out).mono ?_); rintro e w26 ⟨rfl, hb⟩; (try clear A20); replace HO_5 := am_ (Kd.R_below (rk_ HO_5) hb); replace BK113 := bb_ BK113 hb; replace BK114 := bb_ BK114 hb; replace HB := hs_ w hb; (try clear hb)))
    replace HO_5 := am_ (Kd.R_drew HO_5.out)
    replace BK113 := bd_ BK113
    replace BK114 := bd_ BK114
    replace HB := am_ (below_drew1 HB.out)
    refine start_ (n := 21) (S := fun w' => w'.cell? ⟨gb113, 0, none⟩ = some (.int .i64 a0_0) ∧ w'.cell? ⟨gb113, 1, none⟩ = some (.int .i64 a0_1) ∧ w'.cell? ⟨gb113, 2, none⟩ = some (.int .i64 a0_2) ∧ w'.cell? ⟨gb113, 3, none⟩ = some (.int .i64 a0_3)) (ds := []) (bs 21 0) (by kernel_rfl) rfl rfl ⟨(blk_cell BK113.out 0).trans rfl, (blk_cell BK113.out 1).trans rfl, (blk_cell BK113.out 2).trans rfl, (blk_cell BK113.out 3).trans rfl⟩ (fun hHeld => ?_); refine with_tabW F18.tab11 F18.bits11 (fun HT_ HW_ => ?_)
    generalize w26.drew = w27 at HO_5 BK113 BK114 HB hHeld ⊢
    refine pu_ 0 29 (bs 21 1) HT_ ?_ rfl rfl
    refine pu_ 1 30 (bs 21 3) HT_ ?_ rfl rfl
    refine pu_ 2 31 (bs 21 7) HT_ ?_ rfl rfl
    refine tk_ 3 32 (bs 21 15) HT_ HW_ hHeld au1_2 ?_ rfl rfl
    refine pu_ 4 33 (bs 21 31) HT_ ?_ rfl rfl
    refine pu_ 5 34 (bs 21 63) HT_ ?_ rfl rfl
    refine pu_ 6 35 (bs 21 127) HT_ ?_ rfl rfl
    refine pu_ 7 36 (bs 21 255) HT_ ?_ rfl rfl
    refine pu_ 8 37 (bs 21 511) HT_ ?_ rfl rfl
    refine pu_ 9 38 (bs 21 1023) HT_ ?_ rfl rfl
    refine pu_ 10 39 (bs 21 2047) HT_ ?_ rfl rfl
    refine pu_ 11 40 (bs 21 4095) HT_ ?_ rfl rfl
    refine pu_ 12 41 (bs 21 8191) HT_ ?_ rfl rfl
    refine pv_ 13 42 (bs 21 16383) HT_ ?_ rfl rfl
    refine pv_ 14 43 (bs 21 32767) HT_ ?_ rfl rfl
    refine pv_ 15 44 (bs 21 65535) HT_ ?_ rfl rfl
    refine pv_ 16 45 (bs 21 131071) HT_ ?_ rfl rfl
    refine pv_ 17 46 (bs 21 262143) HT_ ?_ rfl rfl
    refine pv_ 18 47 (bs 21 524287) HT_ ?_ rfl rfl
    refine pv_ 19 48 (bs 21 1048575) HT_ ?_ rfl rfl
    refine pu_ 20 49 (bs 21 2097151) HT_ ?_ rfl rfl
    refine done_ (done_of HT_.out (by kernel_rfl)) ?_
    obtain ⟨hcz28_0, hcz28_1, hcz28_2, hfz28_0, hfz28_1, hfz28_2⟩ := cellsF3 BK114.out
    try go_wp2
    refine bodyPost_ret (results_cell_row rfl _ _ gb114 31 #[.string (⟨#[]⟩ : ByteArray), .int .i64 x6_1, .int .i64 3] (0, 0) _ rfl (bq_ BK114) Try.underlying31 rfl (by kernel_rfl)) rfl ?_
    exact ⟨au1_0, bl_⟩
   rw [if_neg c23] at H
   have c23b0 : ((wrap64 (x6_1 + 1)) == (a1.size : Int)) = false := beq_eq_false_iff_ne.mpr c23
   have c23b1 : ((wrap64 (x6_1 + 1)) != (a1.size : Int)) = true := bne_iff_ne.mpr c23
   obtain ⟨ji29, hji29⟩ : ∃ j_ : Int, (wrap64 (x6_1 + 1)) = j_ := ⟨_, rfl⟩
   replace H : (if 0 ≤ (ji29) then (if (ji29) < (a1.size : Int) then ((F62.f a0_0 a0_1 a0_2 a0_3 (bt a1 (ji29))).bind fun t120 => (if t120 = true then (if x5_1.length < 140737488355328 then (F18.l0 k1 a1 (x5_1 ++ [bt a1 (ji29)]) (wrap64 ((ji29) + 1)) a0_0 a0_1 a0_2 a0_3) else (none)) else (some ((⟨#[]⟩ : ByteArray), x6_1, 3)))) else (none)) else (none)) = some (r1, r2, r3) := by first | (rw [hji29] at H; exact H) | (simp only [hji29] at H ⊢; exact H)
   (try rw [hji29] at c23b0)
   (try rw [hji29] at c23b1)
   (try rw [hji29] at A20)
   have hji29w : (IntKind.i64.wrap (x6_1 + 1)) = ji29 := (i64_w _).trans hji29
   replace H := itn_ H; rcases H with ⟨c30b0, H⟩
   replace H := itn_ H; rcases H with ⟨c31b0, H⟩
   replace H := bi_ H; rcases H with ⟨t120, A33, H⟩
   replace H := ib_ H; rcases H with ⟨rfl, H⟩ | ⟨rfl, H⟩
   rotate_left
   ·simp only [Option.some.injEq, Prod.mk.injEq] at H
    obtain ⟨rfl, rfl, rfl⟩ := H
    have p19 : 0 ≤ (x6_1 : Int) := od_
    have q19 : x6_1 < (a1.size : Int) := od_
    have hx19 := bt_at a1 x6_1
    replace p19 := eq_true p19
    replace q19 := eq_true q19
    have hnb43 := NB113_114.out
    have hnc43 := NB114_113.out
    obtain ⟨hcz44_0, hcz44_1, hcz44_2, hcz44_3, hfz44_0, hfz44_1, hfz44_2, hfz44_3⟩ := cellsF4 BK113.out
    try go_wp2_with (first | (go_at_call 62; (with_reducible refine (F62.calls a0_0 a0_1 a0_2 a0_3 (bt a1 x6_1) true _ A20.out).mono ?_); rintro e w45 ⟨rfl, hb⟩; (try clear A20); replace HO_5 := am_ (Kd.R_below (rk_ HO_5) hb); replace BK113 := bb_ BK113 hb; replace BK114 := bb_ BK114 hb; replace HB := hs_ w hb; (try clear hb)))
    replace HO_5 := am_ (Kd.R_drew HO_5.out)
    replace BK113 := bd_ BK113
    replace BK114 := bd_ BK114
    replace HB := am_ (below_drew1 HB.out)
    have p32 : 0 ≤ ((ji29) : Int) := od_
    have q32 : (ji29) < (a1.size : Int) := od_
    have hx32 := bt_at a1 (ji29)
    replace p32 := eq_true p32
    replace q32 := eq_true q32
    refine start_ (n := 21) (S := fun w' => w'.cell? ⟨gb113, 0, none⟩ = some (.int .i64 a0_0) ∧ w'.cell? ⟨gb113, 1, none⟩ = some (.int .i64 a0_1) ∧ w'.cell? ⟨gb113, 2, none⟩ = some (.int .i64 a0_2) ∧ w'.cell? ⟨gb113, 3, none⟩ = some (.int .i64 a0_3)) (ds := []) (bs 21 0) (by kernel_rfl) rfl rfl ⟨(blk_cell BK113.out 0).trans rfl, (blk_cell BK113.out 1).trans rfl, (blk_cell BK113.out 2).trans rfl, (blk_cell BK113.out 3).trans rfl⟩ (fun hHeld => ?_); refine with_tabW F18.tab11 F18.bits11 (fun HT_ HW_ => ?_)
    generalize w45.drew = w46 at HO_5 BK113 BK114 HB hHeld ⊢
    refine pu_ 0 29 (bs 21 1) HT_ ?_ rfl rfl
    refine pu_ 1 30 (bs 21 3) HT_ ?_ rfl rfl
    refine pu_ 2 31 (bs 21 7) HT_ ?_ rfl rfl
    refine tk_ 3 32 (bs 21 15) HT_ HW_ hHeld au1_2 ?_ rfl rfl
    refine pu_ 4 33 (bs 21 31) HT_ ?_ rfl rfl
    refine pu_ 5 34 (bs 21 63) HT_ ?_ rfl rfl
    refine pu_ 6 35 (bs 21 127) HT_ ?_ rfl rfl
    refine pu_ 7 36 (bs 21 255) HT_ ?_ rfl rfl
    refine pu_ 8 37 (bs 21 511) HT_ ?_ rfl rfl
    refine pu_ 9 38 (bs 21 1023) HT_ ?_ rfl rfl
    refine pu_ 10 39 (bs 21 2047) HT_ ?_ rfl rfl
    refine pu_ 11 40 (bs 21 4095) HT_ ?_ rfl rfl
    refine pu_ 12 41 (bs 21 8191) HT_ ?_ rfl rfl
    refine pu_ 14 43 (bs 21 24575) HT_ ?_ rfl rfl
    refine pu_ 15 44 (bs 21 57343) HT_ ?_ rfl rfl
    refine pu_ 16 45 (bs 21 122879) HT_ ?_ rfl rfl
    refine tk_ 13 42 (bs 21 131071) HT_ HW_ hHeld au1_2 ?_ rfl rfl
    refine tk_ 17 46 (bs 21 262143) HT_ HW_ hHeld au1_2 ?_ rfl rfl
    refine one_ (i := 18) (N := some 47) (bs 21 524287) rfl rfl (one_of HT_.out (by kernel_rfl)) (by decide) (fun K hK => ?_)
    refine goes_ Try.func62 (by kernel_rfl) rfl #[.agg #[.int .i64 a0_0, .int .i64 a0_1, .int .i64 a0_2, .int .i64 a0_3], .int .u8 (bt a1 (ji29))] (by rfl) rfl rfl au1_3 ?_
    with_reducible refine (F62.calls a0_0 a0_1 a0_2 a0_3 (bt a1 (ji29)) false _ A33.out).mono ?_
    rintro e w47 ⟨rfl, hb⟩
    refine ⟨_, rfl, ?_⟩
    replace HO_5 := am_ (Kd.R_below (rk_ HO_5) hb)
    replace BK113 := bb_ BK113 hb
    replace BK114 := bb_ BK114 hb
    replace HB := hs_ w hb
    (try clear hb)
    (try clear hb2)
    (try clear hk)
    (try clear hi)
    refine hK.out _ _ ⟨(blk_cell BK113.out 0).trans rfl, (blk_cell BK113.out 1).trans rfl, (blk_cell BK113.out 2).trans rfl, (blk_cell BK113.out 3).trans rfl⟩ (fun hHeld => ?_)
    clear hK K
    refine no_ 47 ?_
    refine pu_ 19 48 (bs 21 1048575) HT_ ?_ rfl rfl
    refine pu_ 20 49 (bs 21 2097151) HT_ ?_ rfl rfl
    refine done_ (done_of HT_.out (by kernel_rfl)) ?_
    obtain ⟨hcz48_0, hcz48_1, hcz48_2, hfz48_0, hfz48_1, hfz48_2⟩ := cellsF3 BK114.out
    try go_wp2
    refine bodyPost_ret (results_cell_row rfl _ _ gb114 31 #[.string (⟨#[]⟩ : ByteArray), .int .i64 x6_1, .int .i64 3] (0, 0) _ rfl (bq_ BK114) Try.underlying31 rfl (by kernel_rfl)) rfl ?_
    exact ⟨by first | rfl | (simp [errW_none, errW_some] <;> rfl) | (simp only [← hji29]; first | rfl | (simp [errW_none, errW_some] <;> rfl)) | (simp [*, errW_none, errW_some] <;> rfl), bl_⟩
   replace H := iln_ H; rcases H with ⟨LMc36, H⟩
   obtain ⟨y121, hy121⟩ : ∃ y_ : List Int, y_ = (x5_1 ++ [bt a1 (ji29)]) := ⟨_, rfl⟩
   replace H : (F18.l0 k1 a1 y121 (wrap64 ((ji29) + 1)) a0_0 a0_1 a0_2 a0_3) = some (r1, r2, r3) := by first | (rw [hy121]; exact H) | exact H
   have Ny121 := am_ hy121
   clear hy121
   have H' := am_ H
   clear H
   have p19 : 0 ≤ (x6_1 : Int) := od_
   have q19 : x6_1 < (a1.size : Int) := od_
   have hx19 := bt_at a1 x6_1
   replace p19 := eq_true p19
   replace q19 := eq_true q19
   have hnb37 := NB113_114.out
   have hnc37 := NB114_113.out
   obtain ⟨hcz38_0, hcz38_1, hcz38_2, hcz38_3, hfz38_0, hfz38_1, hfz38_2, hfz38_3⟩ := cellsF4 BK113.out
   try go_wp2_with (first | (go_at_call 62; (with_reducible refine (F62.calls a0_0 a0_1 a0_2 a0_3 (bt a1 x6_1) true _ A20.out).mono ?_); rintro e w39 ⟨rfl, hb⟩; (try clear A20); replace HO_5 := am_ (Kd.R_below (rk_ HO_5) hb); replace BK113 := bb_ BK113 hb; replace BK114 := bb_ BK114 hb; replace HB := hs_ w hb; (try clear hb)))
   replace HO_5 := am_ (Kd.R_drew HO_5.out)
   replace BK113 := bd_ BK113
   replace BK114 := bd_ BK114
   replace HB := am_ (below_drew1 HB.out)
   have p32 : 0 ≤ ((ji29) : Int) := od_
   have q32 : (ji29) < (a1.size : Int) := od_
   have hx32 := bt_at a1 (ji29)
   replace p32 := eq_true p32
   replace q32 := eq_true q32
   refine start_ (n := 21) (S := fun w' => w'.cell? ⟨gb113, 0, none⟩ = some (.int .i64 a0_0) ∧ w'.cell? ⟨gb113, 1, none⟩ = some (.int .i64 a0_1) ∧ w'.cell? ⟨gb113, 2, none⟩ = some (.int .i64 a0_2) ∧ w'.cell? ⟨gb113, 3, none⟩ = some (.int .i64 a0_3)) (ds := []) (bs 21 0) (by kernel_rfl) rfl rfl ⟨(blk_cell BK113.out 0).trans rfl, (blk_cell BK113.out 1).trans rfl, (blk_cell BK113.out 2).trans rfl, (blk_cell BK113.out 3).trans rfl⟩ (fun hHeld => ?_); refine with_tabW F18.tab11 F18.bits11 (fun HT_ HW_ => ?_)
   generalize w39.drew = w40 at HO_5 BK113 BK114 HB hHeld ⊢
   refine pu_ 0 29 (bs 21 1) HT_ ?_ rfl rfl
   refine pu_ 1 30 (bs 21 3) HT_ ?_ rfl rfl
   refine pu_ 2 31 (bs 21 7) HT_ ?_ rfl rfl
   refine tk_ 3 32 (bs 21 15) HT_ HW_ hHeld au1_2 ?_ rfl rfl
   refine pu_ 4 33 (bs 21 31) HT_ ?_ rfl rfl
   refine pu_ 5 34 (bs 21 63) HT_ ?_ rfl rfl
   refine pu_ 6 35 (bs 21 127) HT_ ?_ rfl rfl
   refine pu_ 7 36 (bs 21 255) HT_ ?_ rfl rfl
   refine pu_ 8 37 (bs 21 511) HT_ ?_ rfl rfl
   refine pu_ 9 38 (bs 21 1023) HT_ ?_ rfl rfl
   refine pu_ 10 39 (bs 21 2047) HT_ ?_ rfl rfl
   refine pu_ 11 40 (bs 21 4095) HT_ ?_ rfl rfl
   refine pu_ 12 41 (bs 21 8191) HT_ ?_ rfl rfl
   refine pu_ 14 43 (bs 21 24575) HT_ ?_ rfl rfl
   refine pu_ 15 44 (bs 21 57343) HT_ ?_ rfl rfl
   refine pu_ 16 45 (bs 21 122879) HT_ ?_ rfl rfl
   refine tk_ 13 42 (bs 21 131071) HT_ HW_ hHeld au1_2 ?_ rfl rfl
   refine tk_ 17 46 (bs 21 262143) HT_ HW_ hHeld au1_2 ?_ rfl rfl
   refine one_ (i := 18) (N := some 47) (bs 21 524287) rfl rfl (one_of HT_.out (by kernel_rfl)) (by decide) (fun K hK => ?_)
   refine goes_ Try.func62 (by kernel_rfl) rfl #[.agg #[.int .i64 a0_0, .int .i64 a0_1, .int .i64 a0_2, .int .i64 a0_3], .int .u8 (bt a1 (ji29))] (by rfl) rfl rfl au1_3 ?_
   with_reducible refine (F62.calls a0_0 a0_1 a0_2 a0_3 (bt a1 (ji29)) true _ A33.out).mono ?_
   rintro e w41 ⟨rfl, hb⟩
   refine ⟨_, rfl, ?_⟩
   replace HO_5 := am_ (Kd.R_below (rk_ HO_5) hb)
   replace BK113 := bb_ BK113 hb
   replace BK114 := bb_ BK114 hb
   replace HB := hs_ w hb
   (try clear hb)
   (try clear hb2)
   (try clear hk)
   (try clear hi)
   refine hK.out _ _ ⟨(blk_cell BK113.out 0).trans rfl, (blk_cell BK113.out 1).trans rfl, (blk_cell BK113.out 2).trans rfl, (blk_cell BK113.out 3).trans rfl⟩ (fun hHeld => ?_)
   clear hK K
   refine no_ 47 ?_
   refine pu_ 19 48 (bs 21 1048575) HT_ ?_ rfl rfl
   refine pu_ 20 49 (bs 21 2097151) HT_ ?_ rfl rfl
   refine done_ (done_of HT_.out (by kernel_rfl)) ?_
   have p35 : 0 ≤ ((ji29) : Int) := od_
   have q35 : (ji29) < (a1.size : Int) := od_
   have hx35 := bt_at a1 (ji29)
   replace p35 := eq_true p35
   replace q35 := eq_true q35
   try go_wp2_with (first | ((with_reducible refine gate_builtin (b := .append) (xs := #[.tmp 57, .tmp 59]) rfl ?_); (try (refine gate_guard (by rfl) ?_; dsimp only)); at_builtin; refine Kd.R_append (Kd.int .u8) (w0 := w) w.heap.size rfl (.tmp 57) (.tmp 59) 36 5 (.int .u8 0) 1 rfl Try.underlying36 info5 rfl (by decide) (by omega) u5 x5_1 (bt a1 (ji29)) [.int .u8 (bt a1 (ji29))] (fun _ => True) (fun _ => False) rfl rfl ?aP (fun _ hk => hk.elim) ?aF ?aO ?aB ?aS ?aL ?_; (case aP => exact rfl); (case aB => exact bl_); (case aF => exact (fun _ _ => trivial)); (case aO => exact (rk_ HO_5)); (case aS => exact (below_size bl_)); (case aL => have := LMc36.out; omega); intro v122 w42 ho hb hg hat; rw [← Ny121.out] at ho; have n0_ := am_ (bg_ BK113 hg (Kd.R_ne HO_5.out BK113.out (by decide))); have n1_ := am_ (bg_ BK114 hg (Kd.R_ne HO_5.out BK114.out (by decide))); have n2_ := am_ (hb); have n3_ := am_ (ho); clear BK113; clear BK114; clear HB; clear HO_5; have BK113 := n0_; have BK114 := n1_; have HB := n2_; have HO123 := n3_; clear n0_ n1_ n2_ n3_; clear ho hb hg hat))
   go_roundg k1
   case measure => have := HK1.out; omega
   case rel => exact ⟨(y121), (wrap64 ((ji29) + 1)), (x115000_1), (x115001_1), (x115002_1), (by first | rfl | (simp; done) | (simp only [← hji29] <;> (first | rfl | simp)) | (simp [*]; done)), H', ⟨by have := HK1.out; omega⟩, ⟨rk_ HO123⟩, ⟨bk_ BK113⟩, ⟨bk_ BK114⟩, ⟨bl_⟩⟩
/-! ### F68: function 68 -/
def F68.l0 : Nat → ByteArray → Int → List ByteArray → Int → Int → Int → Int → Int → Int → Option (List ByteArray)
  | 0, _, _, _, _, _, _, _, _, _ => none
  | k + 1, x1, x2, x7, x8, x9, x128000, x128001, x128002, x128003 => if x9 < (x1.size : Int) then (if 0 ≤ x9 then (if (wrap64 (bt x1 x9)) = x128003 then (F68.l0 k x1 x2 x7 x8 (wrap64 ((wrap64 (x9 + 1)) + 1)) x128000 x128001 x128002 x128003) else (if (wrap64 (bt x1 x9)) = x2 then (if 0 ≤ x8 then (if x8 ≤ x9 then (if x9 ≤ (x1.size : Int) then (if x7.length < 8796093022208 then (F68.l0 k x1 x2 (x7 ++ [x1.extract (x8 : Int).toNat (x9 : Int).toNat]) (wrap64 (x9 + 1)) (wrap64 (x9 + 1)) x128000 x128001 x128002 x128003) else (none)) else (none)) else (none)) else (none)) else (F68.l0 k x1 x2 x7 x8 (wrap64 (x9 + 1)) x128000 x128001 x128002 x128003))) else (none)) else (if 0 ≤ x8 then (if x8 ≤ (x1.size : Int) then (if x7.length < 8796093022208 then (some (x7 ++ [x1.extract (x8 : Int).toNat x1.size])) else (none)) else (none)) else (none))
def F68.f (k : Nat) (a0_0 : Int) (a0_1 : Int) (a0_2 : Int) (a0_3 : Int) (a1 : ByteArray) (a2 : Int) : Option (List ByteArray) := F68.l0 k a1 a2 (([] : List ByteArray)) 0 0 a0_0 a0_1 a0_2 a0_3
theorem F68.mono_l : ∀ k, (∀ y0 y1 y2 y3 y4 y5 y6 y7 y8, LeO (F68.l0 k y0 y1 y2 y3 y4 y5 y6 y7 y8) (F68.l0 (k + 1) y0 y1 y2 y3 y4 y5 y6 y7 y8))
 | 0 => fun _ _ _ _ _ _ _ _ _ r h => by simp [F68.l0] at h
 | k + 1 => by
  have ih0 := F68.mono_l k
  intro y0 y1 y2 y3 y4 y5 y6 y7 y8
  unfold F68.l0
  repeat' with_reducible first | exact ih0 _ _ _ _ _ _ _ _ _ | exact LeO.refl _ | exact LeO.none _ | refine LeO.ite ?_ ?_ | refine LeO.bind ?_ (fun _ => ?_)
theorem F68.mono : ∀ a0 a1 a2 a3 a4 a5 k, LeO (F68.f k a0 a1 a2 a3 a4 a5) (F68.f (k + 1) a0 a1 a2 a3 a4 a5) := by
 intro a0 a1 a2 a3 a4 a5 k
 have ih0 := F68.mono_l k
 unfold F68.f
 repeat' with_reducible first | exact ih0 _ _ _ _ _ _ _ _ _ | exact LeO.refl _ | exact LeO.none _ | refine LeO.ite ?_ ?_ | refine LeO.bind ?_ (fun _ => ?_)
theorem F68.calls (k : Nat) (a0_0 : Int) (a0_1 : Int) (a0_2 : Int) (a0_3 : Int) (a1 : ByteArray) (a2 : Int) (r : List ByteArray) (w : World) (h : F68.f k a0_0 a0_1 a0_2 a0_3 a1 a2 = some r) :
  Calls Try.prog 68 #[.agg #[.int .i64 a0_0, .int .i64 a0_1, .int .i64 a0_2, .int .i64 a0_3], .string a1, .int .i64 a2] w fun e w' => ∃ v0_ : Value, e = .returned (v0_) ∧ Kd.R Kd.string 9 w' w.heap.size (fun _ => True) v0_ r ∧ Below w.heap.size w w' := by
 have hu23 := Try.underlying23
 have HB := am_ (Below.refl w.heap.size w)
 have H : (F68.l0 k a1 a2 (([] : List ByteArray)) 0 0 a0_0 a0_1 a0_2 a0_3) = some r := h
 clear h
 obtain ⟨y128, hy128⟩ : ∃ y_ : List ByteArray, y_ = (([] : List ByteArray)) := ⟨_, rfl⟩
 replace H : (F68.l0 k a1 a2 y128 0 0 a0_0 a0_1 a0_2 a0_3) = some r := by first | (rw [hy128]; exact H) | exact H
 have Ny128 := am_ hy128
 clear hy128
 have H' := am_ H
 clear H
 go_enter Try.func68, Try.ntmps68
 go_wp2_with (first | ((with_reducible refine gate_dst (N := 3) rfl ?_); refine be_ 3 #[.int .i64 a0_0, .int .i64 a0_1, .int .i64 a0_2, .int .i64 a0_3] 23 ?_; intro gb127 hg w4 hbox hb; have BK127 := am_ (hbox); have GW127 := am_ (gw_ hg bl_); have GE127 := GW127; replace HB := hs_ w hb; clear hb hbox hg) | ((with_reducible refine gate_dst (N := 10) rfl ?_); refine Kd.R_lit Kd.string _ 9 ?hg (N := 10) ?hd (xs := ([] : List ByteArray)) (inner := []) (ok := fun _ => True) (okp := fun _ => True) ?hr ?hp (fun _ hk => hk) trivial (Below.refl _ _) (Nat.le_refl _) (by simp) ?_; (case hd => rfl); (case hg => rfl); (case hr => exact hr_); (case hp => exact (Reps.none _ _)); intro v129 w5 ho6 hb hg_ hnew_; clear hg_ hnew_; (first | rw [← Ny128.out] at ho6 | (simp only [Int.reduceToNat] at ho6; rw [← Ny128.out] at ho6)); have HO130 := am_ (Kd.R_lower ho6 (below_size bl_)); replace BK127 := bb_ BK127 hb; replace HB := hs_ w hb; clear hb ho6))
 repeat (go_quiet (first | ((with_reducible refine gate_dst (N := 3) rfl ?_); refine be_ 3 #[.int .i64 a0_0, .int .i64 a0_1, .int .i64 a0_2, .int .i64 a0_3] 23 ?_; intro gb127 hg w4 hbox hb; have BK127 := am_ (hbox); have GW127 := am_ (gw_ hg bl_); have GE127 := GW127; replace HB := hs_ w hb; clear hb hbox hg) | ((with_reducible refine gate_dst (N := 10) rfl ?_); refine Kd.R_lit Kd.string _ 9 ?hg (N := 10) ?hd (xs := ([] : List ByteArray)) (inner := []) (ok := fun _ => True) (okp := fun _ => True) ?hr ?hp (fun _ hk => hk) trivial (Below.refl _ _) (Nat.le_refl _) (by simp) ?_; (case hd => rfl); (case hg => rfl); (case hr => exact hr_); (case hp => exact (Reps.none _ _)); intro v129 w5 ho6 hb hg_ hnew_; clear hg_ hnew_; (first | rw [← Ny128.out] at ho6 | (simp only [Int.reduceToNat] at ho6; rw [← Ny128.out] at ho6)); have HO130 := am_ (Kd.R_lower ho6 (below_size bl_)); replace BK127 := bb_ BK127 hb; replace HB := hs_ w hb; clear hb ho6)); try go_wp2_with (first | ((with_reducible refine gate_dst (N := 3) rfl ?_); refine be_ 3 #[.int .i64 a0_0, .int .i64 a0_1, .int .i64 a0_2, .int .i64 a0_3] 23 ?_; intro gb127 hg w4 hbox hb; have BK127 := am_ (hbox); have GW127 := am_ (gw_ hg bl_); have GE127 := GW127; replace HB := hs_ w hb; clear hb hbox hg) | ((with_reducible refine gate_dst (N := 10) rfl ?_); refine Kd.R_lit Kd.string _ 9 ?hg (N := 10) ?hd (xs := ([] : List ByteArray)) (inner := []) (ok := fun _ => True) (okp := fun _ => True) ?hr ?hp (fun _ hk => hk) trivial (Below.refl _ _) (Nat.le_refl _) (by simp) ?_; (case hd => rfl); (case hg => rfl); (case hr => exact hr_); (case hp => exact (Reps.none _ _)); intro v129 w5 ho6 hb hg_ hnew_; clear hg_ hnew_; (first | rw [← Ny128.out] at ho6 | (simp only [Int.reduceToNat] at ho6; rw [← Ny128.out] at ho6)); have HO130 := am_ (Kd.R_lower ho6 (below_size bl_)); replace BK127 := bb_ BK127 hb; replace HB := hs_ w hb; clear hb ho6)))
 go_loopg [7, 8, 9] k (fun kq v7 v8 v9 w' => ∃ (x7_1 : List ByteArray) (x8_1 : Int) (x9_1 : Int), v8 = .int .i64 x8_1 ∧ v9 = .int .i64 x9_1 ∧ Aside0 (F68.l0 kq a1 a2 x7_1 x8_1 x9_1 a0_0 a0_1 a0_2 a0_3 = some r) ∧ Aside0 (kq ≤ k) ∧ Aside0 (Kd.R Kd.string 9 w' w.heap.size (fun _ => True) v7 x7_1) ∧ Aside0 (w'.heap[gb127]? = some (.cells #[.int .i64 a0_0, .int .i64 a0_1, .int .i64 a0_2, .int .i64 a0_3] 23 (0, 0))) ∧ Aside0 (Below w.heap.size w w'))
 case atStart => exact ⟨(y128), (0), (0), er_, er_, H', ⟨Nat.le_refl _⟩, ⟨rk_ HO130⟩, ⟨bk_ BK127⟩, ⟨bl_⟩⟩
 case round =>
  clear H'
  obtain ⟨x7_1, x8_1, x9_1, rfl, rfl, HA, HK1, HO_7, BK127, HB⟩ := hrel
  cases gk with
  | zero => exact absurd HA.out (by simp [F68.l0])
  | succ k1 =>
   have H := HA.out
   clear HA
   simp only [F68.l0] at H
   replace H := it_ H; rcases H with ⟨c7b0, H⟩ | ⟨c7b0, H⟩
   rotate_left
   ·by_cases c21 : 0 ≤ x8_1
    rotate_left
    ·rw [if_neg c21] at H
     exact absurd H (by simp)

    rw [if_pos c21] at H
    have c21b0 := eq_true c21
    have c21b1 : decide (0 ≤ x8_1) = true := decide_eq_true c21
    clear c21
    by_cases c22 : x8_1 ≤ (a1.size : Int)
    rotate_left
    ·rw [if_neg c22] at H
     exact absurd H (by simp)
    rw [if_pos c22] at H
    have c22b0 := eq_true c22
    have c22b1 : decide (x8_1 ≤ (a1.size : Int)) = true := decide_eq_true c22
    clear c22
    replace H := iln_ H; rcases H with ⟨LMc23, H⟩
    obtain ⟨y131, hy131⟩ : ∃ y_ : List ByteArray, y_ = (x7_1 ++ [a1.extract (x8_1 : Int).toNat a1.size]) := ⟨_, rfl⟩
    replace H : (some y131) = some r := by first | (rw [hy131]; exact H) | exact H
    have Ny131 := am_ hy131
    clear hy131
    obtain rfl := Option.some.inj H
    go_wp2_with (first | ((with_reducible refine gate_builtin (b := .append) (xs := #[.tmp 41, .tmp 45]) rfl ?_); at_builtin; refine Kd.R_append Kd.string (w0 := w) w.heap.size rfl (.tmp 41) (.tmp 45) 41 9 (.string ⟨#[]⟩) 16 rfl Try.underlying41 info9 rfl (by decide) (by omega) u7 x7_1 (a1.extract (x8_1 : Int).toNat a1.size) [.string (a1.extract (x8_1 : Int).toNat a1.size)] (fun _ => True) (fun _ => False) rfl rfl ?aP (fun _ hk => hk.elim) ?aF ?aO ?aB ?aS ?aL ?_; (case aP => exact rfl); (case aB => exact bl_); (case aF => exact (fun _ _ => trivial)); (case aO => exact (rk_ HO_7)); (case aS => exact (below_size bl_)); (case aL => have := LMc23.out; omega); intro v132 w24 ho hb hg hat; rw [← Ny131.out] at ho; have n0_ := am_ (bg_ BK127 hg (Kd.R_ne HO_7.out BK127.out (by decide))); have n1_ := am_ (hb); have n2_ := am_ (ho); clear BK127; clear HB; clear HO_7; have BK127 := n0_; have HB := n1_; have HO133 := n2_; clear n0_ n1_ n2_; clear ho hb hg hat))
    repeat (go_quiet (first | ((with_reducible refine gate_builtin (b := .append) (xs := #[.tmp 41, .tmp 45]) rfl ?_); at_builtin; refine Kd.R_append Kd.string (w0 := w) w.heap.size rfl (.tmp 41) (.tmp 45) 41 9 (.string ⟨#[]⟩) 16 rfl Try.underlying41 info9 rfl (by decide) (by omega) u7 x7_1 (a1.extract (x8_1 : Int).toNat a1.size) [.string (a1.extract (x8_1 : Int).toNat a1.size)] (fun _ => True) (fun _ => False) rfl rfl ?aP (fun _ hk => hk.elim) ?aF ?aO ?aB ?aS ?aL ?_; (case aP => exact rfl); (case aB => exact bl_); (case aF => exact (fun _ _ => trivial)); (case aO => exact (rk_ HO_7)); (case aS => exact (below_size bl_)); (case aL => have := LMc23.out; omega); intro v132 w24 ho hb hg hat; rw [← Ny131.out] at ho; have n0_ := am_ (bg_ BK127 hg (Kd.R_ne HO_7.out BK127.out (by decide))); have n1_ := am_ (hb); have n2_ := am_ (ho); clear BK127; clear HB; clear HO_7; have BK127 := n0_; have HB := n1_; have HO133 := n2_; clear n0_ n1_ n2_; clear ho hb hg hat)); try go_wp2_with (first | ((with_reducible refine gate_builtin (b := .append) (xs := #[.tmp 41, .tmp 45]) rfl ?_); at_builtin; refine Kd.R_append Kd.string (w0 := w) w.heap.size rfl (.tmp 41) (.tmp 45) 41 9 (.string ⟨#[]⟩) 16 rfl Try.underlying41 info9 rfl (by decide) (by omega) u7 x7_1 (a1.extract (x8_1 : Int).toNat a1.size) [.string (a1.extract (x8_1 : Int).toNat a1.size)] (fun _ => True) (fun _ => False) rfl rfl ?aP (fun _ hk => hk.elim) ?aF ?aO ?aB ?aS ?aL ?_; (case aP => exact rfl); (case aB => exact bl_); (case aF => exact (fun _ _ => trivial)); (case aO => exact (rk_ HO_7)); (case aS => exact (below_size bl_)); (case aL => have := LMc23.out; omega); intro v132 w24 ho hb hg hat; rw [← Ny131.out] at ho; have n0_ := am_ (bg_ BK127 hg (Kd.R_ne HO_7.out BK127.out (by decide))); have n1_ := am_ (hb); have n2_ := am_ (ho); clear BK127; clear HB; clear HO_7; have BK127 := n0_; have HB := n1_; have HO133 := n2_; clear n0_ n1_ n2_; clear ho hb hg hat)))
    go_ret
    exact ⟨_, au1_0, rk_ HO133, bl_⟩
   replace H := itn_ H; rcases H with ⟨c8b0, H⟩
   by_cases c10 : (wrap64 (bt a1 x9_1)) = a0_3
   ·rw [if_pos c10] at H
    have c10b0 : ((wrap64 (bt a1 x9_1)) == a0_3) = true := beq_iff_eq.mpr c10
    have c10b1 : ((wrap64 (bt a1 x9_1)) != a0_3) = false := bne_eq_false_iff_eq.mpr c10
    clear c10
    have H' := am_ H
    clear H
    have p9 : 0 ≤ (x9_1 : Int) := od_
    have q9 : x9_1 < (a1.size : Int) := od_
    have hx9 := bt_at a1 x9_1
    replace p9 := eq_true p9
    replace q9 := eq_true q9
    obtain ⟨hcz11_0, hcz11_1, hcz11_2, hcz11_3, hfz11_0, hfz11_1, hfz11_2, hfz11_3⟩ := cellsF4 BK127.out
    go_wp2
    repeat (go_quiet (fail); try go_wp2)
    go_roundg k1
    case measure => have := HK1.out; omega
    case rel => exact ⟨(x7_1), (x8_1), (wrap64 ((wrap64 (x9_1 + 1)) + 1)), er_, er_, H', ⟨by have := HK1.out; omega⟩, ⟨rk_ HO_7⟩, ⟨bk_ BK127⟩, ⟨bl_⟩⟩
   rw [if_neg c10] at H
   have c10b0 : ((wrap64 (bt a1 x9_1)) == a0_3) = false := beq_eq_false_iff_ne.mpr c10
   have c10b1 : ((wrap64 (bt a1 x9_1)) != a0_3) = true := bne_iff_ne.mpr c10
   by_cases c13 : (wrap64 (bt a1 x9_1)) = a2
   rotate_left
   ·rw [if_neg c13] at H
    have c13b0 : ((wrap64 (bt a1 x9_1)) == a2) = false := beq_eq_false_iff_ne.mpr c13
    have c13b1 : ((wrap64 (bt a1 x9_1)) != a2) = true := bne_iff_ne.mpr c13
    have H' := am_ H
    clear H
    have p9 : 0 ≤ (x9_1 : Int) := od_
    have q9 : x9_1 < (a1.size : Int) := od_
    have hx9 := bt_at a1 x9_1
    replace p9 := eq_true p9
    replace q9 := eq_true q9
    obtain ⟨hcz20_0, hcz20_1, hcz20_2, hcz20_3, hfz20_0, hfz20_1, hfz20_2, hfz20_3⟩ := cellsF4 BK127.out
    have p12 : 0 ≤ (x9_1 : Int) := od_
    have q12 : x9_1 < (a1.size : Int) := od_
    have hx12 := bt_at a1 x9_1
    replace p12 := eq_true p12
    replace q12 := eq_true q12
    go_wp2
    repeat (go_quiet (fail); try go_wp2)
    go_roundg k1
    case measure => have := HK1.out; omega
    case rel => exact ⟨(x7_1), (x8_1), (wrap64 (x9_1 + 1)), er_, er_, H', ⟨by have := HK1.out; omega⟩, ⟨rk_ HO_7⟩, ⟨bk_ BK127⟩, ⟨bl_⟩⟩
   rw [if_pos c13] at H
   have c13b0 : ((wrap64 (bt a1 x9_1)) == a2) = true := beq_iff_eq.mpr c13
   have c13b1 : ((wrap64 (bt a1 x9_1)) != a2) = false := bne_eq_false_iff_eq.mpr c13
   clear c13
   by_cases c14 : 0 ≤ x8_1
   rotate_left
   ·rw [if_neg c14] at H
    exact absurd H (by simp)
   rw [if_pos c14] at H
   have c14b0 := eq_true c14
   have c14b1 : decide (0 ≤ x8_1) = true := decide_eq_true c14
   clear c14
   by_cases c15 : x8_1 ≤ x9_1
   rotate_left
   ·rw [if_neg c15] at H
    exact absurd H (by simp)
   rw [if_pos c15] at H
   have c15b0 := eq_true c15
   have c15b1 : decide (x8_1 ≤ x9_1) = true := decide_eq_true c15
   clear c15
   by_cases c16 : x9_1 ≤ (a1.size : Int)
   rotate_left
   ·rw [if_neg c16] at H
    exact absurd H (by simp)
   rw [if_pos c16] at H
   have c16b0 := eq_true c16
   have c16b1 : decide (x9_1 ≤ (a1.size : Int)) = true := decide_eq_true c16
   clear c16
   replace H := iln_ H; rcases H with ⟨LMc17, H⟩
   obtain ⟨y134, hy134⟩ : ∃ y_ : List ByteArray, y_ = (x7_1 ++ [a1.extract (x8_1 : Int).toNat (x9_1 : Int).toNat]) := ⟨_, rfl⟩
   replace H : (F68.l0 k1 a1 a2 y134 (wrap64 (x9_1 + 1)) (wrap64 (x9_1 + 1)) a0_0 a0_1 a0_2 a0_3) = some r := by first | (rw [hy134]; exact H) | exact H
   have Ny134 := am_ hy134
   clear hy134
   have H' := am_ H
   clear H
   have p9 : 0 ≤ (x9_1 : Int) := od_
   have q9 : x9_1 < (a1.size : Int) := od_
   have hx9 := bt_at a1 x9_1
   replace p9 := eq_true p9
   replace q9 := eq_true q9
   obtain ⟨hcz18_0, hcz18_1, hcz18_2, hcz18_3, hfz18_0, hfz18_1, hfz18_2, hfz18_3⟩ := cellsF4 BK127.out
   have p12 : 0 ≤ (x9_1 : Int) := od_
   have q12 : x9_1 < (a1.size : Int) := od_
   have hx12 := bt_at a1 x9_1
   replace p12 := eq_true p12
   replace q12 := eq_true q12
   go_wp2_with (first | ((with_reducible refine gate_builtin (b := .append) (xs := #[.tmp 32, .tmp 37]) rfl ?_); at_builtin; refine Kd.R_append Kd.string (w0 := w) w.heap.size rfl (.tmp 32) (.tmp 37) 41 9 (.string ⟨#[]⟩) 16 rfl Try.underlying41 info9 rfl (by decide) (by omega) u7 x7_1 (a1.extract (x8_1 : Int).toNat (x9_1 : Int).toNat) [.string (a1.extract (x8_1 : Int).toNat (x9_1 : Int).toNat)] (fun _ => True) (fun _ => False) rfl rfl ?aP (fun _ hk => hk.elim) ?aF ?aO ?aB ?aS ?aL ?_; (case aP => exact rfl); (case aB => exact bl_); (case aF => exact (fun _ _ => trivial)); (case aO => exact (rk_ HO_7)); (case aS => exact (below_size bl_)); (case aL => have := LMc17.out; omega); intro v135 w19 ho hb hg hat; rw [← Ny134.out] at ho; have n0_ := am_ (bg_ BK127 hg (Kd.R_ne HO_7.out BK127.out (by decide))); have n1_ := am_ (hb); have n2_ := am_ (ho); clear BK127; clear HB; clear HO_7; have BK127 := n0_; have HB := n1_; have HO136 := n2_; clear n0_ n1_ n2_; clear ho hb hg hat))
   repeat (go_quiet (first | ((with_reducible refine gate_builtin (b := .append) (xs := #[.tmp 32, .tmp 37]) rfl ?_); at_builtin; refine Kd.R_append Kd.string (w0 := w) w.heap.size rfl (.tmp 32) (.tmp 37) 41 9 (.string ⟨#[]⟩) 16 rfl Try.underlying41 info9 rfl (by decide) (by omega) u7 x7_1 (a1.extract (x8_1 : Int).toNat (x9_1 : Int).toNat) [.string (a1.extract (x8_1 : Int).toNat (x9_1 : Int).toNat)] (fun _ => True) (fun _ => False) rfl rfl ?aP (fun _ hk => hk.elim) ?aF ?aO ?aB ?aS ?aL ?_; (case aP => exact rfl); (case aB => exact bl_); (case aF => exact (fun _ _ => trivial)); (case aO => exact (rk_ HO_7)); (case aS => exact (below_size bl_)); (case aL => have := LMc17.out; omega); intro v135 w19 ho hb hg hat; rw [← Ny134.out] at ho; have n0_ := am_ (bg_ BK127 hg (Kd.R_ne HO_7.out BK127.out (by decide))); have n1_ := am_ (hb); have n2_ := am_ (ho); clear BK127; clear HB; clear HO_7; have BK127 := n0_; have HB := n1_; have HO136 := n2_; clear n0_ n1_ n2_; clear ho hb hg hat)); try go_wp2_with (first | ((with_reducible refine gate_builtin (b := .append) (xs := #[.tmp 32, .tmp 37]) rfl ?_); at_builtin; refine Kd.R_append Kd.string (w0 := w) w.heap.size rfl (.tmp 32) (.tmp 37) 41 9 (.string ⟨#[]⟩) 16 rfl Try.underlying41 info9 rfl (by decide) (by omega) u7 x7_1 (a1.extract (x8_1 : Int).toNat (x9_1 : Int).toNat) [.string (a1.extract (x8_1 : Int).toNat (x9_1 : Int).toNat)] (fun _ => True) (fun _ => False) rfl rfl ?aP (fun _ hk => hk.elim) ?aF ?aO ?aB ?aS ?aL ?_; (case aP => exact rfl); (case aB => exact bl_); (case aF => exact (fun _ _ => trivial)); (case aO => exact (rk_ HO_7)); (case aS => exact (below_size bl_)); (case aL => have := LMc17.out; omega); intro v135 w19 ho hb hg hat; rw [← Ny134.out] at ho; have n0_ := am_ (bg_ BK127 hg (Kd.R_ne HO_7.out BK127.out (by decide))); have n1_ := am_ (hb); have n2_ := am_ (ho); clear BK127; clear HB; clear HO_7; have BK127 := n0_; have HB := n1_; have HO136 := n2_; clear n0_ n1_ n2_; clear ho hb hg hat)))
   go_roundg k1
   case measure => have := HK1.out; omega
   case rel => exact ⟨(y134), (wrap64 (x9_1 + 1)), (wrap64 (x9_1 + 1)), er_, er_, H', ⟨by have := HK1.out; omega⟩, ⟨rk_ HO136⟩, ⟨bk_ BK127⟩, ⟨bl_⟩⟩
/-! ### F75: function 75 -/
def F75.l0 : Nat → ByteArray → Int → Option (Bool)
  | 0, _, _ => none
  | k + 1, x0, x3 => if x3 < 3 then (if 0 ≤ x3 then (if x3 < (x0.size : Int) then (if (bt x0 x3) < 65 then (some false) else (if (bt x0 x3) > 90 then (some false) else (F75.l0 k x0 (wrap64 (x3 + 1))))) else (none)) else (none)) else (some true)
def F75.f (k : Nat) (a0 : ByteArray) : Option (Bool) := if (a0.size : Int) = 3 then (F75.l0 k a0 0) else (some false)
theorem F75.mono_l : ∀ k, (∀ y0 y1, LeO (F75.l0 k y0 y1) (F75.l0 (k + 1) y0 y1))
 | 0 => fun _ _ r h => by simp [F75.l0] at h
 | k + 1 => by
  have ih0 := F75.mono_l k
  intro y0 y1
  unfold F75.l0
  repeat' with_reducible first | exact ih0 _ _ | exact LeO.refl _ | exact LeO.none _ | refine LeO.ite ?_ ?_ | refine LeO.bind ?_ (fun _ => ?_)
theorem F75.mono : ∀ a0 k, LeO (F75.f k a0) (F75.f (k + 1) a0) := by
 intro a0 k
 have ih0 := F75.mono_l k
 unfold F75.f
 repeat' with_reducible first | exact ih0 _ _ | exact LeO.refl _ | exact LeO.none _ | refine LeO.ite ?_ ?_ | refine LeO.bind ?_ (fun _ => ?_)
theorem F75.calls (k : Nat) (a0 : ByteArray) (r : Bool) (w : World) (h : F75.f k a0 = some r) :
  Calls Try.prog 75 #[.string a0] w fun e w' => e = .returned (.bool r) ∧ Drawn0 w w' := by
 have H : (if (a0.size : Int) = 3 then (F75.l0 k a0 0) else (some false)) = some r := h
 clear h
 by_cases c2 : (a0.size : Int) = 3
 rotate_left
 ·rw [if_neg c2] at H
  have c2b0 : ((a0.size : Int) == 3) = false := beq_eq_false_iff_ne.mpr c2
  have c2b1 : ((a0.size : Int) != 3) = true := bne_iff_ne.mpr c2
  obtain rfl := Option.some.inj H
  go_enter Try.func75, Try.ntmps75
  go_wp2
  go_ret
  exact ⟨er_, dn_⟩

 rw [if_pos c2] at H
 have c2b0 : ((a0.size : Int) == 3) = true := beq_iff_eq.mpr c2
 have c2b1 : ((a0.size : Int) != 3) = false := bne_eq_false_iff_eq.mpr c2
 clear c2
 have H' := am_ H
 clear H
 go_enter Try.func75, Try.ntmps75
 go_wp2
 go_loopg [3] k (fun kq v3 w' => ∃ (x3_1 : Int), v3 = .int .i64 x3_1 ∧ Aside0 (F75.l0 kq a0 x3_1 = some r) ∧ Aside0 (kq ≤ k) ∧ Drawn0 w w')
 case atStart => exact ⟨(0), er_, H', ⟨Nat.le_refl _⟩, dn_⟩
 case round =>
  clear H'
  try clear c2
  try clear c2b0
  try clear c2b1
  obtain ⟨x3_1, rfl, HA, HK1, ⟨m1, rfl⟩⟩ := hrel
  cases gk with
  | zero => exact absurd HA.out (by simp [F75.l0])
  | succ k1 =>
   have H := HA.out
   clear HA
   simp only [F75.l0] at H
   replace H := it_ H; rcases H with ⟨c3b0, H⟩ | ⟨c3b0, H⟩
   rotate_left
   ·obtain rfl := Option.some.inj H
    go_wp2
    go_ret
    exact ⟨er_, dn_⟩
   replace H := itn_ H; rcases H with ⟨c4b0, H⟩
   replace H := itn_ H; rcases H with ⟨c5b0, H⟩
   replace H := it_ H; rcases H with ⟨c7b0, H⟩ | ⟨c7b0, H⟩
   ·obtain rfl := Option.some.inj H
    have p6 : 0 ≤ (x3_1 : Int) := od_
    have q6 : x3_1 < (a0.size : Int) := od_
    have hx6 := bt_at a0 x3_1
    replace p6 := eq_true p6
    replace q6 := eq_true q6
    go_wp2
    go_ret
    exact ⟨er_, dn_⟩
   replace H := it_ H; rcases H with ⟨(c9b0 : decide (90 < (bt a0 x3_1)) = true), H⟩ | ⟨(c9b0 : decide (90 < (bt a0 x3_1)) = false), H⟩
   ·obtain rfl := Option.some.inj H
    have p6 : 0 ≤ (x3_1 : Int) := od_
    have q6 : x3_1 < (a0.size : Int) := od_
    have hx6 := bt_at a0 x3_1
    replace p6 := eq_true p6
    replace q6 := eq_true q6
    have p8 : 0 ≤ (x3_1 : Int) := od_
    have q8 : x3_1 < (a0.size : Int) := od_
    have hx8 := bt_at a0 x3_1
    replace p8 := eq_true p8
    replace q8 := eq_true q8
    go_wp2
    go_ret
    exact ⟨er_, dn_⟩
   have H' := am_ H
   clear H
   have p6 : 0 ≤ (x3_1 : Int) := od_
   have q6 : x3_1 < (a0.size : Int) := od_
   have hx6 := bt_at a0 x3_1
   replace p6 := eq_true p6
   replace q6 := eq_true q6
   have p8 : 0 ≤ (x3_1 : Int) := od_
   have q8 : x3_1 < (a0.size : Int) := od_
   have hx8 := bt_at a0 x3_1
   replace p8 := eq_true p8
   replace q8 := eq_true q8
   go_wp2
   go_roundg k1
   case measure => have := HK1.out; omega
   case rel => exact ⟨(wrap64 (x3_1 + 1)), er_, H', ⟨by have := HK1.out; omega⟩, dn_⟩
/-! ### F76: function 76 -/
def F76.l0 : Nat → ByteArray → Int → Option (Bool)
  | 0, _, _ => none
  | k + 1, x0, x3 => if x3 < (x0.size : Int) then (if 0 ≤ x3 then (if (bt x0 x3) < 32 then (some false) else (if (bt x0 x3) > 126 then (some false) else (F76.l0 k x0 (wrap64 (x3 + 1))))) else (none)) else (some true)
def F76.f (k : Nat) (a0 : ByteArray) : Option (Bool) := if (a0.size : Int) > 40 then (some false) else (F76.l0 k a0 0)
theorem F76.mono_l : ∀ k, (∀ y0 y1, LeO (F76.l0 k y0 y1) (F76.l0 (k + 1) y0 y1))
 | 0 => fun _ _ r h => by simp [F76.l0] at h
 | k + 1 => by
  have ih0 := F76.mono_l k
  intro y0 y1
  unfold F76.l0
  repeat' with_reducible first | exact ih0 _ _ | exact LeO.refl _ | exact LeO.none _ | refine LeO.ite ?_ ?_ | refine LeO.bind ?_ (fun _ => ?_)
theorem F76.mono : ∀ a0 k, LeO (F76.f k a0) (F76.f (k + 1) a0) := by
 intro a0 k
 have ih0 := F76.mono_l k
 unfold F76.f
 repeat' with_reducible first | exact ih0 _ _ | exact LeO.refl _ | exact LeO.none _ | refine LeO.ite ?_ ?_ | refine LeO.bind ?_ (fun _ => ?_)
theorem F76.calls (k : Nat) (a0 : ByteArray) (r : Bool) (w : World) (h : F76.f k a0 = some r) :
  Calls Try.prog 76 #[.string a0] w fun e w' => e = .returned (.bool r) ∧ Drawn0 w w' := by
 have H : (if (a0.size : Int) > 40 then (some false) else (F76.l0 k a0 0)) = some r := h
 clear h
 replace H := it_ H; rcases H with ⟨(c2b0 : decide (40 < (a0.size : Int)) = true), H⟩ | ⟨(c2b0 : decide (40 < (a0.size : Int)) = false), H⟩
 ·have c2b1 : decide (40 < a0.size) = true := n2_ c2b0
  obtain rfl := Option.some.inj H
  go_enter Try.func76, Try.ntmps76
  go_wp2
  go_ret
  exact ⟨er_, dn_⟩
 have c2b1 : decide (40 < a0.size) = false := n2_ c2b0
 have H' := am_ H
 clear H
 go_enter Try.func76, Try.ntmps76
 go_wp2
 go_loopg [3] k (fun kq v3 w' => ∃ (x3_1 : Int), v3 = .int .i64 x3_1 ∧ Aside0 (F76.l0 kq a0 x3_1 = some r) ∧ Aside0 (kq ≤ k) ∧ Drawn0 w w')
 case atStart => exact ⟨(0), er_, H', ⟨Nat.le_refl _⟩, dn_⟩
 case round =>
  clear H'
  try clear c2b0
  try clear c2b1
  obtain ⟨x3_1, rfl, HA, HK1, ⟨m1, rfl⟩⟩ := hrel
  cases gk with
  | zero => exact absurd HA.out (by simp [F76.l0])
  | succ k1 =>
   have H := HA.out
   clear HA
   simp only [F76.l0] at H
   replace H := it_ H; rcases H with ⟨c3b0, H⟩ | ⟨c3b0, H⟩
   rotate_left
   ·obtain rfl := Option.some.inj H
    go_wp2
    go_ret
    exact ⟨er_, dn_⟩

   replace H := itn_ H; rcases H with ⟨c4b0, H⟩
   replace H := it_ H; rcases H with ⟨c6b0, H⟩ | ⟨c6b0, H⟩
   ·obtain rfl := Option.some.inj H
    have p5 : 0 ≤ (x3_1 : Int) := od_
    have q5 : x3_1 < (a0.size : Int) := od_
    have hx5 := bt_at a0 x3_1
    replace p5 := eq_true p5
    replace q5 := eq_true q5
    go_wp2
    go_ret
    exact ⟨er_, dn_⟩
   replace H := it_ H; rcases H with ⟨(c8b0 : decide (126 < (bt a0 x3_1)) = true), H⟩ | ⟨(c8b0 : decide (126 < (bt a0 x3_1)) = false), H⟩
   ·obtain rfl := Option.some.inj H
    have p5 : 0 ≤ (x3_1 : Int) := od_
    have q5 : x3_1 < (a0.size : Int) := od_
    have hx5 := bt_at a0 x3_1
    replace p5 := eq_true p5
    replace q5 := eq_true q5
    have p7 : 0 ≤ (x3_1 : Int) := od_
    have q7 : x3_1 < (a0.size : Int) := od_
    have hx7 := bt_at a0 x3_1
    replace p7 := eq_true p7
    replace q7 := eq_true q7
    go_wp2
    go_ret
    exact ⟨er_, dn_⟩
   have H' := am_ H
   clear H
   have p5 : 0 ≤ (x3_1 : Int) := od_
   have q5 : x3_1 < (a0.size : Int) := od_
   have hx5 := bt_at a0 x3_1
   replace p5 := eq_true p5
   replace q5 := eq_true q5
   have p7 : 0 ≤ (x3_1 : Int) := od_
   have q7 : x3_1 < (a0.size : Int) := od_
   have hx7 := bt_at a0 x3_1
   replace p7 := eq_true p7
   replace q7 := eq_true q7
   go_wp2
   go_roundg k1
   case measure => have := HK1.out; omega
   case rel => exact ⟨(wrap64 (x3_1 + 1)), er_, H', ⟨by have := HK1.out; omega⟩, dn_⟩
/-! ### F77: function 77 -/
def F77.f (l0_0 : List ByteArray) : Option (Bool) := if (l0_0.length : Int) = 1 then (if 0 < (l0_0.length : Int) then (some ((rdOf ByteArray.empty l0_0 0).toList == ([] : List UInt8))) else (none)) else (some false)
theorem F77.calls (A0_0 : Option Addr) (c0_0 : Nat) (l0_0 : List ByteArray) (r : Bool) (w : World) (hr0_0 : Kd.C Kd.string w A0_0 l0_0.length l0_0) (hc0_0 : l0_0.length ≤ c0_0) (h : F77.f l0_0 = some r) :
  Calls Try.prog 77 #[.agg #[.slice A0_0 l0_0.length c0_0]] w fun e w' => e = .returned (.bool r) ∧ Below w.heap.size w w' := by
 have hu102 := Try.underlying102
 have HR0_0 := am_ hr0_0
 have HC0_0 := am_ hc0_0
 clear hr0_0 hc0_0
 have HB := am_ (Below.refl w.heap.size w)
 have H : (if (l0_0.length : Int) = 1 then (if 0 < (l0_0.length : Int) then (some ((rdOf ByteArray.empty l0_0 0).toList == ([] : List UInt8))) else (none)) else (some false)) = some r := h
 clear h
 by_cases c2 : (l0_0.length : Int) = 1
 rotate_left
 ·rw [if_neg c2] at H
  have c2b0 : ((l0_0.length : Int) == 1) = false := beq_eq_false_iff_ne.mpr c2
  have c2b1 : ((l0_0.length : Int) != 1) = true := bne_iff_ne.mpr c2
  obtain rfl := Option.some.inj H
  go_enter Try.func77, Try.ntmps77
  go_wp2_with (first | ((with_reducible refine gate_dst (N := 1) rfl ?_); refine be_ 1 #[.slice A0_0 l0_0.length c0_0] 102 ?_; intro gb137 hg w6 hbox hb; have BK137 := am_ (hbox); have GW137 := am_ (gw_ hg bl_); have GE137 := GW137; replace HB := hs_ w hb; clear hb hbox hg; have hcz7_0 : w6.cell? ⟨gb137, 0, none⟩ = some (.slice A0_0 l0_0.length c0_0) := (blk_cell BK137.out 0).trans rfl; have hfz7_0 := blk_frozen BK137.out 0))
  go_ret
  exact ⟨au1_0, bl_⟩

 rw [if_pos c2] at H
 have c2b0 : ((l0_0.length : Int) == 1) = true := beq_iff_eq.mpr c2
 have c2b1 : ((l0_0.length : Int) != 1) = false := bne_eq_false_iff_eq.mpr c2
 clear c2
 replace H := itn_ H; rcases H with ⟨c3b0, H⟩
 have c3b1 : decide (0 < l0_0.length) = true := n2_ c3b0
 obtain rfl := Option.some.inj H
 go_enter Try.func77, Try.ntmps77
 go_wp2_with (first | ((with_reducible refine gate_dst (N := 1) rfl ?_); refine be_ 1 #[.slice A0_0 l0_0.length c0_0] 102 ?_; intro gb137 hg w4 hbox hb; have BK137 := am_ (hbox); have GW137 := am_ (gw_ hg bl_); have GE137 := GW137; replace HB := hs_ w hb; clear hb hbox hg; have hcz5_0 : w4.cell? ⟨gb137, 0, none⟩ = some (.slice A0_0 l0_0.length c0_0) := (blk_cell BK137.out 0).trans rfl; have hfz5_0 := blk_frozen BK137.out 0; have p138 : 0 ≤ (0 : Int) := (by omega); have q138 : 0 < (l0_0.length : Int) := od_; obtain ⟨ad138, e138, hx138_0⟩ := Kd.at_string HR0_0.out 0 p138 q138; cases e138; have qi138 : (0 < l0_0.length) = True := eq_true (by omega); (try rw [show ((0 : Int)).toNat = 0 from rfl] at hx138_0); (try rw [Addr.add_zero'] at hx138_0); replace hx138_0 := (HB.out.cell (World.block_lt_of_cell? _ _ hx138_0)).trans hx138_0; replace p138 := eq_true p138; replace q138 := eq_true q138))
 go_ret
 exact ⟨au1_0, bl_⟩
/-! ### F114: function 114 -/
def F114.f (a0 : Int) : Option (ByteArray × (List (S102)) × Int × Int × Int) := some ((⟨#[]⟩ : ByteArray), ([] : List (S102)), 0, a0, 3)
theorem F114.calls (a0 : Int) (r1 : ByteArray) (r2 : List (S102)) (r3 : Int) (r4 : Int) (r5 : Int) (w : World) (h : F114.f a0 = some (r1, r2, r3, r4, r5)) :
  Calls Try.prog 114 #[.int .i64 a0] w fun e w' => ∃ v1_ : Value, e = .returned (.agg #[.string r1, v1_, .int .i64 r3, .int .i64 r4, .int .i64 r5]) ∧ Kd.S k102 102 w' w.heap.size (fun _ => True) v1_ r2 ∧ Below w.heap.size w w' := by
 have hu66 := Try.underlying66
 have HB := am_ (Below.refl w.heap.size w)
 have H : (some ((⟨#[]⟩ : ByteArray), ([] : List (S102)), 0, a0, 3)) = some (r1, r2, r3, r4, r5) := h
 clear h
 simp only [Option.some.injEq, Prod.mk.injEq] at H
 obtain ⟨rfl, rfl, rfl, rfl, rfl⟩ := H
 go_enter Try.func114, Try.ntmps114
 go_wp2_with (first | ((with_reducible refine gate_dst (N := 2) rfl ?_); refine be_ 2 #[.string (⟨#[]⟩ : ByteArray), .slice none 0 0, .int .i64 0, .int .i64 0, .int .i64 0] 66 ?_; intro gb139 hg w2 hbox hb; have BK139 := am_ (hbox); have GW139 := am_ (gw_ hg bl_); have GE139 := GW139; replace HB := hs_ w hb; clear hb hbox hg; obtain ⟨hcz3_0, hcz3_1, hcz3_2, hcz3_3, hcz3_4, hfz3_0, hfz3_1, hfz3_2, hfz3_3, hfz3_4⟩ := cellsF5 BK139.out))
 refine bodyPost_ret (results_cell_row rfl _ _ gb139 66 #[.string (⟨#[]⟩ : ByteArray), .slice none 0 0, .int .i64 0, .int .i64 a0, .int .i64 3] (0, 0) _ rfl (bq_ BK139) Try.underlying66 rfl (by kernel_rfl)) rfl ?_
 exact ⟨_, au1_0, by first | exact Kd.S_nil _ _ _ _ _ | exact Kd.N_nil _ _ _ _ _ | exact Kd.V_nil _ _ _ _ _ | exact Kd.Q_nil _ _ _ _ _ | exact Kd.R_nil _ _ _ _ _, bl_⟩
end Go.Proofs.Ytchoalagkcdbhaa.PFnExactSegmentsRead
