-- printed by a program of this session (wip/xp/xprint.py) out of the translation; Lean checks it
import Derived.Test.YtjffakoifpldeaaPFnWindowx0
import Derived.Test.YtjffakoifpldeaaPFnWindowx1
import Derived.Test.YtjffakoifpldeaaPFnWindowx4
import Derived.Test.YtjffakoifpldeaaPFnWindowx5
namespace Go.Proofs.Ytjffakoifpldeaa.PFnWindow
open Go.RowKit Go.Proofs.YtjffakoifpldeaaW.PrintWords Go.Proofs.YtjffakoifpldeaaW.PrintLast Go.Proofs.YtjffakoifpldeaaW.PrintMore
attribute [local go_sem] max2_int min2_int max_two min_two max_three min_three max_four min_four   -- for this text's walks alone
set_option linter.unusedVariables false
set_option linter.unusedSimpArgs false

theorem au6_0 {p : Prop} (h : p := by first | exact Nat.ne_of_lt (Nat.lt_of_lt_of_le (by have := World.block_lt_of_cell? _ _ hw174_0; first | rwa [add_block] at this | exact this) GW186.out) | (rw [add_block]; exact Nat.ne_of_lt (Nat.lt_of_lt_of_le (by have := World.block_lt_of_cell? _ _ hw174_0; first | rwa [add_block] at this | exact this) GW186.out)) | (show (Addr.add _ _).block ≠ _; rw [add_block]; exact Nat.ne_of_lt (Nat.lt_of_lt_of_le (by have := World.block_lt_of_cell? _ _ hw174_0; first | rwa [add_block] at this | exact this) GW186.out)) | (dsimp only; exact Nat.ne_of_lt (Nat.lt_of_lt_of_le (by have := World.block_lt_of_cell? _ _ hw174_0; first | rwa [add_block] at this | exact this) GW186.out))) : p := h
theorem au6_1 {p : Prop} (h : p := by (with_reducible repeat (first | apply Kd.R_alloc | apply Kd.R_drewN | apply Kd.R_drew)); exact (Kd.R_mono (Kd.R_mono (Kd.R_far (p := ⟨gb173, 3, none⟩) (Kd.R_far (p := ⟨gb173, 2, none⟩) (Kd.R_far (p := ⟨gb173, 1, none⟩) (Kd.R_far (p := ⟨gb173, 0, none⟩) (Kd.R_far (p := ⟨gb186, 8, none⟩) (Kd.R_far (p := ⟨gb186, 7, none⟩) (Kd.R_far (p := ⟨gb186, 6, none⟩) (Kd.R_far (p := ⟨gb186, 5, none⟩) (Kd.R_far (p := ⟨gb186, 4, none⟩) (Kd.R_far (p := ⟨gb186, 3, none⟩) (Kd.R_far (p := ⟨gb186, 2, none⟩) (Kd.R_far (p := ⟨gb186, 1, none⟩) (Kd.R_far (p := ⟨gb186, 0, none⟩) (Kd.R_types (Kd.R_types HO_5.out BK186.out (by decide)) BK173.out (by decide)) (fun _ hk => hk.1.2) (.string t175)) (fun _ hk => hk.1.2) (.int .i64 t176)) (fun _ hk => hk.1.2) (.int .i64 t177)) (fun _ hk => hk.1.2) (.slice Ao32 t178.length co32)) (fun _ hk => hk.1.2) (.int .i64 t181)) (fun _ hk => hk.1.2) (.int .i64 t182)) (fun _ hk => hk.1.2) (.int .i64 t183)) (fun _ hk => hk.1.2) (.int .i64 t184)) (fun _ hk => hk.1.2) (.int .i64 t185)) (fun _ hk => hk.2) (.string t175)) (fun _ hk => hk.2) (.int .i64 t176)) (fun _ hk => hk.2) (.int .i64 t177)) (fun _ hk => hk.2) (.slice Ao32 t178.length co32)) (fun _ h_ => h_.1)) (fun _ h_ => h_.1))) : p := h
theorem au6_2 {p : Prop} (h : p := by (with_reducible repeat (first | apply Kd.R_alloc | apply Kd.R_drewN | apply Kd.R_drew)); exact (Kd.R_mono (Kd.R_far (p := ⟨gb186, 8, none⟩) (Kd.R_far (p := ⟨gb186, 7, none⟩) (Kd.R_far (p := ⟨gb186, 6, none⟩) (Kd.R_far (p := ⟨gb186, 5, none⟩) (Kd.R_far (p := ⟨gb186, 4, none⟩) (Kd.R_far (p := ⟨gb186, 3, none⟩) (Kd.R_far (p := ⟨gb186, 2, none⟩) (Kd.R_far (p := ⟨gb186, 1, none⟩) (Kd.R_far (p := ⟨gb186, 0, none⟩) (Kd.R_types HO_5.out BK186.out (by decide)) (fun _ hk => hk.2) (.string t175)) (fun _ hk => hk.2) (.int .i64 t176)) (fun _ hk => hk.2) (.int .i64 t177)) (fun _ hk => hk.2) (.slice Ao52 t178.length co52)) (fun _ hk => hk.2) (.int .i64 t181)) (fun _ hk => hk.2) (.int .i64 t182)) (fun _ hk => hk.2) (.int .i64 t183)) (fun _ hk => hk.2) (.int .i64 t184)) (fun _ hk => hk.2) (.int .i64 t185)) (fun _ h_ => h_.1))) : p := h
theorem au6_3 {p : Prop} (h : p := by repeat (first | exact (Kd.R_reads' HO_174003.out).2.2 | (with_reducible refine Kd.C_alloc ?_ _) | (with_reducible refine Kd.C_drewN ?_ _) | (with_reducible refine Kd.C_drew ?_))) : p := h
theorem au6_4 {p : Prop} (h : p := by (with_reducible repeat (first | apply Kd.R_alloc | apply Kd.R_drewN | apply Kd.R_drew)); exact Kd.R_mono HO_174003.out (fun _ hk => hk.2)) : p := h
theorem au6_5 {p : Prop} (h : p := by (with_reducible repeat (first | apply Kd.R_alloc | apply Kd.R_drewN | apply Kd.R_drew)); exact Kd.R_mono HO180.out (fun _ hk => hk.2)) : p := h
theorem au6_6 {p : Prop} (h : p := by simp only [putAll, Act.put, List.setIfInBounds_toArray, List.set_cons_zero, List.set_cons_succ]) : p := h
theorem au6_7 {p : Prop} (h : p := by first | rfl | (simp [errW_none, errW_some] <;> rfl) | (simp [*, errW_none, errW_some] <;> rfl)) : p := h
theorem au6_8 {p : Prop} (h : p := by rintro w' ⟨s0, s1, s2, s3, s4⟩; go_simp; with_reducible rfl) : p := h
theorem au6_9 {p : Prop} (h : p := by exact (Kd.R_reads' HO_174003.out).2.1) : p := h

/-! ### spec_PartnerRun: function 38 -/
mutual
def spec_PartnerRun.j0 : Nat → ByteArray → List Int → List Int → Bool → Option (List Int)
  | 0, _, _, _, _ => none
  | k + 1, x0, x1, x5, x23 => if x23 = true then (some x5) else (spec_PartnerRun.l0 k x0 x1 x5 0)
def spec_PartnerRun.l0 : Nat → ByteArray → List Int → List Int → Int → Option (List Int)
  | 0, _, _, _, _ => none
  | k + 1, x0, x1, x5, x6 => if x6 < (x1.length : Int) then (if 0 ≤ x6 then ((spec_l01Control.f (rd x1 x6)).bind fun t166 => (if t166 = true then (spec_PartnerRun.l0 k x0 x1 x5 (wrap64 (x6 + 1))) else (some x5))) else (none)) else ((spec_PartnerNew.f k x0).bind fun bt167 => (spec_PartnerRun.l1 k x1 x5 0 bt167.1 bt167.2.1 bt167.2.2.1 bt167.2.2.2))
def spec_PartnerRun.l1 : Nat → List Int → List Int → Int → ByteArray → Int → Int → List (S62) → Option (List Int)
  | 0, _, _, _, _, _, _, _ => none
  | k + 1, x1, x5, x8, x174000, x174001, x174002, x174003 => if x8 < (x1.length : Int) then (if 0 ≤ x8 then ((spec_PartnerTake.f k x174000 x174001 x174002 x174003 (rd x1 x8) 0).bind fun bt175 => (if bt175.2.2.2.2.2.2.2.2 = 0 then (if x5.length < 17592186044416 then (spec_PartnerRun.l1 k x1 (x5 ++ [bt175.2.2.2.2.1]) (wrap64 (x8 + 1)) bt175.1 bt175.2.1 bt175.2.2.1 bt175.2.2.2.1) else (none)) else (if x5.length < 17592186044416 then (spec_PartnerRun.l1 k x1 (x5 ++ [bt175.2.2.2.2.1]) (wrap64 (x8 + 1)) x174000 x174001 x174002 x174003) else (none)))) else (none)) else (some x5)
end
def spec_PartnerRun.f (k : Nat) (a0 : ByteArray) (l1 : List Int) : Option (List Int) := (some (([] : List Int) : List Int)).bind fun y161 => (if (a0.size : Int) > 20000 then (spec_PartnerRun.j0 k a0 l1 y161 true) else (if (l1.length : Int) > 400 then (spec_PartnerRun.j0 k a0 l1 y161 true) else ((spec_l01Name.f k a0).bind fun t164 => (spec_PartnerRun.j0 k a0 l1 y161 (!t164)))))
theorem spec_PartnerRun.mono_l : ∀ k, (∀ y0 y1 y2 y3, LeO (spec_PartnerRun.j0 k y0 y1 y2 y3) (spec_PartnerRun.j0 (k + 1) y0 y1 y2 y3)) ∧ (∀ y0 y1 y2 y3, LeO (spec_PartnerRun.l0 k y0 y1 y2 y3) (spec_PartnerRun.l0 (k + 1) y0 y1 y2 y3)) ∧ (∀ y0 y1 y2 y3 y4 y5 y6, LeO (spec_PartnerRun.l1 k y0 y1 y2 y3 y4 y5 y6) (spec_PartnerRun.l1 (k + 1) y0 y1 y2 y3 y4 y5 y6))
  | 0 => ⟨fun _ _ _ _ r h => by simp [spec_PartnerRun.j0] at h, fun _ _ _ _ r h => by simp [spec_PartnerRun.l0] at h, fun _ _ _ _ _ _ _ r h => by simp [spec_PartnerRun.l1] at h⟩
  | k + 1 => by
    obtain ⟨ih0, ih1, ih2⟩ := spec_PartnerRun.mono_l k
    refine ⟨?_, ?_, ?_⟩
    · intro y0 y1 y2 y3
      unfold spec_PartnerRun.j0
      repeat' first
      | (with_reducible exact ih0 _ _ _ _)
      | (with_reducible exact ih1 _ _ _ _)
      | (with_reducible exact ih2 _ _ _ _ _ _ _)
      | (with_reducible exact spec_PartnerNew.mono _ _)
      | (with_reducible exact spec_PartnerTake.mono _ _ _ _ _ _ _)
      | (with_reducible exact spec_l01Name.mono _ _)
      | (with_reducible exact LeO.refl _)
      | (with_reducible exact LeO.none _)
      | (with_reducible refine LeO.ite ?_ ?_)
      | (with_reducible refine LeO.bind ?_ (fun _ => ?_))
      | exact ih0 _ _ _ _
      | exact ih1 _ _ _ _
      | exact ih2 _ _ _ _ _ _ _
      | exact spec_PartnerNew.mono _ _
      | exact spec_PartnerTake.mono _ _ _ _ _ _ _
      | exact spec_l01Name.mono _ _
      | exact LeO.none _
      | refine LeO.ite ?_ ?_
      | refine LeO.bind ?_ (fun _ => ?_)
    · intro y0 y1 y2 y3
      unfold spec_PartnerRun.l0
      repeat' first
      | (with_reducible exact ih0 _ _ _ _)
      | (with_reducible exact ih1 _ _ _ _)
      | (with_reducible exact ih2 _ _ _ _ _ _ _)
      | (with_reducible exact spec_PartnerNew.mono _ _)
      | (with_reducible exact spec_PartnerTake.mono _ _ _ _ _ _ _)
      | (with_reducible exact spec_l01Name.mono _ _)
      | (with_reducible exact LeO.refl _)
      | (with_reducible exact LeO.none _)
      | (with_reducible refine LeO.ite ?_ ?_)
      | (with_reducible refine LeO.bind ?_ (fun _ => ?_))
      | exact ih0 _ _ _ _
      | exact ih1 _ _ _ _
      | exact ih2 _ _ _ _ _ _ _
      | exact spec_PartnerNew.mono _ _
      | exact spec_PartnerTake.mono _ _ _ _ _ _ _
      | exact spec_l01Name.mono _ _
      | exact LeO.none _
      | refine LeO.ite ?_ ?_
      | refine LeO.bind ?_ (fun _ => ?_)
    · intro y0 y1 y2 y3 y4 y5 y6
      unfold spec_PartnerRun.l1
      repeat' first
      | (with_reducible exact ih0 _ _ _ _)
      | (with_reducible exact ih1 _ _ _ _)
      | (with_reducible exact ih2 _ _ _ _ _ _ _)
      | (with_reducible exact spec_PartnerNew.mono _ _)
      | (with_reducible exact spec_PartnerTake.mono _ _ _ _ _ _ _)
      | (with_reducible exact spec_l01Name.mono _ _)
      | (with_reducible exact LeO.refl _)
      | (with_reducible exact LeO.none _)
      | (with_reducible refine LeO.ite ?_ ?_)
      | (with_reducible refine LeO.bind ?_ (fun _ => ?_))
      | exact ih0 _ _ _ _
      | exact ih1 _ _ _ _
      | exact ih2 _ _ _ _ _ _ _
      | exact spec_PartnerNew.mono _ _
      | exact spec_PartnerTake.mono _ _ _ _ _ _ _
      | exact spec_l01Name.mono _ _
      | exact LeO.none _
      | refine LeO.ite ?_ ?_
      | refine LeO.bind ?_ (fun _ => ?_)
theorem spec_PartnerRun.mono : ∀ a0 a1 k, LeO (spec_PartnerRun.f k a0 a1) (spec_PartnerRun.f (k + 1) a0 a1) := by
  intro a0 a1 k
  obtain ⟨ih0, ih1, ih2⟩ := spec_PartnerRun.mono_l k
  unfold spec_PartnerRun.f
  repeat' first
      | (with_reducible exact ih0 _ _ _ _)
      | (with_reducible exact ih1 _ _ _ _)
      | (with_reducible exact ih2 _ _ _ _ _ _ _)
      | (with_reducible exact spec_PartnerNew.mono _ _)
      | (with_reducible exact spec_PartnerTake.mono _ _ _ _ _ _ _)
      | (with_reducible exact spec_l01Name.mono _ _)
      | (with_reducible exact LeO.refl _)
      | (with_reducible exact LeO.none _)
      | (with_reducible refine LeO.ite ?_ ?_)
      | (with_reducible refine LeO.bind ?_ (fun _ => ?_))
      | exact ih0 _ _ _ _
      | exact ih1 _ _ _ _
      | exact ih2 _ _ _ _ _ _ _
      | exact spec_PartnerNew.mono _ _
      | exact spec_PartnerTake.mono _ _ _ _ _ _ _
      | exact spec_l01Name.mono _ _
      | exact LeO.none _
      | refine LeO.ite ?_ ?_
      | refine LeO.bind ?_ (fun _ => ?_)
def spec_PartnerRun.T13 : Bool × List (List Nat × List Nat) := (true, [([], []), ([], []), ([], []), ([1, 2], [1, 2]), ([3], [3]), ([0, 4], [0, 4]), ([], []), ([6, 5, 5, 0, 1, 2, 3, 4, 5, 6], [5, 6])])
def spec_PartnerRun.B13 : List Nat := [0, 0, 0, 6, 14, 31, 0, 127]
theorem spec_PartnerRun.tab13 : rtab .any (opsOf Try.f38 13) = spec_PartnerRun.T13 := by kernel_rfl
theorem spec_PartnerRun.bits13 : waitsOk spec_PartnerRun.T13.2 spec_PartnerRun.B13 = true := by kernel_rfl
set_option maxHeartbeats 8000000 in
set_option maxRecDepth 100000 in
theorem spec_PartnerRun.calls (k : Nat) (a0 : ByteArray) (A1 : Option Addr) (c1 : Nat) (l1 : List Int) (r : List Int) (w : World) (hr1 : Kd.C (Kd.int .i64) w A1 l1.length l1) (hc1 : l1.length ≤ c1) (h : spec_PartnerRun.f k a0 l1 = some r) :
    Calls Try.prog 38 #[.string a0, .slice A1 l1.length c1] w fun e w' => ∃ v0_ : Value, e = .returned (v0_) ∧ Kd.R (Kd.int .i64) 2 w' w.heap.size (fun _ => True) v0_ r ∧ Below w.heap.size w w' := by
  have hu51 := Try.underlying51
  have hu64 := Try.underlying64
  have HR1 := Aside0.mk hr1
  have HC1 := Aside0.mk hc1
  clear hr1 hc1
  have HB := Aside0.mk (Below.refl w.heap.size w)
  have H : ((some (([] : List Int) : List Int)).bind fun y161 => (if (a0.size : Int) > 20000 then (spec_PartnerRun.j0 k a0 l1 y161 true) else (if (l1.length : Int) > 400 then (spec_PartnerRun.j0 k a0 l1 y161 true) else ((spec_l01Name.f k a0).bind fun t164 => (spec_PartnerRun.j0 k a0 l1 y161 (!t164)))))) = some r := h
  clear h
  obtain ⟨y161, hy161⟩ : ∃ y_ : List Int, y_ = (([] : List Int)) := ⟨_, rfl⟩
  replace H : (if (a0.size : Int) > 20000 then (spec_PartnerRun.j0 k a0 l1 y161 true) else (if (l1.length : Int) > 400 then (spec_PartnerRun.j0 k a0 l1 y161 true) else ((spec_l01Name.f k a0).bind fun t164 => (spec_PartnerRun.j0 k a0 l1 y161 (!t164))))) = some r := by first | (rw [hy161]; with_reducible exact H) | (have H2_ := (Option.bind_some _ _).symm.trans H; rw [hy161]; with_reducible exact H2_) | (have H2_ := (Option.bind_some _ _).symm.trans H; with_reducible exact H2_) | with_reducible exact H | (rw [hy161]; exact H) | exact H
  have Ny161 := Aside0.mk hy161
  clear hy161
  have HC3 := Aside0.mk H
  clear H
  go_enter Try.func38, Try.ntmps38
  go_upto_region 2 with (first | ((with_reducible refine gate_dst (N := 10) rfl ?_); (try (refine gate_guard (by rfl) ?_; dsimp only)); refine Kd.R_lit (Kd.int .i64) _ 2 ?hg (N := 10) ?hd (xs := ([] : List Int)) (inner := []) (ok := fun _ => True) (okp := fun _ => True) ?hr ?hp (fun _ hk => hk) trivial (Below.refl _ _) (Nat.le_refl _) (by simp) ?_; (case hd => rfl); (case hg => rfl); (case hr => exact hr_); (case hp => exact (Reps.none _ _)); intro v162 w4 ho5 hb hg_ hnew_; clear hg_ hnew_; (first | rw [← Ny161.out] at ho5 | (simp only [Int.reduceToNat] at ho5; rw [← Ny161.out] at ho5)); have n0_ := Aside0.mk (Kd.R_lower ho5 (below_size bl_)); have n1_ := Aside0.mk (below_step bl_ hb); clear HB; have HO163 := n0_; have HB := n1_; clear n0_ n1_; clear hb ho5))
  (try simp only [Act.put, List.setIfInBounds_toArray, List.set_cons_zero, List.set_cons_succ])
  go_cut [23] (fun v23 wc => ∃ (kq : Nat) (x23_2 : Bool), v23 = .bool x23_2 ∧ Aside0 (spec_PartnerRun.j0 kq a0 l1 y161 x23_2 = some r) ∧ Aside0 (kq ≤ k) ∧ Aside0 (Kd.R (Kd.int .i64) 2 wc w.heap.size (fun _ => True) v162 y161) ∧ Aside0 (Below w.heap.size w wc))
  case first =>
    have H := HC3.out
    clear HC3
    by_cases c6 : (a0.size : Int) > 20000
    · rw [if_pos c6] at H
      have c6b0 : decide (20000 < (a0.size : Int)) = true := decide_eq_true c6
      have c6b1 : decide (20000 < a0.size) = true := decide_eq_true (by omega)
      clear c6
      (first | rw [c6b0] | (simp only [i64_w, i32_w]; rw [c6b0]) | skip)
      have H' := Aside0.mk H
      clear H
      go_wp2
      go_meet
      case rel => exact ⟨_, (true), er_, H', ⟨by first | omega | exact Nat.le_refl _⟩, ⟨rk_ HO163⟩, ⟨bl_⟩⟩
    · rw [if_neg c6] at H
      have c6b0 : decide (20000 < (a0.size : Int)) = false := decide_eq_false c6
      have c6b1 : decide (20000 < a0.size) = false := decide_eq_false (by omega)
      clear c6
      (first | rw [c6b0] | (simp only [i64_w, i32_w]; rw [c6b0]) | skip)
      by_cases c7 : (l1.length : Int) > 400
      · rw [if_pos c7] at H
        have c7b0 : decide (400 < (l1.length : Int)) = true := decide_eq_true c7
        have c7b1 : decide (400 < l1.length) = true := decide_eq_true (by omega)
        clear c7
        have H' := Aside0.mk H
        clear H
        go_wp2
        go_meet
        case rel => exact ⟨_, (true), er_, H', ⟨by first | omega | exact Nat.le_refl _⟩, ⟨rk_ HO163⟩, ⟨bl_⟩⟩
      · rw [if_neg c7] at H
        have c7b0 : decide (400 < (l1.length : Int)) = false := decide_eq_false c7
        have c7b1 : decide (400 < l1.length) = false := decide_eq_false (by omega)
        clear c7
        replace H := Option.bind_eq_some_iff.mp H
        obtain ⟨t164, A80, H⟩ := H
        replace H : (spec_PartnerRun.j0 k a0 l1 y161 (!t164)) = some r := H
        have A8 := Aside0.mk A80
        clear A80
        have H' := Aside0.mk H
        clear H
        go_wp2_with (first | (go_at_call 54; (with_reducible refine (spec_l01Name.calls k a0 t164 _ A8.out).mono ?_); rintro e w' ⟨rfl, ⟨nd, rfl⟩⟩))
        go_meet
        case rel => exact ⟨_, (!t164), er_, H', ⟨by first | omega | exact Nat.le_refl _⟩, ⟨rk_ HO163⟩, ⟨bl_⟩⟩
  case rest =>
    clear HC3
    try clear c1
    try clear p2
    try clear c3
    try clear c6
    try clear c6b0
    try clear c6b1
    try clear c7
    try clear c7b0
    try clear c7b1
    obtain ⟨kq, x23_2, rfl, HA, HJ2, HO_5, HB⟩ := hcut
    cases kq with
    | zero => exact absurd HA.out (by simp [spec_PartnerRun.j0])
    | succ kj2 =>
      have H := HA.out
      clear HA
      simp only [spec_PartnerRun.j0] at H
      by_cases c9 : x23_2 = true
      · subst c9
        have H1 : (some y161) = some r := by rw [if_pos rfl] at H; exact H
        clear H
        have H := H1
        clear H1
        obtain rfl := Option.some.inj H
        go_wp2
        go_ret
        exact ⟨_, au6_7, rk_ HO_5, bl_⟩
      · replace c9 := Bool.eq_false_iff.mpr c9
        subst c9
        have H1 : (spec_PartnerRun.l0 kj2 a0 l1 y161 0) = some r := by rw [if_neg (show ¬ (false = true) by decide)] at H; exact H
        clear H
        have H := H1
        clear H1
        have H' := Aside0.mk H
        clear H
        go_wp2
        go_loopg [6] kj2 (fun kq v6 w' => ∃ (x6_2 : Int), v6 = .int .i64 x6_2 ∧ Aside0 (spec_PartnerRun.l0 kq a0 l1 y161 x6_2 = some r) ∧ Aside0 (kq ≤ kj2) ∧ Aside0 (Kd.R (Kd.int .i64) 2 w' w.heap.size (fun _ => True) v162 y161) ∧ Aside0 (Below w.heap.size w w'))
        case atStart => exact ⟨(0), er_, H', ⟨Nat.le_refl _⟩, ⟨rk_ HO_5⟩, ⟨bl_⟩⟩
        case round =>
          clear H'
          try clear c1
          try clear p2
          try clear c3
          try clear c6
          try clear c6b0
          try clear c6b1
          try clear c7
          try clear c7b0
          try clear c7b1
          try clear c9
          try clear p2
          obtain ⟨x6_2, rfl, HA, HK2, HO_5, HB⟩ := hrel
          cases gk with
          | zero => exact absurd HA.out (by simp [spec_PartnerRun.l0])
          | succ k2 =>
            have H := HA.out
            clear HA
            simp only [spec_PartnerRun.l0] at H
            by_cases c10 : x6_2 < (l1.length : Int)
            · rw [if_pos c10] at H
              have c10b0 : decide (x6_2 < (l1.length : Int)) = true := decide_eq_true c10
              clear c10
              by_cases c11 : 0 ≤ x6_2
              · rw [if_pos c11] at H
                have c11b0 : decide (0 ≤ x6_2) = true := decide_eq_true c11
                clear c11
                replace H := Option.bind_eq_some_iff.mp H
                obtain ⟨t166, A120, H⟩ := H
                replace H : (if t166 = true then (spec_PartnerRun.l0 k2 a0 l1 y161 (wrap64 (x6_2 + 1))) else (some y161)) = some r := H
                have A12 := Aside0.mk A120
                clear A120
                by_cases c13 : t166 = true
                · subst c13
                  have H1 : (spec_PartnerRun.l0 k2 a0 l1 y161 (wrap64 (x6_2 + 1))) = some r := by rw [if_pos rfl] at H; exact H
                  clear H
                  have H := H1
                  clear H1
                  have H' := Aside0.mk H
                  clear H
                  have p165 : 0 ≤ (x6_2 : Int) := of_decide_eq_true as_
                  have q165 : x6_2 < (l1.length : Int) := of_decide_eq_true as_
                  obtain ⟨ad165, e165, hx165_0⟩ := Kd.at_int HR1.out x6_2 p165 q165
                  cases e165
                  replace hx165_0 := (HB.out.cell (World.block_lt_of_cell? _ _ hx165_0)).trans hx165_0
                  replace p165 := eq_true p165
                  replace q165 := eq_true q165
                  go_wp2_with (first | ((with_reducible refine gate_callee (f := 78) rfl ?_); refine gl_ 35 Try.func78 #[.int .i64 (rd l1 x6_2)] ?_ rfl rfl rfl rfl; (with_reducible refine (spec_l01Control.calls (rd l1 x6_2) true _ A12.out).mono ?_); rintro e w' ⟨rfl, ⟨nd, rfl⟩⟩; refine ⟨_, rfl, ?_⟩))
                  go_roundg k2
                  case measure => have := HJ2.out; have := HK2.out; omega
                  case rel => exact ⟨(wrap64 (x6_2 + 1)), er_, H', ⟨by have := HJ2.out; have := HK2.out; omega⟩, ⟨rk_ HO_5⟩, ⟨bl_⟩⟩
                · replace c13 := Bool.eq_false_iff.mpr c13
                  subst c13
                  have H1 : (some y161) = some r := by rw [if_neg (show ¬ (false = true) by decide)] at H; exact H
                  clear H
                  have H := H1
                  clear H1
                  obtain rfl := Option.some.inj H
                  have p165 : 0 ≤ (x6_2 : Int) := of_decide_eq_true as_
                  have q165 : x6_2 < (l1.length : Int) := of_decide_eq_true as_
                  obtain ⟨ad165, e165, hx165_0⟩ := Kd.at_int HR1.out x6_2 p165 q165
                  cases e165
                  replace hx165_0 := (HB.out.cell (World.block_lt_of_cell? _ _ hx165_0)).trans hx165_0
                  replace p165 := eq_true p165
                  replace q165 := eq_true q165
                  go_wp2_with (first | ((with_reducible refine gate_callee (f := 78) rfl ?_); refine gl_ 35 Try.func78 #[.int .i64 (rd l1 x6_2)] ?_ rfl rfl rfl rfl; (with_reducible refine (spec_l01Control.calls (rd l1 x6_2) false _ A12.out).mono ?_); rintro e w' ⟨rfl, ⟨nd, rfl⟩⟩; refine ⟨_, rfl, ?_⟩))
                  go_ret
                  exact ⟨_, au6_7, rk_ HO_5, bl_⟩
              · rw [if_neg c11] at H
                exact absurd H (by simp)
            · rw [if_neg c10] at H
              have c10b0 : decide (x6_2 < (l1.length : Int)) = false := decide_eq_false c10
              clear c10
              replace H := Option.bind_eq_some_iff.mp H
              obtain ⟨⟨t167, t168, t169, t170⟩, A140, H⟩ := H
              replace H : (spec_PartnerRun.l1 k2 l1 y161 0 t167 t168 t169 t170) = some r := H
              have A14 := Aside0.mk A140
              clear A140
              have H' := Aside0.mk H
              clear H
              go_wp2_with (first | ((with_reducible refine gate_callee (f := 84) rfl ?_); refine gl_ 39 Try.func84 #[.string a0] ?_ rfl rfl rfl rfl; (with_reducible refine (spec_PartnerNew.calls k2 a0 t167 t168 t169 t170 _ A14.out).mono ?_); rintro e w15 ⟨v171, rfl, ho0, hb⟩; refine ⟨_, rfl, ?_⟩; have n0_ := Aside0.mk (Kd.R_below (rk_ HO_5) hb); have n1_ := Aside0.mk (Kd.R_lower ho0 (below_size bl_)); have n2_ := Aside0.mk (below_step bl_ hb); clear HO_5; clear HB; have HO_5 := n0_; have HO172 := n1_; have HB := n2_; clear n0_ n1_ n2_; (try clear hb); (try clear hb2); (try clear hk); (try clear hi); (try clear ho0)) | ((with_reducible refine gate_dst (N := 7) rfl ?_); (try (refine gate_guard (by rfl) ?_; dsimp only)); refine box_event ?hg (N := 7) ?hd (cs := #[.string (⟨#[]⟩ : ByteArray), .int .i64 0, .int .i64 0, .slice none 0 0]) (t := 51) ?hr ?_; (case hd => rfl); (case hg => rfl); (case hr => exact hr_); intro gb173 hg w16 hbox hb; have n0_ := Aside0.mk (Kd.R_below (rk_ HO_5) hb); have n1_ := Aside0.mk (Kd.R_below (rk_ HO172) hb); have n2_ := Aside0.mk (below_step bl_ hb); have n3_ := Aside0.mk (hbox); have n4_ := Aside0.mk (gw_ hg bl_); have n5_ := Aside0.mk (gw_ hg bl_); clear HO_5; clear HO172; clear HB; have HO_5 := n0_; have HO172 := n1_; have HB := n2_; have BK173 := n3_; have GW173 := n4_; have GE173 := n5_; clear n0_ n1_ n2_ n3_ n4_ n5_; clear hb hbox hg; obtain ⟨hcz17_0, hcz17_1, hcz17_2, hcz17_3, hfz17_0, hfz17_1, hfz17_2, hfz17_3⟩ := cellsF4 BK173.out; obtain ⟨Ao18, co18, eo18⟩ := Kd.R_slice HO172.out; subst eo18))
              go_loopg [5, 8] k2 (fun kq v5 v8 w' => ∃ (x5_3 : List Int) (x8_3 : Int) (x174000_3 : ByteArray) (x174001_3 : Int) (x174002_3 : Int) (x174003_3 : List (S62)) (u174003 : Value), v8 = .int .i64 x8_3 ∧ Aside0 (spec_PartnerRun.l1 kq l1 x5_3 x8_3 x174000_3 x174001_3 x174002_3 x174003_3 = some r) ∧ Aside0 (kq ≤ k2) ∧ Aside0 (Kd.R (Kd.int .i64) 2 w' w.heap.size (fun _ => True) v5 x5_3) ∧ Aside0 (Kd.R k62 62 w' w.heap.size (fun _ => True) u174003 x174003_3) ∧ Aside0 (w'.heap[gb173]? = some (.cells #[.string x174000_3, .int .i64 x174001_3, .int .i64 x174002_3, u174003] 51 (0, 0))) ∧ Aside0 (Below w.heap.size w w'))
              case atStart => exact ⟨(y161), (0), (t167), (t168), (t169), (t170), (.slice Ao18 t170.length co18), er_, H', ⟨Nat.le_refl _⟩, ⟨by (with_reducible repeat (first | apply Kd.R_alloc | apply Kd.R_drewN | apply Kd.R_drew)); exact Kd.R_mono (Kd.R_far (p := ⟨gb173, 3, none⟩) (Kd.R_far (p := ⟨gb173, 2, none⟩) (Kd.R_far (p := ⟨gb173, 1, none⟩) (Kd.R_far (p := ⟨gb173, 0, none⟩) (Kd.R_types HO_5.out BK173.out (by decide)) (fun _ hk => hk.2) (.string t167)) (fun _ hk => hk.2) (.int .i64 t168)) (fun _ hk => hk.2) (.int .i64 t169)) (fun _ hk => hk.2) (.slice Ao18 t170.length co18)) (fun _ hk => trivial)⟩, ⟨by (with_reducible repeat (first | apply Kd.R_alloc | apply Kd.R_drewN | apply Kd.R_drew)); exact Kd.R_mono (Kd.R_far (p := ⟨gb173, 3, none⟩) (Kd.R_far (p := ⟨gb173, 2, none⟩) (Kd.R_far (p := ⟨gb173, 1, none⟩) (Kd.R_far (p := ⟨gb173, 0, none⟩) (Kd.R_types HO172.out BK173.out (by decide)) (fun _ hk => hk.2) (.string t167)) (fun _ hk => hk.2) (.int .i64 t168)) (fun _ hk => hk.2) (.int .i64 t169)) (fun _ hk => hk.2) (.slice Ao18 t170.length co18)) (fun _ hk => trivial)⟩, ⟨by (with_reducible repeat (first | refine blk_drewN ?_ _ | refine blk_drew ?_ | refine blk_alloc ?_ _)); refine blk_put (cs := #[.string t167, .int .i64 t168, .int .i64 t169, .slice none 0 0]) ?_ 3 _ rfl; (with_reducible repeat (first | refine blk_drewN ?_ _ | refine blk_drew ?_ | refine blk_alloc ?_ _)); refine blk_put (cs := #[.string t167, .int .i64 t168, .int .i64 0, .slice none 0 0]) ?_ 2 _ rfl; (with_reducible repeat (first | refine blk_drewN ?_ _ | refine blk_drew ?_ | refine blk_alloc ?_ _)); refine blk_put (cs := #[.string t167, .int .i64 0, .int .i64 0, .slice none 0 0]) ?_ 1 _ rfl; (with_reducible repeat (first | refine blk_drewN ?_ _ | refine blk_drew ?_ | refine blk_alloc ?_ _)); refine blk_put (cs := #[.string (⟨#[]⟩ : ByteArray), .int .i64 0, .int .i64 0, .slice none 0 0]) ?_ 0 _ rfl; (with_reducible repeat (first | refine blk_drewN ?_ _ | refine blk_drew ?_ | refine blk_alloc ?_ _)); exact BK173.out⟩, ⟨bl_⟩⟩
              case round =>
                clear H'
                try clear c1
                try clear p1
                try clear q1
                try clear hx1
                try clear p2
                try clear c3
                try clear c6
                try clear c6b0
                try clear c6b1
                try clear p6
                try clear c7
                try clear c7b0
                try clear c7b1
                try clear c8
                try clear c9
                try clear c10
                try clear c10b0
                try clear c11
                try clear c11b0
                try clear c13
                try clear p16
                try clear q16
                try clear hx16
                try clear hcz17_0
                try clear hcz17_1
                try clear hcz17_2
                try clear hcz17_3
                try clear hfz17_0
                try clear hfz17_1
                try clear hfz17_2
                try clear hfz17_3
                try clear hx165_0
                try clear p165
                try clear p2
                try clear q165
                obtain ⟨x5_3, x8_3, x174000_3, x174001_3, x174002_3, x174003_3, u174003, rfl, HA, HK3, HO_5, HO_174003, BK173, HB⟩ := hrel
                cases gk with
                | zero => exact absurd HA.out (by simp [spec_PartnerRun.l1])
                | succ k3 =>
                  have H := HA.out
                  clear HA
                  simp only [spec_PartnerRun.l1] at H
                  by_cases c19 : x8_3 < (l1.length : Int)
                  · rw [if_pos c19] at H
                    have c19b0 : decide (x8_3 < (l1.length : Int)) = true := decide_eq_true c19
                    clear c19
                    by_cases c20 : 0 ≤ x8_3
                    · rw [if_pos c20] at H
                      have c20b0 : decide (0 ≤ x8_3) = true := decide_eq_true c20
                      clear c20
                      replace H := Option.bind_eq_some_iff.mp H
                      obtain ⟨⟨t175, t176, t177, t178, t181, t182, t183, t184, t185⟩, A210, H⟩ := H
                      replace H : (if t185 = 0 then (if x5_3.length < 17592186044416 then (spec_PartnerRun.l1 k3 l1 (x5_3 ++ [t181]) (wrap64 (x8_3 + 1)) t175 t176 t177 t178) else (none)) else (if x5_3.length < 17592186044416 then (spec_PartnerRun.l1 k3 l1 (x5_3 ++ [t181]) (wrap64 (x8_3 + 1)) x174000_3 x174001_3 x174002_3 x174003_3) else (none))) = some r := H
                      have A21 := Aside0.mk A210
                      clear A210
                      by_cases c22 : t185 = 0
                      · rw [if_pos c22] at H
                        have c22b0 : (t185 == 0) = true := beq_iff_eq.mpr c22
                        have c22b1 : (t185 != 0) = false := bne_eq_false_iff_eq.mpr c22
                        clear c22
                        by_cases c23 : x5_3.length < 17592186044416
                        · rw [if_pos c23] at H
                          have LMc23 := Aside0.mk c23
                          clear c23
                          obtain ⟨y187, hy187⟩ : ∃ y_ : List Int, y_ = (x5_3 ++ [t181]) := ⟨_, rfl⟩
                          replace H : (spec_PartnerRun.l1 k3 l1 y187 (wrap64 (x8_3 + 1)) t175 t176 t177 t178) = some r := by first | (rw [hy187]; with_reducible exact H) | (have H2_ := (Option.bind_some _ _).symm.trans H; rw [hy187]; with_reducible exact H2_) | (have H2_ := (Option.bind_some _ _).symm.trans H; with_reducible exact H2_) | with_reducible exact H | (rw [hy187]; exact H) | exact H
                          have Ny187 := Aside0.mk hy187
                          clear hy187
                          have H' := Aside0.mk H
                          clear H
                          obtain ⟨Ao24, co24, eo24⟩ := Kd.R_slice HO_174003.out
                          subst eo24
                          try go_wp2
                          have n0_ := Aside0.mk (Kd.R_drew HO_5.out)
                          have n1_ := Aside0.mk (Kd.R_drew HO_174003.out)
                          have n2_ := Aside0.mk (blk_drew BK173.out)
                          have n3_ := Aside0.mk (below_drew1 HB.out)
                          clear HO_5
                          clear HO_174003
                          clear BK173
                          clear HB
                          have HO_5 := n0_
                          have HO_174003 := n1_
                          have BK173 := n2_
                          have HB := n3_
                          clear n0_ n1_ n2_ n3_
                          have p174 : 0 ≤ (x8_3 : Int) := of_decide_eq_true as_
                          have q174 : x8_3 < (l1.length : Int) := of_decide_eq_true as_
                          obtain ⟨ad174, e174, hx174_0⟩ := Kd.at_int HR1.out x8_3 p174 q174
                          have hw174_0 := hx174_0
                          cases e174
                          replace hx174_0 := (HB.out.cell (World.block_lt_of_cell? _ _ hx174_0)).trans hx174_0
                          replace p174 := eq_true p174
                          replace q174 := eq_true q174
                          refine start_ (n := 8) (S := fun w' => w'.cell? ⟨gb173, 0, none⟩ = some (.string x174000_3) ∧ w'.cell? ⟨gb173, 1, none⟩ = some (.int .i64 x174001_3) ∧ w'.cell? ⟨gb173, 2, none⟩ = some (.int .i64 x174002_3) ∧ w'.cell? ⟨gb173, 3, none⟩ = some (.slice Ao24 x174003_3.length co24) ∧ w'.cell? (ad174.add (x8_3).toNat) = some (.int .i64 (rd l1 x8_3))) (ds := []) (bs 8 0) (by kernel_rfl) rfl rfl ⟨(blk_cell BK173.out 0).trans rfl, (blk_cell BK173.out 1).trans rfl, (blk_cell BK173.out 2).trans rfl, (blk_cell BK173.out 3).trans rfl, ((HB.out.cell (World.block_lt_of_cell? _ _ hw174_0)).trans hw174_0)⟩ (fun hHeld => ?_); refine with_tabW spec_PartnerRun.tab13 spec_PartnerRun.bits13 (fun HT_ HW_ => ?_)
                          generalize wr.drew = w25 at HO_5 HO_174003 BK173 HB hx174_0 hHeld ⊢
                          refine pu_ 1 47 (bs 8 2) HT_ ?_ rfl rfl
                          refine pu_ 2 48 (bs 8 6) HT_ ?_ rfl rfl
                          refine pu_ 3 49 (bs 8 14) HT_ ?_ rfl rfl
                          refine tk_ 0 46 (bs 8 15) HT_ HW_ hHeld au6_8 ?_ rfl rfl
                          refine tk_ 4 50 (bs 8 31) HT_ HW_ hHeld au6_8 ?_ rfl rfl
                          refine join_ (σ := Value × Nat) 1 (bs 8 127) (fun s_ => [(51, .agg #[.string t175, .int .i64 t176, .int .i64 t177, s_.1, .int .i64 t181, .int .i64 t182, .int .i64 t183, .int .i64 t184, .int .i64 t185]), (9, .pointer (some ⟨s_.2, 0, none⟩))]) (fun s_ w' => (w'.cell? ⟨gb173, 0, none⟩ = some (.string x174000_3) ∧ w'.cell? ⟨gb173, 1, none⟩ = some (.int .i64 x174001_3) ∧ w'.cell? ⟨gb173, 2, none⟩ = some (.int .i64 x174002_3) ∧ w'.cell? ⟨gb173, 3, none⟩ = some (.slice Ao24 x174003_3.length co24) ∧ w'.cell? (ad174.add (x8_3).toNat) = some (.int .i64 (rd l1 x8_3))) ∧ (Kd.R k62 62 w' w.heap.size (fun k_ => some k_ ≠ (.slice Ao24 x174003_3.length co24 : Value).ownBlock) s_.1 t178) ∧ (Kd.R k62 62 w' w.heap.size (fun k_ => some k_ ≠ (s_.1 : Value).ownBlock) (.slice Ao24 x174003_3.length co24) x174003_3) ∧ (Kd.R (Kd.int .i64) 2 w' w.heap.size (fun _ => True) u5 x5_3) ∧ (w'.heap[gb173]? = some (.cells #[.string x174000_3, .int .i64 x174001_3, .int .i64 x174002_3, .slice Ao24 x174003_3.length co24] 51 (0, 0))) ∧ (w'.heap[s_.2]? = some (.cells #[.string (⟨#[]⟩ : ByteArray), .int .i64 0, .int .i64 0, .slice none 0 0, .int .i64 0, .int .i64 0, .int .i64 0, .int .i64 0, .int .i64 0] 64 (0, 0))) ∧ (w.heap.size ≤ s_.2) ∧ (w.heap.size ≤ s_.2) ∧ (gb173 ≠ s_.2) ∧ (s_.2 ≠ gb173) ∧ (Below w.heap.size w w')) ?_ ?_
                          rotate_left
                          · intro hCont
                            refine two_ (i := 5) (j := 6) (Ni := some 51) (Nj := some 9) (bs 8 63) (bs 8 95) rfl rfl rfl rfl (two_of HT_.out (by kernel_rfl)) (by decide) (by decide) (fun K hK => ?_) (fun K hK => ?_)
                            · skip
                              refine gr_ Try.func44 #[.agg #[.string x174000_3, .int .i64 x174001_3, .int .i64 x174002_3, .slice Ao24 x174003_3.length co24], .int .i64 (rd l1 x8_3), .int .i64 0] (by rfl) ?_ rfl rfl rfl
                              with_reducible refine (spec_PartnerTake.calls k3 x174000_3 x174001_3 x174002_3 _ _ x174003_3 (rd l1 x8_3) 0 t175 t176 t177 t178 t181 t182 t183 t184 t185 _ ?side1 ?side2 A21.out).mono ?_
                              (case side1 => exact au6_3)
                              (case side2 => exact au6_9)
                              rintro e w26 ⟨v179, rfl, ho0, hb⟩
                              refine ⟨_, rfl, ?_⟩
                              have n0_ := Aside0.mk (Kd.R_below (rk_ HO_5) hb)
                              have n1_ := Aside0.mk (Kd.R_elder' (rk_ HO_174003) (Kd.R_base ho0) hb)
                              have n2_ := Aside0.mk (Kd.R_lower (Kd.R_new' ho0 (Kd.R_lt (rk_ HO_174003))) (below_size bl_))
                              have n3_ := Aside0.mk (blkb_ BK173 hb)
                              have n4_ := Aside0.mk (below_step bl_ hb)
                              clear HO_5
                              clear HO_174003
                              clear BK173
                              clear HB
                              have HO_5 := n0_
                              have HO_174003 := n1_
                              have HO180 := n2_
                              have BK173 := n3_
                              have HB := n4_
                              clear n0_ n1_ n2_ n3_ n4_
                              (try clear hb)
                              (try clear hb2)
                              (try clear hk)
                              (try clear hi)
                              (try clear ho0)
                              refine hK.out _ _ ⟨(blk_cell BK173.out 0).trans rfl, (blk_cell BK173.out 1).trans rfl, (blk_cell BK173.out 2).trans rfl, (blk_cell BK173.out 3).trans rfl, ((HB.out.cell (World.block_lt_of_cell? _ _ hw174_0)).trans hw174_0)⟩ (fun hHeld => ?_)
                              clear hK K
                              refine norm_ (a' := ?_) ?_ ?_
                              rotate_left
                              · show Act.put _ (some 51) _ = _
                                simp only [Act.put, List.setIfInBounds_toArray, List.set_cons_zero, List.set_cons_succ, i64_w, i32_w]
                                rfl
                              refine one_ (i := 6) (N := some 9) (bs 8 127) rfl rfl (one_of HT_.out (by kernel_rfl)) (by decide) (fun K hK => ?_)
                              refine box_step ?hg (N := 9) ?hd (cs := #[.string (⟨#[]⟩ : ByteArray), .int .i64 0, .int .i64 0, .slice none 0 0, .int .i64 0, .int .i64 0, .int .i64 0, .int .i64 0, .int .i64 0]) (t := 64) ?hr ?_; (case hd => rfl); (case hg => rfl); (case hr => exact hr_)
                              intro gb186 hg w27 hbox hb
                              have n0_ := Aside0.mk (Kd.R_below (rk_ HO_5) hb)
                              have n1_ := Aside0.mk (Kd.R_below (rk_ HO_174003) hb)
                              have n2_ := Aside0.mk (Kd.R_below (rk_ HO180) hb)
                              have n3_ := Aside0.mk (blkb_ BK173 hb)
                              have n4_ := Aside0.mk (below_step bl_ hb)
                              have n5_ := Aside0.mk (hbox)
                              have n6_ := Aside0.mk (gw_ hg bl_)
                              have n7_ := Aside0.mk (gw_ hg bl_)
                              have n8_ := Aside0.mk (gn_ hg (blkl_ BK173))
                              have n9_ := Aside0.mk (gm_ hg (blkl_ BK173))
                              clear HO_5
                              clear HO_174003
                              clear HO180
                              clear BK173
                              clear HB
                              have HO_5 := n0_
                              have HO_174003 := n1_
                              have HO180 := n2_
                              have BK173 := n3_
                              have HB := n4_
                              have BK186 := n5_
                              have GW186 := n6_
                              have GE186 := n7_
                              have NB173_186 := n8_
                              have NB186_173 := n9_
                              clear n0_ n1_ n2_ n3_ n4_ n5_ n6_ n7_ n8_ n9_
                              clear hb hbox hg
                              refine hK.out _ _ ⟨(blk_cell BK173.out 0).trans rfl, (blk_cell BK173.out 1).trans rfl, (blk_cell BK173.out 2).trans rfl, (blk_cell BK173.out 3).trans rfl, ((HB.out.cell (World.block_lt_of_cell? _ _ hw174_0)).trans hw174_0)⟩ (fun hHeld => ?_)
                              clear hK K
                              refine norm_ (a' := ?_) ?_ ?_
                              rotate_left
                              · show Act.put _ (some 9) _ = _
                                simp only [Act.put, List.setIfInBounds_toArray, List.set_cons_zero, List.set_cons_succ, i64_w, i32_w]
                                rfl
                              exact norm_ au6_6 (hCont (v179, gb186) _ ⟨hHeld, au6_5, au6_4, (rk_ HO_5), (bk_ BK173), (bk_ BK186), GW186.out, GE186.out, NB173_186.out, NB186_173.out, bl_⟩)
                            · skip
                              refine box_step ?hg (N := 9) ?hd (cs := #[.string (⟨#[]⟩ : ByteArray), .int .i64 0, .int .i64 0, .slice none 0 0, .int .i64 0, .int .i64 0, .int .i64 0, .int .i64 0, .int .i64 0]) (t := 64) ?hr ?_; (case hd => rfl); (case hg => rfl); (case hr => exact hr_)
                              intro gb186 hg w26 hbox hb
                              have n0_ := Aside0.mk (Kd.R_below (rk_ HO_5) hb)
                              have n1_ := Aside0.mk (Kd.R_below (rk_ HO_174003) hb)
                              have n2_ := Aside0.mk (blkb_ BK173 hb)
                              have n3_ := Aside0.mk (below_step bl_ hb)
                              have n4_ := Aside0.mk (hbox)
                              have n5_ := Aside0.mk (gw_ hg bl_)
                              have n6_ := Aside0.mk (gw_ hg bl_)
                              have n7_ := Aside0.mk (gn_ hg (blkl_ BK173))
                              have n8_ := Aside0.mk (gm_ hg (blkl_ BK173))
                              clear HO_5
                              clear HO_174003
                              clear BK173
                              clear HB
                              have HO_5 := n0_
                              have HO_174003 := n1_
                              have BK173 := n2_
                              have HB := n3_
                              have BK186 := n4_
                              have GW186 := n5_
                              have GE186 := n6_
                              have NB173_186 := n7_
                              have NB186_173 := n8_
                              clear n0_ n1_ n2_ n3_ n4_ n5_ n6_ n7_ n8_
                              clear hb hbox hg
                              refine hK.out _ _ ⟨(blk_cell BK173.out 0).trans rfl, (blk_cell BK173.out 1).trans rfl, (blk_cell BK173.out 2).trans rfl, (blk_cell BK173.out 3).trans rfl, ((HB.out.cell (World.block_lt_of_cell? _ _ hw174_0)).trans hw174_0)⟩ (fun hHeld => ?_)
                              clear hK K
                              refine norm_ (a' := ?_) ?_ ?_
                              rotate_left
                              · show Act.put _ (some 9) _ = _
                                simp only [Act.put, List.setIfInBounds_toArray, List.set_cons_zero, List.set_cons_succ, i64_w, i32_w]
                                rfl
                              refine one_ (i := 5) (N := some 51) (bs 8 127) rfl rfl (one_of HT_.out (by kernel_rfl)) (by decide) (fun K hK => ?_)
                              refine gr_ Try.func44 #[.agg #[.string x174000_3, .int .i64 x174001_3, .int .i64 x174002_3, .slice Ao24 x174003_3.length co24], .int .i64 (rd l1 x8_3), .int .i64 0] (by rfl) ?_ rfl rfl rfl
                              with_reducible refine (spec_PartnerTake.calls k3 x174000_3 x174001_3 x174002_3 _ _ x174003_3 (rd l1 x8_3) 0 t175 t176 t177 t178 t181 t182 t183 t184 t185 _ ?side1 ?side2 A21.out).mono ?_
                              (case side1 => exact au6_3)
                              (case side2 => exact au6_9)
                              rintro e w27 ⟨v179, rfl, ho0, hb⟩
                              refine ⟨_, rfl, ?_⟩
                              have n0_ := Aside0.mk (Kd.R_below (rk_ HO_5) hb)
                              have n1_ := Aside0.mk (Kd.R_elder' (rk_ HO_174003) (Kd.R_base ho0) hb)
                              have n2_ := Aside0.mk (Kd.R_lower (Kd.R_new' ho0 (Kd.R_lt (rk_ HO_174003))) (below_size bl_))
                              have n3_ := Aside0.mk (blkb_ BK173 hb)
                              have n4_ := Aside0.mk (blkb_ BK186 hb)
                              have n5_ := Aside0.mk (below_step bl_ hb)
                              clear HO_5
                              clear HO_174003
                              clear BK173
                              clear BK186
                              clear HB
                              have HO_5 := n0_
                              have HO_174003 := n1_
                              have HO180 := n2_
                              have BK173 := n3_
                              have BK186 := n4_
                              have HB := n5_
                              clear n0_ n1_ n2_ n3_ n4_ n5_
                              (try clear hb)
                              (try clear hb2)
                              (try clear hk)
                              (try clear hi)
                              (try clear ho0)
                              refine hK.out _ _ ⟨(blk_cell BK173.out 0).trans rfl, (blk_cell BK173.out 1).trans rfl, (blk_cell BK173.out 2).trans rfl, (blk_cell BK173.out 3).trans rfl, ((HB.out.cell (World.block_lt_of_cell? _ _ hw174_0)).trans hw174_0)⟩ (fun hHeld => ?_)
                              clear hK K
                              refine norm_ (a' := ?_) ?_ ?_
                              rotate_left
                              · show Act.put _ (some 51) _ = _
                                simp only [Act.put, List.setIfInBounds_toArray, List.set_cons_zero, List.set_cons_succ, i64_w, i32_w]
                                rfl
                              exact norm_ au6_6 (hCont (v179, gb186) _ ⟨hHeld, au6_5, au6_4, (rk_ HO_5), (bk_ BK173), (bk_ BK186), GW186.out, GE186.out, NB173_186.out, NB186_173.out, bl_⟩)
                          rintro ⟨v179, gb186⟩ w28 ⟨hS_, h0_, h1_, h2_, h3_, h4_, h5_, h6_, h7_, h8_, h9_⟩
                          have n0_ : Aside0 (Kd.R k62 62 w28 w.heap.size (fun k_ => some k_ ≠ (.slice Ao24 x174003_3.length co24 : Value).ownBlock) v179 t178) := ⟨h0_⟩
                          have n1_ : Aside0 (Kd.R k62 62 w28 w.heap.size (fun k_ => some k_ ≠ (v179 : Value).ownBlock) (.slice Ao24 x174003_3.length co24) x174003_3) := ⟨h1_⟩
                          have n2_ : Aside0 (Kd.R (Kd.int .i64) 2 w28 w.heap.size (fun _ => True) u5 x5_3) := ⟨h2_⟩
                          have n3_ : Aside0 (w28.heap[gb173]? = some (.cells #[.string x174000_3, .int .i64 x174001_3, .int .i64 x174002_3, .slice Ao24 x174003_3.length co24] 51 (0, 0))) := ⟨h3_⟩
                          have n4_ : Aside0 (w28.heap[gb186]? = some (.cells #[.string (⟨#[]⟩ : ByteArray), .int .i64 0, .int .i64 0, .slice none 0 0, .int .i64 0, .int .i64 0, .int .i64 0, .int .i64 0, .int .i64 0] 64 (0, 0))) := ⟨h4_⟩
                          have n5_ : Aside0 (w.heap.size ≤ gb186) := ⟨h5_⟩
                          have n6_ : Aside0 (w.heap.size ≤ gb186) := ⟨h6_⟩
                          have n7_ : Aside0 (gb173 ≠ gb186) := ⟨h7_⟩
                          have n8_ : Aside0 (gb186 ≠ gb173) := ⟨h8_⟩
                          have n9_ : Aside0 (Below w.heap.size w w28) := ⟨h9_⟩
                          clear HO_5
                          clear HO_174003
                          clear BK173
                          clear HB
                          clear h0_ h1_ h2_ h3_ h4_ h5_ h6_ h7_ h8_ h9_
                          have HO180 := n0_
                          have HO_174003 := n1_
                          have HO_5 := n2_
                          have BK173 := n3_
                          have BK186 := n4_
                          have GW186 := n5_
                          have GE186 := n6_
                          have NB173_186 := n7_
                          have NB186_173 := n8_
                          have HB := n9_
                          clear n0_ n1_ n2_ n3_ n4_ n5_ n6_ n7_ n8_ n9_
                          have hHeld : w28.cell? ⟨gb173, 0, none⟩ = some (.string x174000_3) ∧ w28.cell? ⟨gb173, 1, none⟩ = some (.int .i64 x174001_3) ∧ w28.cell? ⟨gb173, 2, none⟩ = some (.int .i64 x174002_3) ∧ w28.cell? ⟨gb173, 3, none⟩ = some (.slice Ao24 x174003_3.length co24) ∧ w28.cell? (ad174.add (x8_3).toNat) = some (.int .i64 (rd l1 x8_3)) := hS_
                          obtain ⟨Ao32, co32, eo32⟩ := Kd.R_slice HO180.out
                          (first | subst eo32 | (injection eo32 with f1_ f2_ f3_; have f4_ := f1_.symm; have f5_ := f3_.symm; clear f1_ f2_ f3_; subst f4_; subst f5_))
                          refine norm_ (a' := ?_) ?_ ?_
                          rotate_left
                          · simp only [putAll, Act.put, List.setIfInBounds_toArray, List.set_cons_zero, List.set_cons_succ]
                            rfl
                          refine one_ (i := 7) (N := none) (bs 8 255) rfl rfl (one_of HT_.out (by kernel_rfl)) (by decide) (fun K hK => ?_)
                          have hs29 : w28.cell? ⟨gb186, 0, none⟩ = some (.string (⟨#[]⟩ : ByteArray)) := (blk_cell BK186.out 0).trans rfl
                          have hfs29 := blk_frozen BK186.out 0
                          have hns29_0 := NB173_186.out
                          have hms29_0 := NB186_173.out
                          have hs30 : w28.cell? ⟨gb186, 1, none⟩ = some (.int .i64 0) := (blk_cell BK186.out 1).trans rfl
                          have hfs30 := blk_frozen BK186.out 1
                          have hns30_0 := NB173_186.out
                          have hms30_0 := NB186_173.out
                          have hs31 : w28.cell? ⟨gb186, 2, none⟩ = some (.int .i64 0) := (blk_cell BK186.out 2).trans rfl
                          have hfs31 := blk_frozen BK186.out 2
                          have hns31_0 := NB173_186.out
                          have hms31_0 := NB186_173.out
                          have hs33 : w28.cell? ⟨gb186, 3, none⟩ = some (.slice none 0 0) := (blk_cell BK186.out 3).trans rfl
                          have hfs33 := blk_frozen BK186.out 3
                          have hns33_0 := NB173_186.out
                          have hms33_0 := NB186_173.out
                          have hs34 : w28.cell? ⟨gb186, 4, none⟩ = some (.int .i64 0) := (blk_cell BK186.out 4).trans rfl
                          have hfs34 := blk_frozen BK186.out 4
                          have hns34_0 := NB173_186.out
                          have hms34_0 := NB186_173.out
                          have hs35 : w28.cell? ⟨gb186, 5, none⟩ = some (.int .i64 0) := (blk_cell BK186.out 5).trans rfl
                          have hfs35 := blk_frozen BK186.out 5
                          have hns35_0 := NB173_186.out
                          have hms35_0 := NB186_173.out
                          have hs36 : w28.cell? ⟨gb186, 6, none⟩ = some (.int .i64 0) := (blk_cell BK186.out 6).trans rfl
                          have hfs36 := blk_frozen BK186.out 6
                          have hns36_0 := NB173_186.out
                          have hms36_0 := NB186_173.out
                          have hs37 : w28.cell? ⟨gb186, 7, none⟩ = some (.int .i64 0) := (blk_cell BK186.out 7).trans rfl
                          have hfs37 := blk_frozen BK186.out 7
                          have hns37_0 := NB173_186.out
                          have hms37_0 := NB186_173.out
                          have hs38 : w28.cell? ⟨gb186, 8, none⟩ = some (.int .i64 0) := (blk_cell BK186.out 8).trans rfl
                          have hfs38 := blk_frozen BK186.out 8
                          have hns38_0 := NB173_186.out
                          have hms38_0 := NB186_173.out
                          refine skip_ (w1 := ?_) (by rfl) rfl ?_ ?_
                          rotate_left
                          · go_simp
                            rfl
                          refine hK.out _ _ ⟨((cell_far (p := ⟨gb186, _, none⟩) NB173_186.out _).trans (((cell_far (p := ⟨gb186, _, none⟩) NB173_186.out _).trans (((cell_far (p := ⟨gb186, _, none⟩) NB173_186.out _).trans (((cell_far (p := ⟨gb186, _, none⟩) NB173_186.out _).trans (((cell_far (p := ⟨gb186, _, none⟩) NB173_186.out _).trans (((cell_far (p := ⟨gb186, _, none⟩) NB173_186.out _).trans (((cell_far (p := ⟨gb186, _, none⟩) NB173_186.out _).trans (((cell_far (p := ⟨gb186, _, none⟩) NB173_186.out _).trans (((cell_far (p := ⟨gb186, _, none⟩) NB173_186.out _).trans (hHeld.1)))))))))))))))))), ((cell_far (p := ⟨gb186, _, none⟩) NB173_186.out _).trans (((cell_far (p := ⟨gb186, _, none⟩) NB173_186.out _).trans (((cell_far (p := ⟨gb186, _, none⟩) NB173_186.out _).trans (((cell_far (p := ⟨gb186, _, none⟩) NB173_186.out _).trans (((cell_far (p := ⟨gb186, _, none⟩) NB173_186.out _).trans (((cell_far (p := ⟨gb186, _, none⟩) NB173_186.out _).trans (((cell_far (p := ⟨gb186, _, none⟩) NB173_186.out _).trans (((cell_far (p := ⟨gb186, _, none⟩) NB173_186.out _).trans (((cell_far (p := ⟨gb186, _, none⟩) NB173_186.out _).trans (hHeld.2.1)))))))))))))))))), ((cell_far (p := ⟨gb186, _, none⟩) NB173_186.out _).trans (((cell_far (p := ⟨gb186, _, none⟩) NB173_186.out _).trans (((cell_far (p := ⟨gb186, _, none⟩) NB173_186.out _).trans (((cell_far (p := ⟨gb186, _, none⟩) NB173_186.out _).trans (((cell_far (p := ⟨gb186, _, none⟩) NB173_186.out _).trans (((cell_far (p := ⟨gb186, _, none⟩) NB173_186.out _).trans (((cell_far (p := ⟨gb186, _, none⟩) NB173_186.out _).trans (((cell_far (p := ⟨gb186, _, none⟩) NB173_186.out _).trans (((cell_far (p := ⟨gb186, _, none⟩) NB173_186.out _).trans (hHeld.2.2.1)))))))))))))))))), ((cell_far (p := ⟨gb186, _, none⟩) NB173_186.out _).trans (((cell_far (p := ⟨gb186, _, none⟩) NB173_186.out _).trans (((cell_far (p := ⟨gb186, _, none⟩) NB173_186.out _).trans (((cell_far (p := ⟨gb186, _, none⟩) NB173_186.out _).trans (((cell_far (p := ⟨gb186, _, none⟩) NB173_186.out _).trans (((cell_far (p := ⟨gb186, _, none⟩) NB173_186.out _).trans (((cell_far (p := ⟨gb186, _, none⟩) NB173_186.out _).trans (((cell_far (p := ⟨gb186, _, none⟩) NB173_186.out _).trans (((cell_far (p := ⟨gb186, _, none⟩) NB173_186.out _).trans (hHeld.2.2.2.1)))))))))))))))))), ((cell_far (p := ⟨gb186, _, none⟩) au6_0 _).trans (((cell_far (p := ⟨gb186, _, none⟩) au6_0 _).trans (((cell_far (p := ⟨gb186, _, none⟩) au6_0 _).trans (((cell_far (p := ⟨gb186, _, none⟩) au6_0 _).trans (((cell_far (p := ⟨gb186, _, none⟩) au6_0 _).trans (((cell_far (p := ⟨gb186, _, none⟩) au6_0 _).trans (((cell_far (p := ⟨gb186, _, none⟩) au6_0 _).trans (((cell_far (p := ⟨gb186, _, none⟩) au6_0 _).trans (((cell_far (p := ⟨gb186, _, none⟩) au6_0 _).trans (hHeld.2.2.2.2))))))))))))))))))⟩ (fun hHeld => ?_)
                          clear hK K
                          refine done_ (done_of HT_.out (by kernel_rfl)) ?_
                          have hnb39 := NB186_173.out
                          have hnc39 := NB173_186.out
                          obtain ⟨hcz40_0, hcz40_1, hcz40_2, hcz40_3, hcz40_4, hcz40_5, hcz40_6, hcz40_7, hcz40_8, hfz40_0, hfz40_1, hfz40_2, hfz40_3, hfz40_4, hfz40_5, hfz40_6, hfz40_7, hfz40_8⟩ := cellsF9 BK186.out
                          obtain ⟨hcz41_0, hcz41_1, hcz41_2, hcz41_3, hfz41_0, hfz41_1, hfz41_2, hfz41_3⟩ := cellsF4 BK173.out
                          try go_wp2_with (first | ((with_reducible refine gate_builtin (b := .append) (xs := #[.tmp 57, .tmp 60]) rfl ?_); (try (refine gate_guard (by rfl) ?_; dsimp only)); at_builtin; refine Kd.R_append (Kd.int .i64) (w0 := w) w.heap.size rfl (.tmp 57) (.tmp 60) 55 2 (.int .i64 0) 8 rfl Try.underlying55 info2 rfl (by decide) (by omega) u5 x5_3 t181 [.int .i64 t181] (fun _ => True) (fun _ => False) rfl (by first | (go_simp; done) | (go_simp; rfl)) ?aP (fun _ hk => hk.elim) ?aF ?aO ?aB ?aS ?aL ?_; (case aP => exact rfl); (case aB => exact bl_); (case aF => exact (fun _ _ => trivial)); (case aO => exact (by (with_reducible repeat (first | apply Kd.R_alloc | apply Kd.R_drewN | apply Kd.R_drew)); exact Kd.R_mono (Kd.R_far (p := ⟨gb173, 3, none⟩) (Kd.R_far (p := ⟨gb173, 2, none⟩) (Kd.R_far (p := ⟨gb173, 1, none⟩) (Kd.R_far (p := ⟨gb173, 0, none⟩) (Kd.R_far (p := ⟨gb186, 8, none⟩) (Kd.R_far (p := ⟨gb186, 7, none⟩) (Kd.R_far (p := ⟨gb186, 6, none⟩) (Kd.R_far (p := ⟨gb186, 5, none⟩) (Kd.R_far (p := ⟨gb186, 4, none⟩) (Kd.R_far (p := ⟨gb186, 3, none⟩) (Kd.R_far (p := ⟨gb186, 2, none⟩) (Kd.R_far (p := ⟨gb186, 1, none⟩) (Kd.R_far (p := ⟨gb186, 0, none⟩) (Kd.R_types (Kd.R_types HO_5.out BK186.out (by decide)) BK173.out (by decide)) (fun _ hk => hk.1.2) (.string t175)) (fun _ hk => hk.1.2) (.int .i64 t176)) (fun _ hk => hk.1.2) (.int .i64 t177)) (fun _ hk => hk.1.2) (.slice Ao32 t178.length co32)) (fun _ hk => hk.1.2) (.int .i64 t181)) (fun _ hk => hk.1.2) (.int .i64 t182)) (fun _ hk => hk.1.2) (.int .i64 t183)) (fun _ hk => hk.1.2) (.int .i64 t184)) (fun _ hk => hk.1.2) (.int .i64 t185)) (fun _ hk => hk.2) (.string t175)) (fun _ hk => hk.2) (.int .i64 t176)) (fun _ hk => hk.2) (.int .i64 t177)) (fun _ hk => hk.2) (.slice Ao32 t178.length co32)) (fun _ hk => trivial))); (case aS => exact (below_size bl_)); (case aL => have := LMc23.out; omega); intro v188 w42 ho hb hg hat; rw [← Ny187.out] at ho; have n0_ := Aside0.mk (Kd.R_over' (by (with_reducible repeat (first | apply Kd.R_alloc | apply Kd.R_drewN | apply Kd.R_drew)); exact (Kd.R_mono (Kd.R_mono (Kd.R_far (p := ⟨gb173, 3, none⟩) (Kd.R_far (p := ⟨gb173, 2, none⟩) (Kd.R_far (p := ⟨gb173, 1, none⟩) (Kd.R_far (p := ⟨gb173, 0, none⟩) (Kd.R_far (p := ⟨gb186, 8, none⟩) (Kd.R_far (p := ⟨gb186, 7, none⟩) (Kd.R_far (p := ⟨gb186, 6, none⟩) (Kd.R_far (p := ⟨gb186, 5, none⟩) (Kd.R_far (p := ⟨gb186, 4, none⟩) (Kd.R_far (p := ⟨gb186, 3, none⟩) (Kd.R_far (p := ⟨gb186, 2, none⟩) (Kd.R_far (p := ⟨gb186, 1, none⟩) (Kd.R_far (p := ⟨gb186, 0, none⟩) (Kd.R_types (Kd.R_types HO_174003.out BK186.out (by decide)) BK173.out (by decide)) (fun _ hk => hk.1.2) (.string t175)) (fun _ hk => hk.1.2) (.int .i64 t176)) (fun _ hk => hk.1.2) (.int .i64 t177)) (fun _ hk => hk.1.2) (.slice Ao32 t178.length co32)) (fun _ hk => hk.1.2) (.int .i64 t181)) (fun _ hk => hk.1.2) (.int .i64 t182)) (fun _ hk => hk.1.2) (.int .i64 t183)) (fun _ hk => hk.1.2) (.int .i64 t184)) (fun _ hk => hk.1.2) (.int .i64 t185)) (fun _ hk => hk.2) (.string t175)) (fun _ hk => hk.2) (.int .i64 t176)) (fun _ hk => hk.2) (.int .i64 t177)) (fun _ hk => hk.2) (.slice Ao32 t178.length co32)) (fun _ h_ => h_.1)) (fun _ h_ => h_.1))) (Kd.R_typed au6_1) (by decide) hg); have n1_ := Aside0.mk (blk_grown (g := gb173) (o := .cells #[.string t175, .int .i64 t176, .int .i64 t177, .slice Ao32 t178.length co32] 51 (0, 0)) (by (with_reducible repeat (first | refine blk_drewN ?_ _ | refine blk_drew ?_ | refine blk_alloc ?_ _)); refine blk_put (cs := #[.string t175, .int .i64 t176, .int .i64 t177, .slice Ao24 x174003_3.length co24]) ?_ 3 _ rfl; (with_reducible repeat (first | refine blk_drewN ?_ _ | refine blk_drew ?_ | refine blk_alloc ?_ _)); refine blk_put (cs := #[.string t175, .int .i64 t176, .int .i64 x174002_3, .slice Ao24 x174003_3.length co24]) ?_ 2 _ rfl; (with_reducible repeat (first | refine blk_drewN ?_ _ | refine blk_drew ?_ | refine blk_alloc ?_ _)); refine blk_put (cs := #[.string t175, .int .i64 x174001_3, .int .i64 x174002_3, .slice Ao24 x174003_3.length co24]) ?_ 1 _ rfl; (with_reducible repeat (first | refine blk_drewN ?_ _ | refine blk_drew ?_ | refine blk_alloc ?_ _)); refine blk_put (cs := #[.string x174000_3, .int .i64 x174001_3, .int .i64 x174002_3, .slice Ao24 x174003_3.length co24]) ?_ 0 _ rfl; (with_reducible repeat (first | refine blk_drewN ?_ _ | refine blk_drew ?_ | refine blk_alloc ?_ _)); refine blk_far ?_ NB173_186.out _; (with_reducible repeat (first | refine blk_drewN ?_ _ | refine blk_drew ?_ | refine blk_alloc ?_ _)); refine blk_far ?_ NB173_186.out _; (with_reducible repeat (first | refine blk_drewN ?_ _ | refine blk_drew ?_ | refine blk_alloc ?_ _)); refine blk_far ?_ NB173_186.out _; (with_reducible repeat (first | refine blk_drewN ?_ _ | refine blk_drew ?_ | refine blk_alloc ?_ _)); refine blk_far ?_ NB173_186.out _; (with_reducible repeat (first | refine blk_drewN ?_ _ | refine blk_drew ?_ | refine blk_alloc ?_ _)); refine blk_far ?_ NB173_186.out _; (with_reducible repeat (first | refine blk_drewN ?_ _ | refine blk_drew ?_ | refine blk_alloc ?_ _)); refine blk_far ?_ NB173_186.out _; (with_reducible repeat (first | refine blk_drewN ?_ _ | refine blk_drew ?_ | refine blk_alloc ?_ _)); refine blk_far ?_ NB173_186.out _; (with_reducible repeat (first | refine blk_drewN ?_ _ | refine blk_drew ?_ | refine blk_alloc ?_ _)); refine blk_far ?_ NB173_186.out _; (with_reducible repeat (first | refine blk_drewN ?_ _ | refine blk_drew ?_ | refine blk_alloc ?_ _)); refine blk_far ?_ NB173_186.out _; (with_reducible repeat (first | refine blk_drewN ?_ _ | refine blk_drew ?_ | refine blk_alloc ?_ _)); exact BK173.out) hg (Kd.R_ne HO_5.out BK173.out (by decide))); have n2_ := Aside0.mk (Kd.R_over' (by (with_reducible repeat (first | apply Kd.R_alloc | apply Kd.R_drewN | apply Kd.R_drew)); exact (Kd.R_mono (Kd.R_mono (Kd.R_far (p := ⟨gb173, 3, none⟩) (Kd.R_far (p := ⟨gb173, 2, none⟩) (Kd.R_far (p := ⟨gb173, 1, none⟩) (Kd.R_far (p := ⟨gb173, 0, none⟩) (Kd.R_far (p := ⟨gb186, 8, none⟩) (Kd.R_far (p := ⟨gb186, 7, none⟩) (Kd.R_far (p := ⟨gb186, 6, none⟩) (Kd.R_far (p := ⟨gb186, 5, none⟩) (Kd.R_far (p := ⟨gb186, 4, none⟩) (Kd.R_far (p := ⟨gb186, 3, none⟩) (Kd.R_far (p := ⟨gb186, 2, none⟩) (Kd.R_far (p := ⟨gb186, 1, none⟩) (Kd.R_far (p := ⟨gb186, 0, none⟩) (Kd.R_types (Kd.R_types HO180.out BK186.out (by decide)) BK173.out (by decide)) (fun _ hk => hk.1.2) (.string t175)) (fun _ hk => hk.1.2) (.int .i64 t176)) (fun _ hk => hk.1.2) (.int .i64 t177)) (fun _ hk => hk.1.2) (.slice Ao32 t178.length co32)) (fun _ hk => hk.1.2) (.int .i64 t181)) (fun _ hk => hk.1.2) (.int .i64 t182)) (fun _ hk => hk.1.2) (.int .i64 t183)) (fun _ hk => hk.1.2) (.int .i64 t184)) (fun _ hk => hk.1.2) (.int .i64 t185)) (fun _ hk => hk.2) (.string t175)) (fun _ hk => hk.2) (.int .i64 t176)) (fun _ hk => hk.2) (.int .i64 t177)) (fun _ hk => hk.2) (.slice Ao32 t178.length co32)) (fun _ h_ => h_.1)) (fun _ h_ => h_.1))) (Kd.R_typed au6_1) (by decide) hg); have n3_ := Aside0.mk (blk_grown (g := gb186) (o := .cells #[.string t175, .int .i64 t176, .int .i64 t177, .slice Ao32 t178.length co32, .int .i64 t181, .int .i64 t182, .int .i64 t183, .int .i64 t184, .int .i64 t185] 64 (0, 0)) (by (with_reducible repeat (first | refine blk_drewN ?_ _ | refine blk_drew ?_ | refine blk_alloc ?_ _)); refine blk_far ?_ NB186_173.out _; (with_reducible repeat (first | refine blk_drewN ?_ _ | refine blk_drew ?_ | refine blk_alloc ?_ _)); refine blk_far ?_ NB186_173.out _; (with_reducible repeat (first | refine blk_drewN ?_ _ | refine blk_drew ?_ | refine blk_alloc ?_ _)); refine blk_far ?_ NB186_173.out _; (with_reducible repeat (first | refine blk_drewN ?_ _ | refine blk_drew ?_ | refine blk_alloc ?_ _)); refine blk_far ?_ NB186_173.out _; (with_reducible repeat (first | refine blk_drewN ?_ _ | refine blk_drew ?_ | refine blk_alloc ?_ _)); refine blk_put (cs := #[.string t175, .int .i64 t176, .int .i64 t177, .slice Ao32 t178.length co32, .int .i64 t181, .int .i64 t182, .int .i64 t183, .int .i64 t184, .int .i64 0]) ?_ 8 _ rfl; (with_reducible repeat (first | refine blk_drewN ?_ _ | refine blk_drew ?_ | refine blk_alloc ?_ _)); refine blk_put (cs := #[.string t175, .int .i64 t176, .int .i64 t177, .slice Ao32 t178.length co32, .int .i64 t181, .int .i64 t182, .int .i64 t183, .int .i64 0, .int .i64 0]) ?_ 7 _ rfl; (with_reducible repeat (first | refine blk_drewN ?_ _ | refine blk_drew ?_ | refine blk_alloc ?_ _)); refine blk_put (cs := #[.string t175, .int .i64 t176, .int .i64 t177, .slice Ao32 t178.length co32, .int .i64 t181, .int .i64 t182, .int .i64 0, .int .i64 0, .int .i64 0]) ?_ 6 _ rfl; (with_reducible repeat (first | refine blk_drewN ?_ _ | refine blk_drew ?_ | refine blk_alloc ?_ _)); refine blk_put (cs := #[.string t175, .int .i64 t176, .int .i64 t177, .slice Ao32 t178.length co32, .int .i64 t181, .int .i64 0, .int .i64 0, .int .i64 0, .int .i64 0]) ?_ 5 _ rfl; (with_reducible repeat (first | refine blk_drewN ?_ _ | refine blk_drew ?_ | refine blk_alloc ?_ _)); refine blk_put (cs := #[.string t175, .int .i64 t176, .int .i64 t177, .slice Ao32 t178.length co32, .int .i64 0, .int .i64 0, .int .i64 0, .int .i64 0, .int .i64 0]) ?_ 4 _ rfl; (with_reducible repeat (first | refine blk_drewN ?_ _ | refine blk_drew ?_ | refine blk_alloc ?_ _)); refine blk_put (cs := #[.string t175, .int .i64 t176, .int .i64 t177, .slice none 0 0, .int .i64 0, .int .i64 0, .int .i64 0, .int .i64 0, .int .i64 0]) ?_ 3 _ rfl; (with_reducible repeat (first | refine blk_drewN ?_ _ | refine blk_drew ?_ | refine blk_alloc ?_ _)); refine blk_put (cs := #[.string t175, .int .i64 t176, .int .i64 0, .slice none 0 0, .int .i64 0, .int .i64 0, .int .i64 0, .int .i64 0, .int .i64 0]) ?_ 2 _ rfl; (with_reducible repeat (first | refine blk_drewN ?_ _ | refine blk_drew ?_ | refine blk_alloc ?_ _)); refine blk_put (cs := #[.string t175, .int .i64 0, .int .i64 0, .slice none 0 0, .int .i64 0, .int .i64 0, .int .i64 0, .int .i64 0, .int .i64 0]) ?_ 1 _ rfl; (with_reducible repeat (first | refine blk_drewN ?_ _ | refine blk_drew ?_ | refine blk_alloc ?_ _)); refine blk_put (cs := #[.string (⟨#[]⟩ : ByteArray), .int .i64 0, .int .i64 0, .slice none 0 0, .int .i64 0, .int .i64 0, .int .i64 0, .int .i64 0, .int .i64 0]) ?_ 0 _ rfl; (with_reducible repeat (first | refine blk_drewN ?_ _ | refine blk_drew ?_ | refine blk_alloc ?_ _)); exact BK186.out) hg (Kd.R_ne HO_5.out BK186.out (by decide))); have n4_ := Aside0.mk (hb); have n5_ := Aside0.mk (ho); clear HO_174003; clear BK173; clear HO180; clear BK186; clear HB; clear HO_5; have HO_174003 := n0_; have BK173 := n1_; have HO180 := n2_; have BK186 := n3_; have HB := n4_; have HO189 := n5_; clear n0_ n1_ n2_ n3_ n4_ n5_; clear ho hb hg hat))
                          go_roundg k3
                          case measure => have := HJ2.out; have := HK2.out; have := HK3.out; omega
                          case rel => exact ⟨(y187), (wrap64 (x8_3 + 1)), (t175), (t176), (t177), (t178), (.slice Ao32 t178.length co32), er_, H', ⟨by have := HJ2.out; have := HK2.out; have := HK3.out; omega⟩, ⟨rk_ HO189⟩, ⟨by (with_reducible repeat (first | apply Kd.R_alloc | apply Kd.R_drewN | apply Kd.R_drew)); exact Kd.R_mono HO180.out (fun _ hk => trivial)⟩, ⟨bk_ BK173⟩, ⟨bl_⟩⟩
                        · rw [if_neg c23] at H
                          exact absurd H (by simp)
                      · rw [if_neg c22] at H
                        have c22b0 : (t185 == 0) = false := beq_eq_false_iff_ne.mpr c22
                        have c22b1 : (t185 != 0) = true := bne_iff_ne.mpr c22
                        by_cases c43 : x5_3.length < 17592186044416
                        · rw [if_pos c43] at H
                          have LMc43 := Aside0.mk c43
                          clear c43
                          obtain ⟨y190, hy190⟩ : ∃ y_ : List Int, y_ = (x5_3 ++ [t181]) := ⟨_, rfl⟩
                          replace H : (spec_PartnerRun.l1 k3 l1 y190 (wrap64 (x8_3 + 1)) x174000_3 x174001_3 x174002_3 x174003_3) = some r := by first | (rw [hy190]; with_reducible exact H) | (have H2_ := (Option.bind_some _ _).symm.trans H; rw [hy190]; with_reducible exact H2_) | (have H2_ := (Option.bind_some _ _).symm.trans H; with_reducible exact H2_) | with_reducible exact H | (rw [hy190]; exact H) | exact H
                          have Ny190 := Aside0.mk hy190
                          clear hy190
                          have H' := Aside0.mk H
                          clear H
                          obtain ⟨Ao44, co44, eo44⟩ := Kd.R_slice HO_174003.out
                          subst eo44
                          try go_wp2
                          have n0_ := Aside0.mk (Kd.R_drew HO_5.out)
                          have n1_ := Aside0.mk (Kd.R_drew HO_174003.out)
                          have n2_ := Aside0.mk (blk_drew BK173.out)
                          have n3_ := Aside0.mk (below_drew1 HB.out)
                          clear HO_5
                          clear HO_174003
                          clear BK173
                          clear HB
                          have HO_5 := n0_
                          have HO_174003 := n1_
                          have BK173 := n2_
                          have HB := n3_
                          clear n0_ n1_ n2_ n3_
                          have p174 : 0 ≤ (x8_3 : Int) := of_decide_eq_true as_
                          have q174 : x8_3 < (l1.length : Int) := of_decide_eq_true as_
                          obtain ⟨ad174, e174, hx174_0⟩ := Kd.at_int HR1.out x8_3 p174 q174
                          have hw174_0 := hx174_0
                          cases e174
                          replace hx174_0 := (HB.out.cell (World.block_lt_of_cell? _ _ hx174_0)).trans hx174_0
                          replace p174 := eq_true p174
                          replace q174 := eq_true q174
                          refine start_ (n := 8) (S := fun w' => w'.cell? ⟨gb173, 0, none⟩ = some (.string x174000_3) ∧ w'.cell? ⟨gb173, 1, none⟩ = some (.int .i64 x174001_3) ∧ w'.cell? ⟨gb173, 2, none⟩ = some (.int .i64 x174002_3) ∧ w'.cell? ⟨gb173, 3, none⟩ = some (.slice Ao44 x174003_3.length co44) ∧ w'.cell? (ad174.add (x8_3).toNat) = some (.int .i64 (rd l1 x8_3))) (ds := []) (bs 8 0) (by kernel_rfl) rfl rfl ⟨(blk_cell BK173.out 0).trans rfl, (blk_cell BK173.out 1).trans rfl, (blk_cell BK173.out 2).trans rfl, (blk_cell BK173.out 3).trans rfl, ((HB.out.cell (World.block_lt_of_cell? _ _ hw174_0)).trans hw174_0)⟩ (fun hHeld => ?_); refine with_tabW spec_PartnerRun.tab13 spec_PartnerRun.bits13 (fun HT_ HW_ => ?_)
                          generalize wr.drew = w45 at HO_5 HO_174003 BK173 HB hx174_0 hHeld ⊢
                          refine pu_ 1 47 (bs 8 2) HT_ ?_ rfl rfl
                          refine pu_ 2 48 (bs 8 6) HT_ ?_ rfl rfl
                          refine pu_ 3 49 (bs 8 14) HT_ ?_ rfl rfl
                          refine tk_ 0 46 (bs 8 15) HT_ HW_ hHeld au6_8 ?_ rfl rfl
                          refine tk_ 4 50 (bs 8 31) HT_ HW_ hHeld au6_8 ?_ rfl rfl
                          refine join_ (σ := Value × Nat) 1 (bs 8 127) (fun s_ => [(51, .agg #[.string t175, .int .i64 t176, .int .i64 t177, s_.1, .int .i64 t181, .int .i64 t182, .int .i64 t183, .int .i64 t184, .int .i64 t185]), (9, .pointer (some ⟨s_.2, 0, none⟩))]) (fun s_ w' => (w'.cell? ⟨gb173, 0, none⟩ = some (.string x174000_3) ∧ w'.cell? ⟨gb173, 1, none⟩ = some (.int .i64 x174001_3) ∧ w'.cell? ⟨gb173, 2, none⟩ = some (.int .i64 x174002_3) ∧ w'.cell? ⟨gb173, 3, none⟩ = some (.slice Ao44 x174003_3.length co44) ∧ w'.cell? (ad174.add (x8_3).toNat) = some (.int .i64 (rd l1 x8_3))) ∧ (Kd.R k62 62 w' w.heap.size (fun k_ => some k_ ≠ (.slice Ao44 x174003_3.length co44 : Value).ownBlock) s_.1 t178) ∧ (Kd.R k62 62 w' w.heap.size (fun k_ => some k_ ≠ (s_.1 : Value).ownBlock) (.slice Ao44 x174003_3.length co44) x174003_3) ∧ (Kd.R (Kd.int .i64) 2 w' w.heap.size (fun _ => True) u5 x5_3) ∧ (w'.heap[gb173]? = some (.cells #[.string x174000_3, .int .i64 x174001_3, .int .i64 x174002_3, .slice Ao44 x174003_3.length co44] 51 (0, 0))) ∧ (w'.heap[s_.2]? = some (.cells #[.string (⟨#[]⟩ : ByteArray), .int .i64 0, .int .i64 0, .slice none 0 0, .int .i64 0, .int .i64 0, .int .i64 0, .int .i64 0, .int .i64 0] 64 (0, 0))) ∧ (w.heap.size ≤ s_.2) ∧ (w.heap.size ≤ s_.2) ∧ (gb173 ≠ s_.2) ∧ (s_.2 ≠ gb173) ∧ (Below w.heap.size w w')) ?_ ?_
                          rotate_left
                          · intro hCont
                            refine two_ (i := 5) (j := 6) (Ni := some 51) (Nj := some 9) (bs 8 63) (bs 8 95) rfl rfl rfl rfl (two_of HT_.out (by kernel_rfl)) (by decide) (by decide) (fun K hK => ?_) (fun K hK => ?_)
                            · skip
                              refine gr_ Try.func44 #[.agg #[.string x174000_3, .int .i64 x174001_3, .int .i64 x174002_3, .slice Ao44 x174003_3.length co44], .int .i64 (rd l1 x8_3), .int .i64 0] (by rfl) ?_ rfl rfl rfl
                              with_reducible refine (spec_PartnerTake.calls k3 x174000_3 x174001_3 x174002_3 _ _ x174003_3 (rd l1 x8_3) 0 t175 t176 t177 t178 t181 t182 t183 t184 t185 _ ?side1 ?side2 A21.out).mono ?_
                              (case side1 => exact au6_3)
                              (case side2 => exact au6_9)
                              rintro e w46 ⟨v179, rfl, ho0, hb⟩
                              refine ⟨_, rfl, ?_⟩
                              have n0_ := Aside0.mk (Kd.R_below (rk_ HO_5) hb)
                              have n1_ := Aside0.mk (Kd.R_elder' (rk_ HO_174003) (Kd.R_base ho0) hb)
                              have n2_ := Aside0.mk (Kd.R_lower (Kd.R_new' ho0 (Kd.R_lt (rk_ HO_174003))) (below_size bl_))
                              have n3_ := Aside0.mk (blkb_ BK173 hb)
                              have n4_ := Aside0.mk (below_step bl_ hb)
                              clear HO_5
                              clear HO_174003
                              clear BK173
                              clear HB
                              have HO_5 := n0_
                              have HO_174003 := n1_
                              have HO180 := n2_
                              have BK173 := n3_
                              have HB := n4_
                              clear n0_ n1_ n2_ n3_ n4_
                              (try clear hb)
                              (try clear hb2)
                              (try clear hk)
                              (try clear hi)
                              (try clear ho0)
                              refine hK.out _ _ ⟨(blk_cell BK173.out 0).trans rfl, (blk_cell BK173.out 1).trans rfl, (blk_cell BK173.out 2).trans rfl, (blk_cell BK173.out 3).trans rfl, ((HB.out.cell (World.block_lt_of_cell? _ _ hw174_0)).trans hw174_0)⟩ (fun hHeld => ?_)
                              clear hK K
                              refine norm_ (a' := ?_) ?_ ?_
                              rotate_left
                              · show Act.put _ (some 51) _ = _
                                simp only [Act.put, List.setIfInBounds_toArray, List.set_cons_zero, List.set_cons_succ, i64_w, i32_w]
                                rfl
                              refine one_ (i := 6) (N := some 9) (bs 8 127) rfl rfl (one_of HT_.out (by kernel_rfl)) (by decide) (fun K hK => ?_)
                              refine box_step ?hg (N := 9) ?hd (cs := #[.string (⟨#[]⟩ : ByteArray), .int .i64 0, .int .i64 0, .slice none 0 0, .int .i64 0, .int .i64 0, .int .i64 0, .int .i64 0, .int .i64 0]) (t := 64) ?hr ?_; (case hd => rfl); (case hg => rfl); (case hr => exact hr_)
                              intro gb186 hg w47 hbox hb
                              have n0_ := Aside0.mk (Kd.R_below (rk_ HO_5) hb)
                              have n1_ := Aside0.mk (Kd.R_below (rk_ HO_174003) hb)
                              have n2_ := Aside0.mk (Kd.R_below (rk_ HO180) hb)
                              have n3_ := Aside0.mk (blkb_ BK173 hb)
                              have n4_ := Aside0.mk (below_step bl_ hb)
                              have n5_ := Aside0.mk (hbox)
                              have n6_ := Aside0.mk (gw_ hg bl_)
                              have n7_ := Aside0.mk (gw_ hg bl_)
                              have n8_ := Aside0.mk (gn_ hg (blkl_ BK173))
                              have n9_ := Aside0.mk (gm_ hg (blkl_ BK173))
                              clear HO_5
                              clear HO_174003
                              clear HO180
                              clear BK173
                              clear HB
                              have HO_5 := n0_
                              have HO_174003 := n1_
                              have HO180 := n2_
                              have BK173 := n3_
                              have HB := n4_
                              have BK186 := n5_
                              have GW186 := n6_
                              have GE186 := n7_
                              have NB173_186 := n8_
                              have NB186_173 := n9_
                              clear n0_ n1_ n2_ n3_ n4_ n5_ n6_ n7_ n8_ n9_
                              clear hb hbox hg
                              refine hK.out _ _ ⟨(blk_cell BK173.out 0).trans rfl, (blk_cell BK173.out 1).trans rfl, (blk_cell BK173.out 2).trans rfl, (blk_cell BK173.out 3).trans rfl, ((HB.out.cell (World.block_lt_of_cell? _ _ hw174_0)).trans hw174_0)⟩ (fun hHeld => ?_)
                              clear hK K
                              refine norm_ (a' := ?_) ?_ ?_
                              rotate_left
                              · show Act.put _ (some 9) _ = _
                                simp only [Act.put, List.setIfInBounds_toArray, List.set_cons_zero, List.set_cons_succ, i64_w, i32_w]
                                rfl
                              exact norm_ au6_6 (hCont (v179, gb186) _ ⟨hHeld, au6_5, au6_4, (rk_ HO_5), (bk_ BK173), (bk_ BK186), GW186.out, GE186.out, NB173_186.out, NB186_173.out, bl_⟩)
                            · skip
                              refine box_step ?hg (N := 9) ?hd (cs := #[.string (⟨#[]⟩ : ByteArray), .int .i64 0, .int .i64 0, .slice none 0 0, .int .i64 0, .int .i64 0, .int .i64 0, .int .i64 0, .int .i64 0]) (t := 64) ?hr ?_; (case hd => rfl); (case hg => rfl); (case hr => exact hr_)
                              intro gb186 hg w46 hbox hb
                              have n0_ := Aside0.mk (Kd.R_below (rk_ HO_5) hb)
                              have n1_ := Aside0.mk (Kd.R_below (rk_ HO_174003) hb)
                              have n2_ := Aside0.mk (blkb_ BK173 hb)
                              have n3_ := Aside0.mk (below_step bl_ hb)
                              have n4_ := Aside0.mk (hbox)
                              have n5_ := Aside0.mk (gw_ hg bl_)
                              have n6_ := Aside0.mk (gw_ hg bl_)
                              have n7_ := Aside0.mk (gn_ hg (blkl_ BK173))
                              have n8_ := Aside0.mk (gm_ hg (blkl_ BK173))
                              clear HO_5
                              clear HO_174003
                              clear BK173
                              clear HB
                              have HO_5 := n0_
                              have HO_174003 := n1_
                              have BK173 := n2_
                              have HB := n3_
                              have BK186 := n4_
                              have GW186 := n5_
                              have GE186 := n6_
                              have NB173_186 := n7_
                              have NB186_173 := n8_
                              clear n0_ n1_ n2_ n3_ n4_ n5_ n6_ n7_ n8_
                              clear hb hbox hg
                              refine hK.out _ _ ⟨(blk_cell BK173.out 0).trans rfl, (blk_cell BK173.out 1).trans rfl, (blk_cell BK173.out 2).trans rfl, (blk_cell BK173.out 3).trans rfl, ((HB.out.cell (World.block_lt_of_cell? _ _ hw174_0)).trans hw174_0)⟩ (fun hHeld => ?_)
                              clear hK K
                              refine norm_ (a' := ?_) ?_ ?_
                              rotate_left
                              · show Act.put _ (some 9) _ = _
                                simp only [Act.put, List.setIfInBounds_toArray, List.set_cons_zero, List.set_cons_succ, i64_w, i32_w]
                                rfl
                              refine one_ (i := 5) (N := some 51) (bs 8 127) rfl rfl (one_of HT_.out (by kernel_rfl)) (by decide) (fun K hK => ?_)
                              refine gr_ Try.func44 #[.agg #[.string x174000_3, .int .i64 x174001_3, .int .i64 x174002_3, .slice Ao44 x174003_3.length co44], .int .i64 (rd l1 x8_3), .int .i64 0] (by rfl) ?_ rfl rfl rfl
                              with_reducible refine (spec_PartnerTake.calls k3 x174000_3 x174001_3 x174002_3 _ _ x174003_3 (rd l1 x8_3) 0 t175 t176 t177 t178 t181 t182 t183 t184 t185 _ ?side1 ?side2 A21.out).mono ?_
                              (case side1 => exact au6_3)
                              (case side2 => exact au6_9)
                              rintro e w47 ⟨v179, rfl, ho0, hb⟩
                              refine ⟨_, rfl, ?_⟩
                              have n0_ := Aside0.mk (Kd.R_below (rk_ HO_5) hb)
                              have n1_ := Aside0.mk (Kd.R_elder' (rk_ HO_174003) (Kd.R_base ho0) hb)
                              have n2_ := Aside0.mk (Kd.R_lower (Kd.R_new' ho0 (Kd.R_lt (rk_ HO_174003))) (below_size bl_))
                              have n3_ := Aside0.mk (blkb_ BK173 hb)
                              have n4_ := Aside0.mk (blkb_ BK186 hb)
                              have n5_ := Aside0.mk (below_step bl_ hb)
                              clear HO_5
                              clear HO_174003
                              clear BK173
                              clear BK186
                              clear HB
                              have HO_5 := n0_
                              have HO_174003 := n1_
                              have HO180 := n2_
                              have BK173 := n3_
                              have BK186 := n4_
                              have HB := n5_
                              clear n0_ n1_ n2_ n3_ n4_ n5_
                              (try clear hb)
                              (try clear hb2)
                              (try clear hk)
                              (try clear hi)
                              (try clear ho0)
                              refine hK.out _ _ ⟨(blk_cell BK173.out 0).trans rfl, (blk_cell BK173.out 1).trans rfl, (blk_cell BK173.out 2).trans rfl, (blk_cell BK173.out 3).trans rfl, ((HB.out.cell (World.block_lt_of_cell? _ _ hw174_0)).trans hw174_0)⟩ (fun hHeld => ?_)
                              clear hK K
                              refine norm_ (a' := ?_) ?_ ?_
                              rotate_left
                              · show Act.put _ (some 51) _ = _
                                simp only [Act.put, List.setIfInBounds_toArray, List.set_cons_zero, List.set_cons_succ, i64_w, i32_w]
                                rfl
                              exact norm_ au6_6 (hCont (v179, gb186) _ ⟨hHeld, au6_5, au6_4, (rk_ HO_5), (bk_ BK173), (bk_ BK186), GW186.out, GE186.out, NB173_186.out, NB186_173.out, bl_⟩)
                          rintro ⟨v179, gb186⟩ w48 ⟨hS_, h0_, h1_, h2_, h3_, h4_, h5_, h6_, h7_, h8_, h9_⟩
                          have n0_ : Aside0 (Kd.R k62 62 w48 w.heap.size (fun k_ => some k_ ≠ (.slice Ao44 x174003_3.length co44 : Value).ownBlock) v179 t178) := ⟨h0_⟩
                          have n1_ : Aside0 (Kd.R k62 62 w48 w.heap.size (fun k_ => some k_ ≠ (v179 : Value).ownBlock) (.slice Ao44 x174003_3.length co44) x174003_3) := ⟨h1_⟩
                          have n2_ : Aside0 (Kd.R (Kd.int .i64) 2 w48 w.heap.size (fun _ => True) u5 x5_3) := ⟨h2_⟩
                          have n3_ : Aside0 (w48.heap[gb173]? = some (.cells #[.string x174000_3, .int .i64 x174001_3, .int .i64 x174002_3, .slice Ao44 x174003_3.length co44] 51 (0, 0))) := ⟨h3_⟩
                          have n4_ : Aside0 (w48.heap[gb186]? = some (.cells #[.string (⟨#[]⟩ : ByteArray), .int .i64 0, .int .i64 0, .slice none 0 0, .int .i64 0, .int .i64 0, .int .i64 0, .int .i64 0, .int .i64 0] 64 (0, 0))) := ⟨h4_⟩
                          have n5_ : Aside0 (w.heap.size ≤ gb186) := ⟨h5_⟩
                          have n6_ : Aside0 (w.heap.size ≤ gb186) := ⟨h6_⟩
                          have n7_ : Aside0 (gb173 ≠ gb186) := ⟨h7_⟩
                          have n8_ : Aside0 (gb186 ≠ gb173) := ⟨h8_⟩
                          have n9_ : Aside0 (Below w.heap.size w w48) := ⟨h9_⟩
                          clear HO_5
                          clear HO_174003
                          clear BK173
                          clear HB
                          clear h0_ h1_ h2_ h3_ h4_ h5_ h6_ h7_ h8_ h9_
                          have HO180 := n0_
                          have HO_174003 := n1_
                          have HO_5 := n2_
                          have BK173 := n3_
                          have BK186 := n4_
                          have GW186 := n5_
                          have GE186 := n6_
                          have NB173_186 := n7_
                          have NB186_173 := n8_
                          have HB := n9_
                          clear n0_ n1_ n2_ n3_ n4_ n5_ n6_ n7_ n8_ n9_
                          have hHeld : w48.cell? ⟨gb173, 0, none⟩ = some (.string x174000_3) ∧ w48.cell? ⟨gb173, 1, none⟩ = some (.int .i64 x174001_3) ∧ w48.cell? ⟨gb173, 2, none⟩ = some (.int .i64 x174002_3) ∧ w48.cell? ⟨gb173, 3, none⟩ = some (.slice Ao44 x174003_3.length co44) ∧ w48.cell? (ad174.add (x8_3).toNat) = some (.int .i64 (rd l1 x8_3)) := hS_
                          obtain ⟨Ao52, co52, eo52⟩ := Kd.R_slice HO180.out
                          (first | subst eo52 | (injection eo52 with f1_ f2_ f3_; have f4_ := f1_.symm; have f5_ := f3_.symm; clear f1_ f2_ f3_; subst f4_; subst f5_))
                          refine norm_ (a' := ?_) ?_ ?_
                          rotate_left
                          · simp only [putAll, Act.put, List.setIfInBounds_toArray, List.set_cons_zero, List.set_cons_succ]
                            rfl
                          refine one_ (i := 7) (N := none) (bs 8 255) rfl rfl (one_of HT_.out (by kernel_rfl)) (by decide) (fun K hK => ?_)
                          have hs49 : w48.cell? ⟨gb186, 0, none⟩ = some (.string (⟨#[]⟩ : ByteArray)) := (blk_cell BK186.out 0).trans rfl
                          have hfs49 := blk_frozen BK186.out 0
                          have hns49_0 := NB173_186.out
                          have hms49_0 := NB186_173.out
                          have hs50 : w48.cell? ⟨gb186, 1, none⟩ = some (.int .i64 0) := (blk_cell BK186.out 1).trans rfl
                          have hfs50 := blk_frozen BK186.out 1
                          have hns50_0 := NB173_186.out
                          have hms50_0 := NB186_173.out
                          have hs51 : w48.cell? ⟨gb186, 2, none⟩ = some (.int .i64 0) := (blk_cell BK186.out 2).trans rfl
                          have hfs51 := blk_frozen BK186.out 2
                          have hns51_0 := NB173_186.out
                          have hms51_0 := NB186_173.out
                          have hs53 : w48.cell? ⟨gb186, 3, none⟩ = some (.slice none 0 0) := (blk_cell BK186.out 3).trans rfl
                          have hfs53 := blk_frozen BK186.out 3
                          have hns53_0 := NB173_186.out
                          have hms53_0 := NB186_173.out
                          have hs54 : w48.cell? ⟨gb186, 4, none⟩ = some (.int .i64 0) := (blk_cell BK186.out 4).trans rfl
                          have hfs54 := blk_frozen BK186.out 4
                          have hns54_0 := NB173_186.out
                          have hms54_0 := NB186_173.out
                          have hs55 : w48.cell? ⟨gb186, 5, none⟩ = some (.int .i64 0) := (blk_cell BK186.out 5).trans rfl
                          have hfs55 := blk_frozen BK186.out 5
                          have hns55_0 := NB173_186.out
                          have hms55_0 := NB186_173.out
                          have hs56 : w48.cell? ⟨gb186, 6, none⟩ = some (.int .i64 0) := (blk_cell BK186.out 6).trans rfl
                          have hfs56 := blk_frozen BK186.out 6
                          have hns56_0 := NB173_186.out
                          have hms56_0 := NB186_173.out
                          have hs57 : w48.cell? ⟨gb186, 7, none⟩ = some (.int .i64 0) := (blk_cell BK186.out 7).trans rfl
                          have hfs57 := blk_frozen BK186.out 7
                          have hns57_0 := NB173_186.out
                          have hms57_0 := NB186_173.out
                          have hs58 : w48.cell? ⟨gb186, 8, none⟩ = some (.int .i64 0) := (blk_cell BK186.out 8).trans rfl
                          have hfs58 := blk_frozen BK186.out 8
                          have hns58_0 := NB173_186.out
                          have hms58_0 := NB186_173.out
                          refine skip_ (w1 := ?_) (by rfl) rfl ?_ ?_
                          rotate_left
                          · go_simp
                            rfl
                          refine hK.out _ _ ⟨((cell_far (p := ⟨gb186, _, none⟩) NB173_186.out _).trans (((cell_far (p := ⟨gb186, _, none⟩) NB173_186.out _).trans (((cell_far (p := ⟨gb186, _, none⟩) NB173_186.out _).trans (((cell_far (p := ⟨gb186, _, none⟩) NB173_186.out _).trans (((cell_far (p := ⟨gb186, _, none⟩) NB173_186.out _).trans (((cell_far (p := ⟨gb186, _, none⟩) NB173_186.out _).trans (((cell_far (p := ⟨gb186, _, none⟩) NB173_186.out _).trans (((cell_far (p := ⟨gb186, _, none⟩) NB173_186.out _).trans (((cell_far (p := ⟨gb186, _, none⟩) NB173_186.out _).trans (hHeld.1)))))))))))))))))), ((cell_far (p := ⟨gb186, _, none⟩) NB173_186.out _).trans (((cell_far (p := ⟨gb186, _, none⟩) NB173_186.out _).trans (((cell_far (p := ⟨gb186, _, none⟩) NB173_186.out _).trans (((cell_far (p := ⟨gb186, _, none⟩) NB173_186.out _).trans (((cell_far (p := ⟨gb186, _, none⟩) NB173_186.out _).trans (((cell_far (p := ⟨gb186, _, none⟩) NB173_186.out _).trans (((cell_far (p := ⟨gb186, _, none⟩) NB173_186.out _).trans (((cell_far (p := ⟨gb186, _, none⟩) NB173_186.out _).trans (((cell_far (p := ⟨gb186, _, none⟩) NB173_186.out _).trans (hHeld.2.1)))))))))))))))))), ((cell_far (p := ⟨gb186, _, none⟩) NB173_186.out _).trans (((cell_far (p := ⟨gb186, _, none⟩) NB173_186.out _).trans (((cell_far (p := ⟨gb186, _, none⟩) NB173_186.out _).trans (((cell_far (p := ⟨gb186, _, none⟩) NB173_186.out _).trans (((cell_far (p := ⟨gb186, _, none⟩) NB173_186.out _).trans (((cell_far (p := ⟨gb186, _, none⟩) NB173_186.out _).trans (((cell_far (p := ⟨gb186, _, none⟩) NB173_186.out _).trans (((cell_far (p := ⟨gb186, _, none⟩) NB173_186.out _).trans (((cell_far (p := ⟨gb186, _, none⟩) NB173_186.out _).trans (hHeld.2.2.1)))))))))))))))))), ((cell_far (p := ⟨gb186, _, none⟩) NB173_186.out _).trans (((cell_far (p := ⟨gb186, _, none⟩) NB173_186.out _).trans (((cell_far (p := ⟨gb186, _, none⟩) NB173_186.out _).trans (((cell_far (p := ⟨gb186, _, none⟩) NB173_186.out _).trans (((cell_far (p := ⟨gb186, _, none⟩) NB173_186.out _).trans (((cell_far (p := ⟨gb186, _, none⟩) NB173_186.out _).trans (((cell_far (p := ⟨gb186, _, none⟩) NB173_186.out _).trans (((cell_far (p := ⟨gb186, _, none⟩) NB173_186.out _).trans (((cell_far (p := ⟨gb186, _, none⟩) NB173_186.out _).trans (hHeld.2.2.2.1)))))))))))))))))), ((cell_far (p := ⟨gb186, _, none⟩) au6_0 _).trans (((cell_far (p := ⟨gb186, _, none⟩) au6_0 _).trans (((cell_far (p := ⟨gb186, _, none⟩) au6_0 _).trans (((cell_far (p := ⟨gb186, _, none⟩) au6_0 _).trans (((cell_far (p := ⟨gb186, _, none⟩) au6_0 _).trans (((cell_far (p := ⟨gb186, _, none⟩) au6_0 _).trans (((cell_far (p := ⟨gb186, _, none⟩) au6_0 _).trans (((cell_far (p := ⟨gb186, _, none⟩) au6_0 _).trans (((cell_far (p := ⟨gb186, _, none⟩) au6_0 _).trans (hHeld.2.2.2.2))))))))))))))))))⟩ (fun hHeld => ?_)
                          clear hK K
                          refine done_ (done_of HT_.out (by kernel_rfl)) ?_
                          have hnb59 := NB186_173.out
                          have hnc59 := NB173_186.out
                          obtain ⟨hcz60_0, hcz60_1, hcz60_2, hcz60_3, hcz60_4, hcz60_5, hcz60_6, hcz60_7, hcz60_8, hfz60_0, hfz60_1, hfz60_2, hfz60_3, hfz60_4, hfz60_5, hfz60_6, hfz60_7, hfz60_8⟩ := cellsF9 BK186.out
                          try go_wp2_with (first | ((with_reducible refine gate_builtin (b := .append) (xs := #[.tmp 57, .tmp 60]) rfl ?_); (try (refine gate_guard (by rfl) ?_; dsimp only)); at_builtin; refine Kd.R_append (Kd.int .i64) (w0 := w) w.heap.size rfl (.tmp 57) (.tmp 60) 55 2 (.int .i64 0) 8 rfl Try.underlying55 info2 rfl (by decide) (by omega) u5 x5_3 t181 [.int .i64 t181] (fun _ => True) (fun _ => False) rfl (by first | (go_simp; done) | (go_simp; rfl)) ?aP (fun _ hk => hk.elim) ?aF ?aO ?aB ?aS ?aL ?_; (case aP => exact rfl); (case aB => exact bl_); (case aF => exact (fun _ _ => trivial)); (case aO => exact (by (with_reducible repeat (first | apply Kd.R_alloc | apply Kd.R_drewN | apply Kd.R_drew)); exact Kd.R_mono (Kd.R_far (p := ⟨gb186, 8, none⟩) (Kd.R_far (p := ⟨gb186, 7, none⟩) (Kd.R_far (p := ⟨gb186, 6, none⟩) (Kd.R_far (p := ⟨gb186, 5, none⟩) (Kd.R_far (p := ⟨gb186, 4, none⟩) (Kd.R_far (p := ⟨gb186, 3, none⟩) (Kd.R_far (p := ⟨gb186, 2, none⟩) (Kd.R_far (p := ⟨gb186, 1, none⟩) (Kd.R_far (p := ⟨gb186, 0, none⟩) (Kd.R_types HO_5.out BK186.out (by decide)) (fun _ hk => hk.2) (.string t175)) (fun _ hk => hk.2) (.int .i64 t176)) (fun _ hk => hk.2) (.int .i64 t177)) (fun _ hk => hk.2) (.slice Ao52 t178.length co52)) (fun _ hk => hk.2) (.int .i64 t181)) (fun _ hk => hk.2) (.int .i64 t182)) (fun _ hk => hk.2) (.int .i64 t183)) (fun _ hk => hk.2) (.int .i64 t184)) (fun _ hk => hk.2) (.int .i64 t185)) (fun _ hk => trivial))); (case aS => exact (below_size bl_)); (case aL => have := LMc43.out; omega); intro v191 w61 ho hb hg hat; rw [← Ny190.out] at ho; have n0_ := Aside0.mk (Kd.R_over' (by (with_reducible repeat (first | apply Kd.R_alloc | apply Kd.R_drewN | apply Kd.R_drew)); exact (Kd.R_mono (Kd.R_far (p := ⟨gb186, 8, none⟩) (Kd.R_far (p := ⟨gb186, 7, none⟩) (Kd.R_far (p := ⟨gb186, 6, none⟩) (Kd.R_far (p := ⟨gb186, 5, none⟩) (Kd.R_far (p := ⟨gb186, 4, none⟩) (Kd.R_far (p := ⟨gb186, 3, none⟩) (Kd.R_far (p := ⟨gb186, 2, none⟩) (Kd.R_far (p := ⟨gb186, 1, none⟩) (Kd.R_far (p := ⟨gb186, 0, none⟩) (Kd.R_types HO_174003.out BK186.out (by decide)) (fun _ hk => hk.2) (.string t175)) (fun _ hk => hk.2) (.int .i64 t176)) (fun _ hk => hk.2) (.int .i64 t177)) (fun _ hk => hk.2) (.slice Ao52 t178.length co52)) (fun _ hk => hk.2) (.int .i64 t181)) (fun _ hk => hk.2) (.int .i64 t182)) (fun _ hk => hk.2) (.int .i64 t183)) (fun _ hk => hk.2) (.int .i64 t184)) (fun _ hk => hk.2) (.int .i64 t185)) (fun _ h_ => h_.1))) (Kd.R_typed au6_2) (by decide) hg); have n1_ := Aside0.mk (blk_grown (g := gb173) (o := .cells #[.string x174000_3, .int .i64 x174001_3, .int .i64 x174002_3, .slice Ao44 x174003_3.length co44] 51 (0, 0)) (by (with_reducible repeat (first | refine blk_drewN ?_ _ | refine blk_drew ?_ | refine blk_alloc ?_ _)); refine blk_far ?_ NB173_186.out _; (with_reducible repeat (first | refine blk_drewN ?_ _ | refine blk_drew ?_ | refine blk_alloc ?_ _)); refine blk_far ?_ NB173_186.out _; (with_reducible repeat (first | refine blk_drewN ?_ _ | refine blk_drew ?_ | refine blk_alloc ?_ _)); refine blk_far ?_ NB173_186.out _; (with_reducible repeat (first | refine blk_drewN ?_ _ | refine blk_drew ?_ | refine blk_alloc ?_ _)); refine blk_far ?_ NB173_186.out _; (with_reducible repeat (first | refine blk_drewN ?_ _ | refine blk_drew ?_ | refine blk_alloc ?_ _)); refine blk_far ?_ NB173_186.out _; (with_reducible repeat (first | refine blk_drewN ?_ _ | refine blk_drew ?_ | refine blk_alloc ?_ _)); refine blk_far ?_ NB173_186.out _; (with_reducible repeat (first | refine blk_drewN ?_ _ | refine blk_drew ?_ | refine blk_alloc ?_ _)); refine blk_far ?_ NB173_186.out _; (with_reducible repeat (first | refine blk_drewN ?_ _ | refine blk_drew ?_ | refine blk_alloc ?_ _)); refine blk_far ?_ NB173_186.out _; (with_reducible repeat (first | refine blk_drewN ?_ _ | refine blk_drew ?_ | refine blk_alloc ?_ _)); refine blk_far ?_ NB173_186.out _; (with_reducible repeat (first | refine blk_drewN ?_ _ | refine blk_drew ?_ | refine blk_alloc ?_ _)); exact BK173.out) hg (Kd.R_ne HO_5.out BK173.out (by decide))); have n2_ := Aside0.mk (Kd.R_over' (by (with_reducible repeat (first | apply Kd.R_alloc | apply Kd.R_drewN | apply Kd.R_drew)); exact (Kd.R_mono (Kd.R_far (p := ⟨gb186, 8, none⟩) (Kd.R_far (p := ⟨gb186, 7, none⟩) (Kd.R_far (p := ⟨gb186, 6, none⟩) (Kd.R_far (p := ⟨gb186, 5, none⟩) (Kd.R_far (p := ⟨gb186, 4, none⟩) (Kd.R_far (p := ⟨gb186, 3, none⟩) (Kd.R_far (p := ⟨gb186, 2, none⟩) (Kd.R_far (p := ⟨gb186, 1, none⟩) (Kd.R_far (p := ⟨gb186, 0, none⟩) (Kd.R_types HO180.out BK186.out (by decide)) (fun _ hk => hk.2) (.string t175)) (fun _ hk => hk.2) (.int .i64 t176)) (fun _ hk => hk.2) (.int .i64 t177)) (fun _ hk => hk.2) (.slice Ao52 t178.length co52)) (fun _ hk => hk.2) (.int .i64 t181)) (fun _ hk => hk.2) (.int .i64 t182)) (fun _ hk => hk.2) (.int .i64 t183)) (fun _ hk => hk.2) (.int .i64 t184)) (fun _ hk => hk.2) (.int .i64 t185)) (fun _ h_ => h_.1))) (Kd.R_typed au6_2) (by decide) hg); have n3_ := Aside0.mk (blk_grown (g := gb186) (o := .cells #[.string t175, .int .i64 t176, .int .i64 t177, .slice Ao52 t178.length co52, .int .i64 t181, .int .i64 t182, .int .i64 t183, .int .i64 t184, .int .i64 t185] 64 (0, 0)) (by (with_reducible repeat (first | refine blk_drewN ?_ _ | refine blk_drew ?_ | refine blk_alloc ?_ _)); refine blk_put (cs := #[.string t175, .int .i64 t176, .int .i64 t177, .slice Ao52 t178.length co52, .int .i64 t181, .int .i64 t182, .int .i64 t183, .int .i64 t184, .int .i64 0]) ?_ 8 _ rfl; (with_reducible repeat (first | refine blk_drewN ?_ _ | refine blk_drew ?_ | refine blk_alloc ?_ _)); refine blk_put (cs := #[.string t175, .int .i64 t176, .int .i64 t177, .slice Ao52 t178.length co52, .int .i64 t181, .int .i64 t182, .int .i64 t183, .int .i64 0, .int .i64 0]) ?_ 7 _ rfl; (with_reducible repeat (first | refine blk_drewN ?_ _ | refine blk_drew ?_ | refine blk_alloc ?_ _)); refine blk_put (cs := #[.string t175, .int .i64 t176, .int .i64 t177, .slice Ao52 t178.length co52, .int .i64 t181, .int .i64 t182, .int .i64 0, .int .i64 0, .int .i64 0]) ?_ 6 _ rfl; (with_reducible repeat (first | refine blk_drewN ?_ _ | refine blk_drew ?_ | refine blk_alloc ?_ _)); refine blk_put (cs := #[.string t175, .int .i64 t176, .int .i64 t177, .slice Ao52 t178.length co52, .int .i64 t181, .int .i64 0, .int .i64 0, .int .i64 0, .int .i64 0]) ?_ 5 _ rfl; (with_reducible repeat (first | refine blk_drewN ?_ _ | refine blk_drew ?_ | refine blk_alloc ?_ _)); refine blk_put (cs := #[.string t175, .int .i64 t176, .int .i64 t177, .slice Ao52 t178.length co52, .int .i64 0, .int .i64 0, .int .i64 0, .int .i64 0, .int .i64 0]) ?_ 4 _ rfl; (with_reducible repeat (first | refine blk_drewN ?_ _ | refine blk_drew ?_ | refine blk_alloc ?_ _)); refine blk_put (cs := #[.string t175, .int .i64 t176, .int .i64 t177, .slice none 0 0, .int .i64 0, .int .i64 0, .int .i64 0, .int .i64 0, .int .i64 0]) ?_ 3 _ rfl; (with_reducible repeat (first | refine blk_drewN ?_ _ | refine blk_drew ?_ | refine blk_alloc ?_ _)); refine blk_put (cs := #[.string t175, .int .i64 t176, .int .i64 0, .slice none 0 0, .int .i64 0, .int .i64 0, .int .i64 0, .int .i64 0, .int .i64 0]) ?_ 2 _ rfl; (with_reducible repeat (first | refine blk_drewN ?_ _ | refine blk_drew ?_ | refine blk_alloc ?_ _)); refine blk_put (cs := #[.string t175, .int .i64 0, .int .i64 0, .slice none 0 0, .int .i64 0, .int .i64 0, .int .i64 0, .int .i64 0, .int .i64 0]) ?_ 1 _ rfl; (with_reducible repeat (first | refine blk_drewN ?_ _ | refine blk_drew ?_ | refine blk_alloc ?_ _)); refine blk_put (cs := #[.string (⟨#[]⟩ : ByteArray), .int .i64 0, .int .i64 0, .slice none 0 0, .int .i64 0, .int .i64 0, .int .i64 0, .int .i64 0, .int .i64 0]) ?_ 0 _ rfl; (with_reducible repeat (first | refine blk_drewN ?_ _ | refine blk_drew ?_ | refine blk_alloc ?_ _)); exact BK186.out) hg (Kd.R_ne HO_5.out BK186.out (by decide))); have n4_ := Aside0.mk (hb); have n5_ := Aside0.mk (ho); clear HO_174003; clear BK173; clear HO180; clear BK186; clear HB; clear HO_5; have HO_174003 := n0_; have BK173 := n1_; have HO180 := n2_; have BK186 := n3_; have HB := n4_; have HO192 := n5_; clear n0_ n1_ n2_ n3_ n4_ n5_; clear ho hb hg hat))
                          go_roundg k3
                          case measure => have := HJ2.out; have := HK2.out; have := HK3.out; omega
                          case rel => exact ⟨(y190), (wrap64 (x8_3 + 1)), (x174000_3), (x174001_3), (x174002_3), (x174003_3), (.slice Ao44 x174003_3.length co44), er_, H', ⟨by have := HJ2.out; have := HK2.out; have := HK3.out; omega⟩, ⟨rk_ HO192⟩, ⟨by (with_reducible repeat (first | apply Kd.R_alloc | apply Kd.R_drewN | apply Kd.R_drew)); exact Kd.R_mono HO_174003.out (fun _ hk => trivial)⟩, ⟨bk_ BK173⟩, ⟨bl_⟩⟩
                        · rw [if_neg c43] at H
                          exact absurd H (by simp)
                    · rw [if_neg c20] at H
                      exact absurd H (by simp)
                  · rw [if_neg c19] at H
                    have c19b0 : decide (x8_3 < (l1.length : Int)) = false := decide_eq_false c19
                    clear c19
                    obtain rfl := Option.some.inj H
                    go_wp2
                    go_ret
                    exact ⟨_, au6_7, rk_ HO_5, bl_⟩

end Go.Proofs.Ytjffakoifpldeaa.PFnWindow
