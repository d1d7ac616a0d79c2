-- printed by a program of this session (wip/xp/xprint.py) out of the translation; Lean checks it
import Derived.Test.YtlghcbmkhdibdaaGreatDoorPFnExactIxSegmentsx0
import Derived.Test.YtlghcbmkhdibdaaGreatDoorPFnExactIxSegmentsx1
namespace Go.Proofs.YtlghcbmkhdibdaaGreatDoor.PFnExactIxSegments
open Go.RowKit Go.Proofs.YtlghcbmkhdibdaaGreatDoorW.PrintWords Go.Proofs.YtlghcbmkhdibdaaGreatDoorW.PrintLast Go.Proofs.YtlghcbmkhdibdaaGreatDoorW.PrintMore
attribute [local go_sem] max2_int min2_int max_two min_two max_three min_three max_four min_four   -- for this text's walks alone
set_option linter.unusedVariables false
set_option linter.unusedSimpArgs false
set_option maxHeartbeats 8000000
set_option maxRecDepth 100000

theorem au2_0 {p : Prop} (h : p := by first | rfl | (simp [errW_none, errW_some] <;> rfl) | (simp [*, errW_none, errW_some] <;> rfl)) : p := h
theorem au2_1 {p : Prop} (h : p := by (with_reducible repeat (first | apply Kd.S_alloc | apply Kd.S_drewN | apply Kd.S_drew)); exact HO_3.out) : p := h
theorem au2_3 {p : Prop} (h : p := by (with_reducible repeat (first | apply Kd.S_alloc | apply Kd.S_drewN | apply Kd.S_drew)); exact HO_3.out) : p := h
theorem au2_4 {p : Prop} (h : p := by repeat (first | exact HR0.out | (with_reducible refine Kd.C_alloc ?_ _) | (with_reducible refine Kd.C_drewN ?_ _) | (with_reducible refine Kd.C_drew ?_))) : p := h
theorem au2_5 {p : Prop} (h : p := by repeat (first | exact (Kd.C_below HR0_1.out HB.out) | (with_reducible refine Kd.C_alloc ?_ _) | (with_reducible refine Kd.C_drewN ?_ _) | (with_reducible refine Kd.C_drew ?_))) : p := h
theorem au2_6 {p : Prop} (h : p := by have g_ := (Kd.S_R HO_3.out).1 k_ e_.symm; first | exact g_.1.1 | exact g_.1 | exact g_.1.1.1) : p := h
theorem au2_7 {p : Prop} (h : p := by first | exact hk.1.1 | exact hk.1 | exact hk.1.1.1) : p := h
theorem au2_8 {p : Prop} (h : p := by repeat (first | exact (Kd.C_below HR0_3.out HB.out) | (with_reducible refine Kd.C_alloc ?_ _) | (with_reducible refine Kd.C_drewN ?_ _) | (with_reducible refine Kd.C_drew ?_))) : p := h
theorem au2_9 {p : Prop} (h : p := by (with_reducible repeat (first | apply Kd.S_alloc | apply Kd.S_drewN | apply Kd.S_drew)); exact Kd.S_mono HO_3.out (fun k_ hk => ⟨trivial, Nat.not_le.2 hk.1⟩)) : p := h
theorem au2_10 {p : Prop} (h : p := by (with_reducible repeat (first | apply Kd.S_alloc | apply Kd.S_drewN | apply Kd.S_drew)); exact HO195.out) : p := h
theorem au2_11 {p : Prop} (h : p := by repeat (first | exact (Kd.C_below HR358_1.out HB.out) | (with_reducible refine Kd.C_alloc ?_ _) | (with_reducible refine Kd.C_drewN ?_ _) | (with_reducible refine Kd.C_drew ?_))) : p := h
theorem au2_12 {p : Prop} (h : p := by repeat (first | exact (Kd.C_below HR366_1.out HB.out) | (with_reducible refine Kd.C_alloc ?_ _) | (with_reducible refine Kd.C_drewN ?_ _) | (with_reducible refine Kd.C_drew ?_))) : p := h
theorem au2_13 {p : Prop} (h : p := by repeat (first | exact (Kd.C_below HR376_2.out HB.out) | (with_reducible refine Kd.C_alloc ?_ _) | (with_reducible refine Kd.C_drewN ?_ _) | (with_reducible refine Kd.C_drew ?_))) : p := h
theorem au2_14 {p : Prop} (h : p := by first | rfl | (simp [errW_none, errW_some] <;> rfl) | (simp only [← hji17]; first | rfl | (simp [errW_none, errW_some] <;> rfl)) | (simp [*, errW_none, errW_some] <;> rfl)) : p := h
theorem au2_15 {p : Prop} (h : p := by first | exact Kd.R_nil _ _ _ _ _ | exact Kd.S_nil _ _ _ _ _) : p := h
theorem au2_16 {p : Prop} (h : p := by rintro w' ⟨s0, s1⟩; go_simp; with_reducible rfl) : p := h
theorem au2_2 {p : Prop} (h : p := by exact (by (with_reducible repeat (first | apply Kd.S_alloc | apply Kd.S_drewN | apply Kd.S_drew)); exact Kd.S_mono HO_3.out (fun k_ hk => ⟨trivial, fun h9_ => Nat.not_le.2 au2_7 h9_.1⟩))) : p := h

/-! ### F6: function 6 -/
mutual
def F6.l0 : Nat → List (S49) → Int → ByteArray → ByteArray → Int → List (S53) → Option ((List (S49)))
  | 0, _, _, _, _, _, _ => none
  | k + 1, x3, x4, x193000, x193001, x193002, x193003 => if x4 < (x193003.length : Int) then (if 0 ≤ x4 then ((F24.f k (⟨#[71, 82, 72]⟩ : ByteArray) ((rd_T53 x193003 x4).f0) ((rd_T53 x193003 x4).f1)).bind fun bt213 => (if x3.length < 3518437208883 then (F6.l1 k (x3 ++ [(⟨bt213.1, bt213.2⟩ : S49)]) x4 0 x193000 x193001 x193002 x193003 ((rd_T53 x193003 x4).f0) ((rd_T53 x193003 x4).f1) ((rd_T53 x193003 x4).f2)) else (none))) else (none)) else ((F24.f k (⟨#[73, 88, 84]⟩ : ByteArray) (x193003.length : Int) x193002).bind fun bt204 => (if x3.length < 3518437208883 then (some (x3 ++ [(⟨bt204.1, bt204.2⟩ : S49)])) else (none)))
def F6.l1 : Nat → List (S49) → Int → Int → ByteArray → ByteArray → Int → List (S53) → Int → Int → List (S56) → Option ((List (S49)))
  | 0, _, _, _, _, _, _, _, _, _, _ => none
  | k + 1, x3, x4, x6, x193000, x193001, x193002, x193003, x213000, x213001, x213002 => if x6 < (x213002.length : Int) then (if 0 ≤ x6 then ((F26.f k ((rd_T56 x213002 x6).f0)).bind fun t229 => ((F25.f k (⟨#[77, 83, 72]⟩ : ByteArray) (([t229] : List ByteArray))).bind fun bt233 => (if x3.length < 3518437208883 then (F6.l2 k (x3 ++ [(⟨bt233.1, bt233.2⟩ : S49)]) x4 x6 0 x193000 x193001 x193002 x193003 x213000 x213001 x213002 ((rd_T56 x213002 x6).f0) ((rd_T56 x213002 x6).f1)) else (none)))) else (none)) else ((F24.f k (⟨#[71, 82, 84]⟩ : ByteArray) (x213002.length : Int) x213001).bind fun bt220 => (if x3.length < 3518437208883 then (F6.l0 k (x3 ++ [(⟨bt220.1, bt220.2⟩ : S49)]) (wrap64 (x4 + 1)) x193000 x193001 x193002 x193003) else (none)))
def F6.l2 : Nat → List (S49) → Int → Int → Int → ByteArray → ByteArray → Int → List (S53) → Int → Int → List (S56) → Int → List (S49) → Option ((List (S49)))
  | 0, _, _, _, _, _, _, _, _, _, _, _, _, _ => none
  | k + 1, x3, x4, x6, x8, x193000, x193001, x193002, x193003, x213000, x213001, x213002, x229000, x229001 => if x8 < (x229001.length : Int) then (if 0 ≤ x8 then ((F27.f k ((rd_T49 x229001 x8).f0) ((rd_T49 x229001 x8).f1)).bind fun bt241 => (if x3.length < 3518437208883 then (F6.l2 k (x3 ++ [(⟨bt241.1, bt241.2⟩ : S49)]) x4 x6 (wrap64 (x8 + 1)) x193000 x193001 x193002 x193003 x213000 x213001 x213002 x229000 x229001) else (none))) else (none)) else ((F24.f k (⟨#[77, 83, 84]⟩ : ByteArray) (x229001.length : Int) x229000).bind fun bt248 => (if x3.length < 3518437208883 then (F6.l1 k (x3 ++ [(⟨bt248.1, bt248.2⟩ : S49)]) x4 (wrap64 (x6 + 1)) x193000 x193001 x193002 x193003 x213000 x213001 x213002) else (none)))
end
def F6.f (k : Nat) (a0_0 : ByteArray) (a0_1 : ByteArray) (a0_2 : Int) (l0_3 : List (S53)) : Option ((List (S49))) := (some (([] : List (S49)) : List (S49))).bind fun y193 => ((F15.f k a0_0 a0_1 a0_2 l0_3).bind fun t196 => (if t196 = true then ((F23.f k a0_0 a0_1 a0_2 l0_3).bind fun bt197 => (if y193.length < 3518437208883 then (F6.l0 k (y193 ++ [(⟨bt197.1, bt197.2⟩ : S49)]) 0 a0_0 a0_1 a0_2 l0_3) else (none))) else (some y193)))
theorem F6.mono_l : ∀ k, (∀ y0 y1 y2 y3 y4 y5, LeO (F6.l0 k y0 y1 y2 y3 y4 y5) (F6.l0 (k + 1) y0 y1 y2 y3 y4 y5)) ∧ (∀ y0 y1 y2 y3 y4 y5 y6 y7 y8 y9, LeO (F6.l1 k y0 y1 y2 y3 y4 y5 y6 y7 y8 y9) (F6.l1 (k + 1) y0 y1 y2 y3 y4 y5 y6 y7 y8 y9)) ∧ (∀ y0 y1 y2 y3 y4 y5 y6 y7 y8 y9 y10 y11 y12, LeO (F6.l2 k y0 y1 y2 y3 y4 y5 y6 y7 y8 y9 y10 y11 y12) (F6.l2 (k + 1) y0 y1 y2 y3 y4 y5 y6 y7 y8 y9 y10 y11 y12))
 | 0 => ⟨fun _ _ _ _ _ _ r h => by simp [F6.l0] at h, fun _ _ _ _ _ _ _ _ _ _ r h => by simp [F6.l1] at h, fun _ _ _ _ _ _ _ _ _ _ _ _ _ r h => by simp [F6.l2] at h⟩
 | k + 1 => by
  obtain ⟨ih0, ih1, ih2⟩ := F6.mono_l k
  refine ⟨?_, ?_, ?_⟩
  rotate_left
  ·intro y0 y1 y2 y3 y4 y5 y6 y7 y8 y9
   unfold F6.l1
   repeat' with_reducible first | exact ih0 _ _ _ _ _ _ | exact ih1 _ _ _ _ _ _ _ _ _ _ | exact ih2 _ _ _ _ _ _ _ _ _ _ _ _ _ | exact F15.mono _ _ _ _ _ | exact F26.mono _ _ | exact F27.mono _ _ _ | exact F23.mono _ _ _ _ _ | exact F25.mono _ _ _ | exact F24.mono _ _ _ _ | exact LeO.refl _ | exact LeO.none _ | refine LeO.ite ?_ ?_ | refine LeO.bind ?_ (fun _ => ?_)
  ·intro y0 y1 y2 y3 y4 y5 y6 y7 y8 y9 y10 y11 y12
   unfold F6.l2
   repeat' with_reducible first | exact ih0 _ _ _ _ _ _ | exact ih1 _ _ _ _ _ _ _ _ _ _ | exact ih2 _ _ _ _ _ _ _ _ _ _ _ _ _ | exact F15.mono _ _ _ _ _ | exact F26.mono _ _ | exact F27.mono _ _ _ | exact F23.mono _ _ _ _ _ | exact F25.mono _ _ _ | exact F24.mono _ _ _ _ | exact LeO.refl _ | exact LeO.none _ | refine LeO.ite ?_ ?_ | refine LeO.bind ?_ (fun _ => ?_)
  intro y0 y1 y2 y3 y4 y5
  unfold F6.l0
  repeat' with_reducible first | exact ih0 _ _ _ _ _ _ | exact ih1 _ _ _ _ _ _ _ _ _ _ | exact ih2 _ _ _ _ _ _ _ _ _ _ _ _ _ | exact F15.mono _ _ _ _ _ | exact F26.mono _ _ | exact F27.mono _ _ _ | exact F23.mono _ _ _ _ _ | exact F25.mono _ _ _ | exact F24.mono _ _ _ _ | exact LeO.refl _ | exact LeO.none _ | refine LeO.ite ?_ ?_ | refine LeO.bind ?_ (fun _ => ?_)
theorem F6.mono : ∀ a0 a1 a2 a3 k, LeO (F6.f k a0 a1 a2 a3) (F6.f (k + 1) a0 a1 a2 a3) := by
 intro a0 a1 a2 a3 k
 obtain ⟨ih0, ih1, ih2⟩ := F6.mono_l k
 unfold F6.f
 repeat' with_reducible first | exact ih0 _ _ _ _ _ _ | exact ih1 _ _ _ _ _ _ _ _ _ _ | exact ih2 _ _ _ _ _ _ _ _ _ _ _ _ _ | exact F15.mono _ _ _ _ _ | exact F26.mono _ _ | exact F27.mono _ _ _ | exact F23.mono _ _ _ _ _ | exact F25.mono _ _ _ | exact F24.mono _ _ _ _ | exact LeO.refl _ | exact LeO.none _ | refine LeO.ite ?_ ?_ | refine LeO.bind ?_ (fun _ => ?_)
theorem F6.calls (k : Nat) (a0_0 : ByteArray) (a0_1 : ByteArray) (a0_2 : Int) (A0_3 : Option Addr) (c0_3 : Nat) (l0_3 : List (S53)) (r : List (S49)) (w : World) (hr0_3 : Kd.C k53 w A0_3 l0_3.length l0_3) (hc0_3 : l0_3.length ≤ c0_3) (h : F6.f k a0_0 a0_1 a0_2 l0_3 = some r) :
  Calls Tryz.prog 6 #[.agg #[.string a0_0, .string a0_1, .int .i64 a0_2, .slice A0_3 l0_3.length c0_3]] w fun e w' => ∃ v0_ : Value, e = .returned (v0_) ∧ Kd.S k49 49 w' w.heap.size (fun _ => True) v0_ r ∧ Below w.heap.size w w' := by
 have hu30 := Tryz.underlying30
 have hu53 := Tryz.underlying53
 have hu56 := Tryz.underlying56
 have hu49 := Tryz.underlying49
 have HR0_3 := am_ hr0_3
 have HC0_3 := am_ hc0_3
 clear hr0_3 hc0_3
 have HB := am_ (Below.refl w.heap.size w)
 have H : ((some (([] : List (S49)) : List (S49))).bind fun y193 => ((F15.f k a0_0 a0_1 a0_2 l0_3).bind fun t196 => (if t196 = true then ((F23.f k a0_0 a0_1 a0_2 l0_3).bind fun bt197 => (if y193.length < 3518437208883 then (F6.l0 k (y193 ++ [(⟨bt197.1, bt197.2⟩ : S49)]) 0 a0_0 a0_1 a0_2 l0_3) else (none))) else (some y193)))) = some r := h
 clear h
 obtain ⟨y193, hy193⟩ : ∃ y_ : List (S49), y_ = (([] : List (S49))) := ⟨_, rfl⟩
 replace H : ((F15.f k a0_0 a0_1 a0_2 l0_3).bind fun t196 => (if t196 = true then ((F23.f k a0_0 a0_1 a0_2 l0_3).bind fun bt197 => (if y193.length < 3518437208883 then (F6.l0 k (y193 ++ [(⟨bt197.1, bt197.2⟩ : S49)]) 0 a0_0 a0_1 a0_2 l0_3) else (none))) else (some y193))) = some r := by first | (rw [hy193]; exact H) | exact H
 have Ny193 := am_ hy193
 clear hy193
 replace H := bi_ H; rcases H with ⟨t196, A2, H⟩
 replace H := ib_ H; rcases H with ⟨rfl, H⟩ | ⟨rfl, H⟩
 rotate_left
 ·obtain rfl := Option.some.inj H
  go_enter Tryz.func6, Tryz.ntmps6
  go_wp2_with (first | ((with_reducible refine gate_dst (N := 1) rfl ?_); refine be_ 1 #[.string a0_0, .string a0_1, .int .i64 a0_2, .slice A0_3 l0_3.length c0_3] 30 ?_; intro gb192 hg w75 hbox hb; have BK192 := am_ (hbox); have GW192 := am_ (gw_ hg bl_); have GE192 := GW192; replace HB := hs_ w hb; clear hb hbox hg) | ((with_reducible refine gate_dst (N := 9) rfl ?_); refine Kd.S_lit k49 _ 49 ?hg (N := 9) ?hd (xs := ([] : List (S49))) (inner := []) (ok := fun _ => True) (okp := fun _ => True) ?hr ?hp (fun _ hk => hk) trivial (Below.refl _ _) (Nat.le_refl _) (by simp) ?_; (case hd => rfl); (case hg => rfl); (case hr => exact hr_); (case hp => exact (Reps.none _ _)); intro v194 w76 ho77 hb hg_ hnew_; clear hg_ hnew_; (first | rw [← Ny193.out] at ho77 | (simp only [Int.reduceToNat] at ho77; rw [← Ny193.out] at ho77)); have HO195 := am_ (Kd.S_lower ho77 (below_size bl_)); replace BK192 := bb_ BK192 hb; replace HB := hs_ w hb; clear hb ho77; obtain ⟨hcz78_0, hcz78_1, hcz78_2, hcz78_3, hfz78_0, hfz78_1, hfz78_2, hfz78_3⟩ := cellsF4 BK192.out) | (go_at_call 15; (with_reducible refine (F15.calls k a0_0 a0_1 a0_2 _ _ l0_3 false _ ?s1 ?s2 A2.out).mono ?_); (case s1 => exact au2_8); (case s2 => exact HC0_3.out); rintro e w79 ⟨rfl, hb⟩; (try clear A2); replace HO195 := am_ (Kd.S_below au2_10 hb); replace BK192 := bb_ BK192 hb; replace HB := hs_ w hb; (try clear hb); (try clear hb2); (try clear hk); (try clear hi)))
  go_ret
  exact ⟨_, au2_0, by (with_reducible repeat (first | apply Kd.S_alloc | apply Kd.S_drewN | apply Kd.S_drew)); exact HO195.out, bl_⟩

 replace H := bi_ H; rcases H with ⟨⟨t197, t198⟩, A4, H⟩
 replace H := iln_ H; rcases H with ⟨LMc5, H⟩
 obtain ⟨y201, hy201⟩ : ∃ y_ : List (S49), y_ = (y193 ++ [(⟨t197, t198⟩ : S49)]) := ⟨_, rfl⟩
 replace H : (F6.l0 k y201 0 a0_0 a0_1 a0_2 l0_3) = some r := by first | (rw [hy201]; exact H) | exact H
 have Ny201 := am_ hy201
 clear hy201
 have H' := am_ H
 clear H
 go_enter Tryz.func6, Tryz.ntmps6
 go_wp2_with (first | ((with_reducible refine gate_dst (N := 1) rfl ?_); refine be_ 1 #[.string a0_0, .string a0_1, .int .i64 a0_2, .slice A0_3 l0_3.length c0_3] 30 ?_; intro gb192 hg w6 hbox hb; have BK192 := am_ (hbox); have GW192 := am_ (gw_ hg bl_); have GE192 := GW192; replace HB := hs_ w hb; clear hb hbox hg) | ((with_reducible refine gate_dst (N := 9) rfl ?_); refine Kd.S_lit k49 _ 49 ?hg (N := 9) ?hd (xs := ([] : List (S49))) (inner := []) (ok := fun _ => True) (okp := fun _ => True) ?hr ?hp (fun _ hk => hk) trivial (Below.refl _ _) (Nat.le_refl _) (by simp) ?_; (case hd => rfl); (case hg => rfl); (case hr => exact hr_); (case hp => exact (Reps.none _ _)); intro v194 w7 ho8 hb hg_ hnew_; clear hg_ hnew_; (first | rw [← Ny193.out] at ho8 | (simp only [Int.reduceToNat] at ho8; rw [← Ny193.out] at ho8)); have HO195 := am_ (Kd.S_lower ho8 (below_size bl_)); replace BK192 := bb_ BK192 hb; replace HB := hs_ w hb; clear hb ho8; obtain ⟨hcz9_0, hcz9_1, hcz9_2, hcz9_3, hfz9_0, hfz9_1, hfz9_2, hfz9_3⟩ := cellsF4 BK192.out) | (go_at_call 15; (with_reducible refine (F15.calls k a0_0 a0_1 a0_2 _ _ l0_3 true _ ?s1 ?s2 A2.out).mono ?_); (case s1 => exact au2_8); (case s2 => exact HC0_3.out); rintro e w10 ⟨rfl, hb⟩; (try clear A2); replace HO195 := am_ (Kd.S_below au2_10 hb); replace BK192 := bb_ BK192 hb; replace HB := hs_ w hb; (try clear hb); (try clear hb2); (try clear hk); (try clear hi); obtain ⟨hcz11_0, hcz11_1, hcz11_2, hcz11_3, hfz11_0, hfz11_1, hfz11_2, hfz11_3⟩ := cellsF4 BK192.out) | (go_at_call 23; (with_reducible refine (F23.calls k a0_0 a0_1 a0_2 _ _ l0_3 t197 t198 _ ?s1 ?s2 A4.out).mono ?_); (case s1 => exact au2_8); (case s2 => exact HC0_3.out); rintro e w12 ⟨v199, rfl, ho0, hb⟩; (try clear A4); obtain ⟨b9_, hb9_, ho9_⟩ := nb9_ ho0; replace HO195 := am_ (Kd.S_elder' (Kd.S_mono (Kd.S_bound au2_10) (fun k_ hk_ => (⟨hb9_ _ hk_.2.2.1, hk_.1⟩ : k_ < b9_ ∧ _))) (Kd.S_base ho0) hb); have HO200 := am_ (Kd.S_lower ho9_ (below_size bl_)); replace BK192 := bb_ BK192 hb; replace HB := hs_ w hb; (try clear hb); (try clear hb2); (try clear hk); (try clear hi); (try clear ho0); obtain ⟨Ao14, co14, eo14⟩ := Kd.S_slice HO200.out; subst eo14) | ((with_reducible refine gate_builtin (b := .append) (xs := #[.tmp 14, .tmp 17]) rfl ?_); at_builtin; refine Kd.S_append k49 (w0 := w) w.heap.size rfl (.tmp 14) (.tmp 17) 26 49 (.agg #[(.string ⟨#[]⟩), (.slice none 0 0)]) 40 rfl Tryz.underlying26 info49 rfl (by decide) (by omega) v194 y193 (⟨t197, t198⟩ : S49) [.string t197, .slice Ao14 t198.length co14] (fun _ => True) (fun k_ => b9_ ≤ k_ ∧ (fun _ => True) k_) rfl rfl ?aP (fun k_ hk_ => ⟨hk_.2, fun e_ => Nat.not_le.2 (by have g_ := (Kd.S_R HO195.out).1 k_ e_.symm; first | exact g_.1.1 | exact g_.1 | exact g_.1.1.1) hk_.1⟩) ?aF ?aO ?aB ?aS ?aL ?_; (case aP => exact k49_mkM _ _ _ (⟨t197, t198⟩ : S49) (Kd.S_mono (Kd.S_apart' (HO200.out) (Kd.S_typed HO195.out) (by decide)) (fun k_ hk => ⟨au2_7, (show ((fun _ => True)) k_ ∧ some k_ ≠ (v194 : Value).ownBlock from ⟨trivial, hk.2⟩).1⟩))); (case aB => exact bl_); (case aF => exact (fun _ _ => trivial)); (case aO => exact (by (with_reducible repeat (first | apply Kd.S_alloc | apply Kd.S_drewN | apply Kd.S_drew)); exact Kd.S_mono HO195.out (fun k_ hk => ⟨trivial, fun h9_ => Nat.not_le.2 au2_7 h9_.1⟩))); (case aS => exact (below_size bl_)); (case aL => have := LMc5.out; omega); intro v202 w13 ho hb hg hat; rw [← Ny201.out] at ho; have n0_ := am_ (bg_ BK192 hg (Kd.S_ne HO195.out BK192.out (by decide))); have n1_ := am_ (hb); have n2_ := am_ (ho); clear BK192; clear HB; clear HO195; clear HO200; have BK192 := n0_; have HB := n1_; have HO203 := n2_; clear n0_ n1_ n2_; clear ho hb hg hat))
 go_loopg [3, 4] k (fun kq v3 v4 w' => ∃ (x3_1 : List (S49)) (x4_1 : Int), v4 = .int .i64 x4_1 ∧ Aside0 (F6.l0 kq x3_1 x4_1 a0_0 a0_1 a0_2 l0_3 = some r) ∧ Aside0 (kq ≤ k) ∧ Aside0 (Kd.S k49 49 w' w.heap.size (fun _ => True) v3 x3_1) ∧ Aside0 (w'.heap[gb192]? = some (.cells #[.string a0_0, .string a0_1, .int .i64 a0_2, (.slice A0_3 l0_3.length c0_3)] 30 (0, 0))) ∧ Aside0 (Below w.heap.size w w'))
 case atStart => exact ⟨(y201), (0), er_, H', ⟨Nat.le_refl _⟩, ⟨by (with_reducible repeat (first | apply Kd.S_alloc | apply Kd.S_drewN | apply Kd.S_drew)); exact HO203.out⟩, ⟨bk_ BK192⟩, ⟨bl_⟩⟩
 case round =>
  clear H'
  try clear hcz11_0 hcz11_1 hcz11_2 hcz11_3
  try clear hcz9_0 hcz9_1 hcz9_2 hcz9_3
  try clear hfz11_0 hfz11_1 hfz11_2 hfz11_3
  try clear hfz9_0 hfz9_1 hfz9_2 hfz9_3
  obtain ⟨x3_1, x4_1, rfl, HA, HK1, HO_3, BK192, HB⟩ := hrel
  cases gk with
  | zero => exact absurd HA.out (by simp [F6.l0])
  | succ k1 =>
   have H := HA.out
   clear HA
   simp only [F6.l0] at H
   replace H := it_ H; rcases H with ⟨c15b0, H⟩ | ⟨c15b0, H⟩
   rotate_left
   ·replace H := bi_ H; rcases H with ⟨⟨t204, t205⟩, A69, H⟩
    replace H := iln_ H; rcases H with ⟨LMc70, H⟩
    obtain ⟨y208, hy208⟩ : ∃ y_ : List (S49), y_ = (x3_1 ++ [(⟨t204, t205⟩ : S49)]) := ⟨_, rfl⟩
    replace H : (some y208) = some r := by first | (rw [hy208]; exact H) | exact H
    have Ny208 := am_ hy208
    clear hy208
    obtain rfl := Option.some.inj H
    obtain ⟨hcz71_0, hcz71_1, hcz71_2, hcz71_3, hfz71_0, hfz71_1, hfz71_2, hfz71_3⟩ := cellsF4 BK192.out
    go_wp2_with (first | (go_at_call 24; (with_reducible refine (F24.calls k1 (⟨#[73, 88, 84]⟩ : ByteArray) (l0_3.length : Int) a0_2 t204 t205 _ A69.out).mono ?_); rintro e w72 ⟨v206, rfl, ho0, hb⟩; (try clear A69); obtain ⟨b9_, hb9_, ho9_⟩ := nb9_ ho0; replace HO_3 := am_ (Kd.S_elder' (Kd.S_mono (Kd.S_bound au2_1) (fun k_ hk_ => (⟨hb9_ _ hk_.2.2.1, hk_.1⟩ : k_ < b9_ ∧ _))) (Kd.S_base ho0) hb); have HO207 := am_ (Kd.S_lower ho9_ (below_size bl_)); replace BK192 := bb_ BK192 hb; replace HB := hs_ w hb; (try clear hb); (try clear hb2); (try clear hk); (try clear hi); (try clear ho0); obtain ⟨Ao74, co74, eo74⟩ := Kd.S_slice HO207.out; subst eo74) | ((with_reducible refine gate_builtin (b := .append) (xs := #[.tmp 93, .tmp 100]) rfl ?_); at_builtin; refine Kd.S_append k49 (w0 := w) w.heap.size rfl (.tmp 93) (.tmp 100) 26 49 (.agg #[(.string ⟨#[]⟩), (.slice none 0 0)]) 40 rfl Tryz.underlying26 info49 rfl (by decide) (by omega) u3 x3_1 (⟨t204, t205⟩ : S49) [.string t204, .slice Ao74 t205.length co74] (fun _ => True) (fun k_ => b9_ ≤ k_ ∧ (fun _ => True) k_) rfl rfl ?aP (fun k_ hk_ => ⟨hk_.2, fun e_ => Nat.not_le.2 au2_6 hk_.1⟩) ?aF ?aO ?aB ?aS ?aL ?_; (case aP => exact k49_mkM _ _ _ (⟨t204, t205⟩ : S49) (Kd.S_mono (Kd.S_apart' (HO207.out) (Kd.S_typed HO_3.out) (by decide)) (fun k_ hk => ⟨au2_7, (show ((fun _ => True)) k_ ∧ some k_ ≠ (u3 : Value).ownBlock from ⟨trivial, hk.2⟩).1⟩))); (case aB => exact bl_); (case aF => exact (fun _ _ => trivial)); (case aO => exact au2_2); (case aS => exact (below_size bl_)); (case aL => have := LMc70.out; omega); intro v209 w73 ho hb hg hat; rw [← Ny208.out] at ho; have n0_ := am_ (bg_ BK192 hg (Kd.S_ne HO_3.out BK192.out (by decide))); have n1_ := am_ (hb); have n2_ := am_ (ho); clear BK192; clear HB; clear HO_3; clear HO207; have BK192 := n0_; have HB := n1_; have HO210 := n2_; clear n0_ n1_ n2_; clear ho hb hg hat))
    go_ret
    exact ⟨_, au2_0, by (with_reducible repeat (first | apply Kd.S_alloc | apply Kd.S_drewN | apply Kd.S_drew)); exact HO210.out, bl_⟩
   replace H := itn_ H; rcases H with ⟨c16b0, H⟩
   replace H := bi_ H; rcases H with ⟨⟨t213, t214⟩, A17, H⟩
   replace H := iln_ H; rcases H with ⟨LMc18, H⟩
   obtain ⟨y217, hy217⟩ : ∃ y_ : List (S49), y_ = (x3_1 ++ [(⟨t213, t214⟩ : S49)]) := ⟨_, rfl⟩
   replace H : (F6.l1 k1 y217 x4_1 0 a0_0 a0_1 a0_2 l0_3 ((rd_T53 l0_3 x4_1).f0) ((rd_T53 l0_3 x4_1).f1) ((rd_T53 l0_3 x4_1).f2)) = some r := by first | (rw [hy217]; exact H) | exact H
   have Ny217 := am_ hy217
   clear hy217
   have H' := am_ H
   clear H
   obtain ⟨hcz19_0, hcz19_1, hcz19_2, hcz19_3, hfz19_0, hfz19_1, hfz19_2, hfz19_3⟩ := cellsF4 BK192.out
   have p211 : 0 ≤ (x4_1 : Int) := od_
   have q211 : x4_1 < (l0_3.length : Int) := od_
   obtain ⟨ad211, A211_2, c211_2, e211, hx211_0, hx211_1, hx211_2, hl211_2, hi211_2⟩ := at_T53 HR0_3.out x4_1 p211 q211
   cases e211
   replace hx211_0 := (HB.out.cell (World.block_lt_of_cell? _ _ hx211_0)).trans hx211_0
   replace hx211_1 := (HB.out.cell (World.block_lt_of_cell? _ _ hx211_1)).trans hx211_1
   replace hx211_2 := (HB.out.cell (World.block_lt_of_cell? _ _ hx211_2)).trans hx211_2
   have HR211_2 := am_ hi211_2
   have HC211_2 := am_ hl211_2
   clear hi211_2 hl211_2
   replace p211 := eq_true p211
   replace q211 := eq_true q211
   go_wp2_with (first | ((with_reducible refine gate_dst (N := 5) rfl ?_); refine be_ 5 #[.int .i64 0, .int .i64 0, .slice none 0 0] 53 ?_; intro gb212 hg w20 hbox hb; replace HO_3 := am_ (Kd.S_below au2_1 hb); have BK212 := am_ (hbox); have GW212 := am_ (gw_ hg bl_); have GE212 := GW212; replace HB := hs_ w hb; have NB192_212 := am_ (gn_ hg (blkl_ BK192)); have NB212_192 := am_ (gm_ hg (blkl_ BK192)); replace BK192 := bb_ BK192 hb; clear hb hbox hg; have hnb21 := NB212_192.out; have hnc21 := NB192_212.out; obtain ⟨hcz22_0, hcz22_1, hcz22_2, hfz22_0, hfz22_1, hfz22_2⟩ := cellsF3 BK212.out) | (go_at_call 24; (with_reducible refine (F24.calls k1 (⟨#[71, 82, 72]⟩ : ByteArray) ((rd_T53 l0_3 x4_1).f0) ((rd_T53 l0_3 x4_1).f1) t213 t214 _ A17.out).mono ?_); rintro e w23 ⟨v215, rfl, ho0, hb⟩; (try clear A17); obtain ⟨b9_, hb9_, ho9_⟩ := nb9_ ho0; replace HO_3 := am_ (Kd.S_elder' (Kd.S_mono (Kd.S_bound (by (with_reducible repeat (first | apply Kd.S_alloc | apply Kd.S_drewN | apply Kd.S_drew)); exact (Kd.S_mono (Kd.S_far (p := ⟨gb212, 2, none⟩) (Kd.S_far (p := ⟨gb212, 1, none⟩) (Kd.S_far (p := ⟨gb212, 0, none⟩) (Kd.S_types HO_3.out BK212.out (by decide)) (fun _ hk => hk.2) (.int .i64 ((rd_T53 l0_3 x4_1).f0))) (fun _ hk => hk.2) (.int .i64 ((rd_T53 l0_3 x4_1).f1))) (fun _ hk => hk.2) (.slice A211_2 ((rd_T53 l0_3 x4_1).f2).length c211_2)) (fun _ h_ => h_.1)))) (fun k_ hk_ => (⟨hb9_ _ hk_.2.2.1, hk_.1⟩ : k_ < b9_ ∧ _))) (Kd.S_base ho0) hb); have HO216 := am_ (Kd.S_lower ho9_ (below_size bl_)); replace BK192 := am_ (blk_below (g := gb192) (o := .cells #[.string a0_0, .string a0_1, .int .i64 a0_2, .slice (some ad211) l0_3.length c0_3] 30 (0, 0)) (bf_ BK192) hb); replace BK212 := am_ (blk_below (g := gb212) (o := .cells #[.int .i64 ((rd_T53 l0_3 x4_1).f0), .int .i64 ((rd_T53 l0_3 x4_1).f1), .slice A211_2 ((rd_T53 l0_3 x4_1).f2).length c211_2] 53 (0, 0)) (bq_ BK212) hb); replace HB := hs_ w hb; (try clear hb); (try clear hb2); (try clear hk); (try clear hi); (try clear ho0); obtain ⟨Ao25, co25, eo25⟩ := Kd.S_slice HO216.out; subst eo25) | ((with_reducible refine gate_builtin (b := .append) (xs := #[.tmp 31, .tmp 37]) rfl ?_); at_builtin; refine Kd.S_append k49 (w0 := w) w.heap.size rfl (.tmp 31) (.tmp 37) 26 49 (.agg #[(.string ⟨#[]⟩), (.slice none 0 0)]) 40 rfl Tryz.underlying26 info49 rfl (by decide) (by omega) u3 x3_1 (⟨t213, t214⟩ : S49) [.string t213, .slice Ao25 t214.length co25] (fun _ => True) (fun k_ => b9_ ≤ k_ ∧ (fun _ => True) k_) rfl rfl ?aP (fun k_ hk_ => ⟨hk_.2, fun e_ => Nat.not_le.2 au2_6 hk_.1⟩) ?aF ?aO ?aB ?aS ?aL ?_; (case aP => exact k49_mkM _ _ _ (⟨t213, t214⟩ : S49) (Kd.S_mono (Kd.S_apart' (HO216.out) (Kd.S_typed HO_3.out) (by decide)) (fun k_ hk => ⟨au2_7, (show ((fun _ => True)) k_ ∧ some k_ ≠ (u3 : Value).ownBlock from ⟨trivial, hk.2⟩).1⟩))); (case aB => exact bl_); (case aF => exact (fun _ _ => trivial)); (case aO => exact au2_2); (case aS => exact (below_size bl_)); (case aL => have := LMc18.out; omega); intro v218 w24 ho hb hg hat; rw [← Ny217.out] at ho; have n0_ := am_ (bg_ BK192 hg (Kd.S_ne HO_3.out BK192.out (by decide))); have n1_ := am_ (bg_ BK212 hg (Kd.S_ne HO_3.out BK212.out (by decide))); have n2_ := am_ (hb); have n3_ := am_ (ho); clear BK192; clear BK212; clear HB; clear HO_3; clear HO216; have BK192 := n0_; have BK212 := n1_; have HB := n2_; have HO219 := n3_; clear n0_ n1_ n2_ n3_; clear ho hb hg hat))
   go_loopg [3, 6] k1 (fun kq v3 v6 w' => ∃ (x3_2 : List (S49)) (x6_2 : Int), v6 = .int .i64 x6_2 ∧ Aside0 (F6.l1 kq x3_2 x4_1 x6_2 a0_0 a0_1 a0_2 l0_3 ((rd_T53 l0_3 x4_1).f0) ((rd_T53 l0_3 x4_1).f1) ((rd_T53 l0_3 x4_1).f2) = some r) ∧ Aside0 (kq ≤ k1) ∧ Aside0 (Kd.S k49 49 w' w.heap.size (fun _ => True) v3 x3_2) ∧ Aside0 (w'.heap[gb192]? = some (.cells #[.string a0_0, .string a0_1, .int .i64 a0_2, (.slice (some ad211) l0_3.length c0_3)] 30 (0, 0))) ∧ Aside0 (w'.heap[gb212]? = some (.cells #[.int .i64 ((rd_T53 l0_3 x4_1).f0), .int .i64 ((rd_T53 l0_3 x4_1).f1), (.slice A211_2 ((rd_T53 l0_3 x4_1).f2).length c211_2)] 53 (0, 0))) ∧ Aside0 (Below w.heap.size w w'))
   case atStart => exact ⟨(y217), (0), er_, H', ⟨Nat.le_refl _⟩, ⟨by (with_reducible repeat (first | apply Kd.S_alloc | apply Kd.S_drewN | apply Kd.S_drew)); exact HO219.out⟩, ⟨bk_ BK192⟩, ⟨bk_ BK212⟩, ⟨bl_⟩⟩
   case round =>
    clear H'
    try clear c15b0
    try clear c16b0
    try clear hcz11_0 hcz11_1 hcz11_2 hcz11_3
    try clear hcz19_0 hcz19_1 hcz19_2 hcz19_3
    try clear hcz22_0 hcz22_1 hcz22_2
    try clear hcz9_0 hcz9_1 hcz9_2 hcz9_3
    try clear hfz11_0 hfz11_1 hfz11_2 hfz11_3
    try clear hfz19_0 hfz19_1 hfz19_2 hfz19_3
    try clear hfz22_0 hfz22_1 hfz22_2
    try clear hfz9_0 hfz9_1 hfz9_2 hfz9_3
    try clear hx211_0
    try clear hx211_1
    try clear hx211_2
    try clear p211
    try clear q211
    obtain ⟨x3_2, x6_2, rfl, HA, HK2, HO_3, BK192, BK212, HB⟩ := hrel
    cases gk with
    | zero => exact absurd HA.out (by simp [F6.l1])
    | succ k2 =>
     have H := HA.out
     clear HA
     simp only [F6.l1] at H
     replace H := it_ H; rcases H with ⟨c26b0, H⟩ | ⟨c26b0, H⟩
     rotate_left
     ·replace H := bi_ H; rcases H with ⟨⟨t220, t221⟩, A62, H⟩
      replace H := iln_ H; rcases H with ⟨LMc63, H⟩
      obtain ⟨y224, hy224⟩ : ∃ y_ : List (S49), y_ = (x3_2 ++ [(⟨t220, t221⟩ : S49)]) := ⟨_, rfl⟩
      replace H : (F6.l0 k2 y224 (wrap64 (x4_1 + 1)) a0_0 a0_1 a0_2 l0_3) = some r := by first | (rw [hy224]; exact H) | exact H
      have Ny224 := am_ hy224
      clear hy224
      have H' := am_ H
      clear H
      have hnb64 := NB212_192.out
      have hnc64 := NB192_212.out
      obtain ⟨hcz65_0, hcz65_1, hcz65_2, hfz65_0, hfz65_1, hfz65_2⟩ := cellsF3 BK212.out
      go_wp2_with (first | (go_at_call 24; (with_reducible refine (F24.calls k2 (⟨#[71, 82, 84]⟩ : ByteArray) (((rd_T53 l0_3 x4_1).f2).length : Int) ((rd_T53 l0_3 x4_1).f1) t220 t221 _ A62.out).mono ?_); rintro e w66 ⟨v222, rfl, ho0, hb⟩; (try clear A62); obtain ⟨b9_, hb9_, ho9_⟩ := nb9_ ho0; replace HO_3 := am_ (Kd.S_elder' (Kd.S_mono (Kd.S_bound au2_1) (fun k_ hk_ => (⟨hb9_ _ hk_.2.2.1, hk_.1⟩ : k_ < b9_ ∧ _))) (Kd.S_base ho0) hb); have HO223 := am_ (Kd.S_lower ho9_ (below_size bl_)); replace BK192 := bb_ BK192 hb; replace BK212 := bb_ BK212 hb; replace HB := hs_ w hb; (try clear hb); (try clear hb2); (try clear hk); (try clear hi); (try clear ho0); obtain ⟨Ao68, co68, eo68⟩ := Kd.S_slice HO223.out; subst eo68) | ((with_reducible refine gate_builtin (b := .append) (xs := #[.tmp 84, .tmp 91]) rfl ?_); at_builtin; refine Kd.S_append k49 (w0 := w) w.heap.size rfl (.tmp 84) (.tmp 91) 26 49 (.agg #[(.string ⟨#[]⟩), (.slice none 0 0)]) 40 rfl Tryz.underlying26 info49 rfl (by decide) (by omega) u3 x3_2 (⟨t220, t221⟩ : S49) [.string t220, .slice Ao68 t221.length co68] (fun _ => True) (fun k_ => b9_ ≤ k_ ∧ (fun _ => True) k_) rfl rfl ?aP (fun k_ hk_ => ⟨hk_.2, fun e_ => Nat.not_le.2 au2_6 hk_.1⟩) ?aF ?aO ?aB ?aS ?aL ?_; (case aP => exact k49_mkM _ _ _ (⟨t220, t221⟩ : S49) (Kd.S_mono (Kd.S_apart' (HO223.out) (Kd.S_typed HO_3.out) (by decide)) (fun k_ hk => ⟨au2_7, (show ((fun _ => True)) k_ ∧ some k_ ≠ (u3 : Value).ownBlock from ⟨trivial, hk.2⟩).1⟩))); (case aB => exact bl_); (case aF => exact (fun _ _ => trivial)); (case aO => exact au2_2); (case aS => exact (below_size bl_)); (case aL => have := LMc63.out; omega); intro v225 w67 ho hb hg hat; rw [← Ny224.out] at ho; have n0_ := am_ (bg_ BK192 hg (Kd.S_ne HO_3.out BK192.out (by decide))); have n1_ := am_ (bg_ BK212 hg (Kd.S_ne HO_3.out BK212.out (by decide))); have n2_ := am_ (hb); have n3_ := am_ (ho); clear BK192; clear BK212; clear HB; clear HO_3; clear HO223; have BK192 := n0_; have BK212 := n1_; have HB := n2_; have HO226 := n3_; clear n0_ n1_ n2_ n3_; clear ho hb hg hat))
      go_roundg k2
      case measure => have := HK1.out; have := HK2.out; omega
      case rel => exact ⟨(y224), (wrap64 (x4_1 + 1)), er_, H', ⟨by have := HK1.out; have := HK2.out; omega⟩, ⟨by (with_reducible repeat (first | apply Kd.S_alloc | apply Kd.S_drewN | apply Kd.S_drew)); exact HO226.out⟩, ⟨bk_ BK192⟩, ⟨bl_⟩⟩
     replace H := itn_ H; rcases H with ⟨c27b0, H⟩
     replace H := bi_ H; rcases H with ⟨t229, A28, H⟩
     obtain ⟨y230, hy230⟩ : ∃ y_ : List ByteArray, y_ = (([t229] : List ByteArray)) := ⟨_, rfl⟩
     replace H : ((F25.f k2 (⟨#[77, 83, 72]⟩ : ByteArray) y230).bind fun bt233 => (if x3_2.length < 3518437208883 then (F6.l2 k2 (x3_2 ++ [(⟨bt233.1, bt233.2⟩ : S49)]) x4_1 x6_2 0 a0_0 a0_1 a0_2 l0_3 ((rd_T53 l0_3 x4_1).f0) ((rd_T53 l0_3 x4_1).f1) ((rd_T53 l0_3 x4_1).f2) ((rd_T56 ((rd_T53 l0_3 x4_1).f2) x6_2).f0) ((rd_T56 ((rd_T53 l0_3 x4_1).f2) x6_2).f1)) else (none))) = some r := by first | (rw [hy230]; exact H) | exact H
     have Ny230 := am_ hy230
     clear hy230
     replace H := bi_ H; rcases H with ⟨⟨t233, t234⟩, A29, H⟩
     replace H := iln_ H; rcases H with ⟨LMc30, H⟩
     obtain ⟨y237, hy237⟩ : ∃ y_ : List (S49), y_ = (x3_2 ++ [(⟨t233, t234⟩ : S49)]) := ⟨_, rfl⟩
     replace H : (F6.l2 k2 y237 x4_1 x6_2 0 a0_0 a0_1 a0_2 l0_3 ((rd_T53 l0_3 x4_1).f0) ((rd_T53 l0_3 x4_1).f1) ((rd_T53 l0_3 x4_1).f2) ((rd_T56 ((rd_T53 l0_3 x4_1).f2) x6_2).f0) ((rd_T56 ((rd_T53 l0_3 x4_1).f2) x6_2).f1)) = some r := by first | (rw [hy237]; exact H) | exact H
     have Ny237 := am_ hy237
     clear hy237
     have H' := am_ H
     clear H
     have hnb31 := NB212_192.out
     have hnc31 := NB192_212.out
     obtain ⟨hcz32_0, hcz32_1, hcz32_2, hfz32_0, hfz32_1, hfz32_2⟩ := cellsF3 BK212.out
     have p227 : 0 ≤ (x6_2 : Int) := od_
     have q227 : x6_2 < (((rd_T53 l0_3 x4_1).f2).length : Int) := od_
     obtain ⟨ad227, A227_1, c227_1, e227, hx227_0, hx227_1, hl227_1, hi227_1⟩ := at_T56 HR211_2.out x6_2 p227 q227
     cases e227
     replace hx227_0 := (HB.out.cell (World.block_lt_of_cell? _ _ hx227_0)).trans hx227_0
     replace hx227_1 := (HB.out.cell (World.block_lt_of_cell? _ _ hx227_1)).trans hx227_1
     have HR227_1 := am_ hi227_1
     have HC227_1 := am_ hl227_1
     clear hi227_1 hl227_1
     replace p227 := eq_true p227
     replace q227 := eq_true q227
     go_wp2_with (first | ((with_reducible refine gate_dst (N := 7) rfl ?_); refine be_ 7 #[.int .i64 0, .slice none 0 0] 56 ?_; intro gb228 hg w33 hbox hb; replace HO_3 := am_ (Kd.S_below au2_1 hb); have BK228 := am_ (hbox); have GW228 := am_ (gw_ hg bl_); have GE228 := GW228; replace HB := hs_ w hb; have NB192_228 := am_ (gn_ hg (blkl_ BK192)); have NB228_192 := am_ (gm_ hg (blkl_ BK192)); replace BK192 := bb_ BK192 hb; have NB212_228 := am_ (gn_ hg (blkl_ BK212)); have NB228_212 := am_ (gm_ hg (blkl_ BK212)); replace BK212 := bb_ BK212 hb; clear hb hbox hg; have hnb34 := NB228_192.out; have hnc34 := NB192_228.out; have hnb35 := NB228_212.out; have hnc35 := NB212_228.out; obtain ⟨hcz36_0, hcz36_1, hfz36_0, hfz36_1⟩ := cellsF2 BK228.out) | (go_at_call 26; (with_reducible refine (F26.calls k2 ((rd_T56 ((rd_T53 l0_3 x4_1).f2) x6_2).f0) t229 _ A28.out).mono ?_); rintro e w37 ⟨rfl, hb⟩; (try clear A28); replace HO_3 := am_ (Kd.S_below (by (with_reducible repeat (first | apply Kd.S_alloc | apply Kd.S_drewN | apply Kd.S_drew)); exact (Kd.S_mono (Kd.S_far (p := ⟨gb228, 1, none⟩) (Kd.S_far (p := ⟨gb228, 0, none⟩) (Kd.S_types HO_3.out BK228.out (by decide)) (fun _ hk => hk.2) (.int .i64 ((rd_T56 ((rd_T53 l0_3 x4_1).f2) x6_2).f0))) (fun _ hk => hk.2) (.slice A227_1 ((rd_T56 ((rd_T53 l0_3 x4_1).f2) x6_2).f1).length c227_1)) (fun _ h_ => h_.1))) hb); replace BK192 := am_ (blk_below (g := gb192) (o := .cells #[.string a0_0, .string a0_1, .int .i64 a0_2, .slice (some ad211) l0_3.length c0_3] 30 (0, 0)) (bf_ BK192) hb); replace BK212 := am_ (blk_below (g := gb212) (o := .cells #[.int .i64 ((rd_T53 l0_3 x4_1).f0), .int .i64 ((rd_T53 l0_3 x4_1).f1), .slice (some ad227) ((rd_T53 l0_3 x4_1).f2).length c211_2] 53 (0, 0)) (bf_ BK212) hb); replace BK228 := am_ (blk_below (g := gb228) (o := .cells #[.int .i64 ((rd_T56 ((rd_T53 l0_3 x4_1).f2) x6_2).f0), .slice A227_1 ((rd_T56 ((rd_T53 l0_3 x4_1).f2) x6_2).f1).length c227_1] 56 (0, 0)) (bq_ BK228) hb); replace HB := hs_ w hb; (try clear hb); (try clear hb2); (try clear hk); (try clear hi)) | ((with_reducible refine gate_dst (N := 55) rfl ?_); refine Kd.R_lit Kd.string _ 9 ?hg (N := 55) ?hd (xs := ([t229] : List ByteArray)) (inner := [.string t229]) (ok := fun _ => True) (okp := fun _ => True) ?hr ?hp (fun _ hk => hk) trivial (Below.refl _ _) (Nat.le_refl _) (by simp) ?_; (case hd => rfl); (case hg => rfl); (case hr => exact hr_); (case hp => exact (Reps.one (show Kd.M Kd.string _ _ _ t229 [.string t229] from rfl) (Reps.none _ _))); intro v231 w38 ho39 hb hg_ hnew_; clear hg_ hnew_; (first | rw [← Ny230.out] at ho39 | (simp only [Int.reduceToNat] at ho39; rw [← Ny230.out] at ho39)); replace HO_3 := am_ (Kd.S_elder' au2_1 (Kd.R_base ho39) hb); have HO232 := am_ (Kd.R_lower ho39 (below_size bl_)); replace BK192 := bb_ BK192 hb; replace BK212 := bb_ BK212 hb; replace BK228 := bb_ BK228 hb; replace HB := hs_ w hb; clear hb ho39; obtain ⟨Ao40, co40, eo40⟩ := Kd.R_slice HO232.out; subst eo40) | (go_at_call 25; (with_reducible refine (F25.calls k2 (⟨#[77, 83, 72]⟩ : ByteArray) _ _ y230 t233 t234 _ ?s1 ?s2 A29.out).mono ?_); (case s1 => repeat (first | exact (Kd.R_reads' HO232.out).2.2 | (with_reducible refine Kd.C_alloc ?_ _) | (with_reducible refine Kd.C_drewN ?_ _) | (with_reducible refine Kd.C_drew ?_))); (case s2 => exact (Kd.R_reads' HO232.out).2.1); rintro e w41 ⟨v235, rfl, ho0, hb⟩; (try clear A29); obtain ⟨b9_, hb9_, ho9_⟩ := nb9_ ho0; replace HO_3 := am_ (Kd.S_elder' (Kd.S_mono (Kd.S_bound au2_1) (fun k_ hk_ => (⟨hb9_ _ hk_.2.2.1, hk_.1⟩ : k_ < b9_ ∧ _))) (Kd.S_base ho0) hb); have HO236 := am_ (Kd.S_lower (Kd.S_new' ho9_ (Kd.R_lt (rk_ HO232))) (below_size bl_)); replace HO232 := am_ (Kd.R_below (rk_ HO232) hb); replace BK192 := bb_ BK192 hb; replace BK212 := bb_ BK212 hb; replace BK228 := bb_ BK228 hb; replace HB := hs_ w hb; (try clear hb); (try clear hb2); (try clear hk); (try clear hi); (try clear ho0); obtain ⟨Ao43, co43, eo43⟩ := Kd.S_slice HO236.out; subst eo43) | ((with_reducible refine gate_builtin (b := .append) (xs := #[.tmp 51, .tmp 57]) rfl ?_); at_builtin; refine Kd.S_append k49 (w0 := w) w.heap.size rfl (.tmp 51) (.tmp 57) 26 49 (.agg #[(.string ⟨#[]⟩), (.slice none 0 0)]) 40 rfl Tryz.underlying26 info49 rfl (by decide) (by omega) u3 x3_2 (⟨t233, t234⟩ : S49) [.string t233, .slice Ao43 t234.length co43] (fun k_ => some k_ ≠ (.slice Ao40 y230.length co40 : Value).ownBlock) (fun k_ => b9_ ≤ k_ ∧ (fun k_ => some k_ ≠ (.slice Ao40 y230.length co40 : Value).ownBlock) k_) rfl rfl ?aP (fun k_ hk_ => ⟨hk_.2, fun e_ => Nat.not_le.2 au2_6 hk_.1⟩) ?aF ?aO ?aB ?aS ?aL ?_; (case aP => exact k49_mkM _ _ _ (⟨t233, t234⟩ : S49) (Kd.S_mono (Kd.S_apart' (HO236.out) (Kd.S_typed HO_3.out) (by decide)) (fun k_ hk => ⟨au2_7, (show ((fun k_ => some k_ ≠ (.slice Ao40 y230.length co40 : Value).ownBlock)) k_ ∧ some k_ ≠ (u3 : Value).ownBlock from ⟨hk.1.2, hk.2⟩).1⟩))); (case aB => exact bl_); (case aF => exact (fun k_ hk => Kd.fresh' (Kd.R_lt (rk_ HO232)) k_ hk)); (case aO => exact (by (with_reducible repeat (first | apply Kd.S_alloc | apply Kd.S_drewN | apply Kd.S_drew)); exact Kd.S_mono HO_3.out (fun k_ hk => ⟨hk.1.2.2, fun h9_ => Nat.not_le.2 au2_7 h9_.1⟩))); (case aS => exact (below_size bl_)); (case aL => have := LMc30.out; omega); intro v238 w42 ho hb hg hat; rw [← Ny237.out] at ho; have n0_ := am_ (bg_ BK192 hg (Kd.S_ne HO_3.out BK192.out (by decide))); have n1_ := am_ (bg_ BK212 hg (Kd.S_ne HO_3.out BK212.out (by decide))); have n2_ := am_ (bg_ BK228 hg (Kd.S_ne HO_3.out BK228.out (by decide))); have n3_ := am_ (Kd.R_over' (rk_ HO232) (Kd.S_typed au2_1) (by decide) hg); have n4_ := am_ (hb); have n5_ := am_ (ho); clear BK192; clear BK212; clear BK228; clear HO232; clear HB; clear HO_3; clear HO236; have BK192 := n0_; have BK212 := n1_; have BK228 := n2_; have HO232 := n3_; have HB := n4_; have HO239 := n5_; clear n0_ n1_ n2_ n3_ n4_ n5_; clear ho hb hg hat))
     go_loopg [3, 8] k2 (fun kq v3 v8 w' => ∃ (x3_3 : List (S49)) (x8_3 : Int), v8 = .int .i64 x8_3 ∧ Aside0 (F6.l2 kq x3_3 x4_1 x6_2 x8_3 a0_0 a0_1 a0_2 l0_3 ((rd_T53 l0_3 x4_1).f0) ((rd_T53 l0_3 x4_1).f1) ((rd_T53 l0_3 x4_1).f2) ((rd_T56 ((rd_T53 l0_3 x4_1).f2) x6_2).f0) ((rd_T56 ((rd_T53 l0_3 x4_1).f2) x6_2).f1) = some r) ∧ Aside0 (kq ≤ k2) ∧ Aside0 (Kd.S k49 49 w' w.heap.size (fun _ => True) v3 x3_3) ∧ Aside0 (w'.heap[gb192]? = some (.cells #[.string a0_0, .string a0_1, .int .i64 a0_2, (.slice (some ad211) l0_3.length c0_3)] 30 (0, 0))) ∧ Aside0 (w'.heap[gb212]? = some (.cells #[.int .i64 ((rd_T53 l0_3 x4_1).f0), .int .i64 ((rd_T53 l0_3 x4_1).f1), (.slice (some ad227) ((rd_T53 l0_3 x4_1).f2).length c211_2)] 53 (0, 0))) ∧ Aside0 (w'.heap[gb228]? = some (.cells #[.int .i64 ((rd_T56 ((rd_T53 l0_3 x4_1).f2) x6_2).f0), (.slice A227_1 ((rd_T56 ((rd_T53 l0_3 x4_1).f2) x6_2).f1).length c227_1)] 56 (0, 0))) ∧ Aside0 (Below w.heap.size w w'))
     case atStart => exact ⟨(y237), (0), er_, H', ⟨Nat.le_refl _⟩, ⟨by (with_reducible repeat (first | apply Kd.S_alloc | apply Kd.S_drewN | apply Kd.S_drew)); exact Kd.S_mono HO239.out (fun _ hk => trivial)⟩, ⟨bk_ BK192⟩, ⟨bk_ BK212⟩, ⟨bk_ BK228⟩, ⟨bl_⟩⟩
     case round =>
      clear H'
      try clear c15b0
      try clear c16b0
      try clear c26b0
      try clear c27b0
      try clear hcz11_0 hcz11_1 hcz11_2 hcz11_3
      try clear hcz19_0 hcz19_1 hcz19_2 hcz19_3
      try clear hcz22_0 hcz22_1 hcz22_2
      try clear hcz32_0 hcz32_1 hcz32_2
      try clear hcz36_0 hcz36_1
      try clear hcz9_0 hcz9_1 hcz9_2 hcz9_3
      try clear hfz11_0 hfz11_1 hfz11_2 hfz11_3
      try clear hfz19_0 hfz19_1 hfz19_2 hfz19_3
      try clear hfz22_0 hfz22_1 hfz22_2
      try clear hfz32_0 hfz32_1 hfz32_2
      try clear hfz36_0 hfz36_1
      try clear hfz9_0 hfz9_1 hfz9_2 hfz9_3
      try clear hx211_0
      try clear hx211_1
      try clear hx211_2
      try clear hx227_0
      try clear hx227_1
      try clear p211
      try clear p227
      try clear q211
      try clear q227
      obtain ⟨x3_3, x8_3, rfl, HA, HK3, HO_3, BK192, BK212, BK228, HB⟩ := hrel
      cases gk with
      | zero => exact absurd HA.out (by simp [F6.l2])
      | succ k3 =>
       have H := HA.out
       clear HA
       simp only [F6.l2] at H
       replace H := it_ H; rcases H with ⟨c44b0, H⟩ | ⟨c44b0, H⟩
       rotate_left
       ·replace H := bi_ H; rcases H with ⟨⟨t248, t249⟩, A54, H⟩
        replace H := iln_ H; rcases H with ⟨LMc55, H⟩
        obtain ⟨y252, hy252⟩ : ∃ y_ : List (S49), y_ = (x3_3 ++ [(⟨t248, t249⟩ : S49)]) := ⟨_, rfl⟩
        replace H : (F6.l1 k3 y252 x4_1 (wrap64 (x6_2 + 1)) a0_0 a0_1 a0_2 l0_3 ((rd_T53 l0_3 x4_1).f0) ((rd_T53 l0_3 x4_1).f1) ((rd_T53 l0_3 x4_1).f2)) = some r := by first | (rw [hy252]; exact H) | exact H
        have Ny252 := am_ hy252
        clear hy252
        have H' := am_ H
        clear H
        have hnb56 := NB228_192.out
        have hnc56 := NB192_228.out
        have hnb57 := NB228_212.out
        have hnc57 := NB212_228.out
        obtain ⟨hcz58_0, hcz58_1, hfz58_0, hfz58_1⟩ := cellsF2 BK228.out
        go_wp2_with (first | (go_at_call 24; (with_reducible refine (F24.calls k3 (⟨#[77, 83, 84]⟩ : ByteArray) (((rd_T56 ((rd_T53 l0_3 x4_1).f2) x6_2).f1).length : Int) ((rd_T56 ((rd_T53 l0_3 x4_1).f2) x6_2).f0) t248 t249 _ A54.out).mono ?_); rintro e w59 ⟨v250, rfl, ho0, hb⟩; (try clear A54); obtain ⟨b9_, hb9_, ho9_⟩ := nb9_ ho0; replace HO_3 := am_ (Kd.S_elder' (Kd.S_mono (Kd.S_bound au2_1) (fun k_ hk_ => (⟨hb9_ _ hk_.2.2.1, hk_.1⟩ : k_ < b9_ ∧ _))) (Kd.S_base ho0) hb); have HO251 := am_ (Kd.S_lower ho9_ (below_size bl_)); replace BK192 := bb_ BK192 hb; replace BK212 := bb_ BK212 hb; replace BK228 := bb_ BK228 hb; replace HB := hs_ w hb; (try clear hb); (try clear hb2); (try clear hk); (try clear hi); (try clear ho0); obtain ⟨Ao61, co61, eo61⟩ := Kd.S_slice HO251.out; subst eo61) | ((with_reducible refine gate_builtin (b := .append) (xs := #[.tmp 75, .tmp 82]) rfl ?_); at_builtin; refine Kd.S_append k49 (w0 := w) w.heap.size rfl (.tmp 75) (.tmp 82) 26 49 (.agg #[(.string ⟨#[]⟩), (.slice none 0 0)]) 40 rfl Tryz.underlying26 info49 rfl (by decide) (by omega) u3 x3_3 (⟨t248, t249⟩ : S49) [.string t248, .slice Ao61 t249.length co61] (fun _ => True) (fun k_ => b9_ ≤ k_ ∧ (fun _ => True) k_) rfl rfl ?aP (fun k_ hk_ => ⟨hk_.2, fun e_ => Nat.not_le.2 au2_6 hk_.1⟩) ?aF ?aO ?aB ?aS ?aL ?_; (case aP => exact k49_mkM _ _ _ (⟨t248, t249⟩ : S49) (Kd.S_mono (Kd.S_apart' (HO251.out) (Kd.S_typed HO_3.out) (by decide)) (fun k_ hk => ⟨au2_7, (show ((fun _ => True)) k_ ∧ some k_ ≠ (u3 : Value).ownBlock from ⟨trivial, hk.2⟩).1⟩))); (case aB => exact bl_); (case aF => exact (fun _ _ => trivial)); (case aO => exact au2_2); (case aS => exact (below_size bl_)); (case aL => have := LMc55.out; omega); intro v253 w60 ho hb hg hat; rw [← Ny252.out] at ho; have n0_ := am_ (bg_ BK192 hg (Kd.S_ne HO_3.out BK192.out (by decide))); have n1_ := am_ (bg_ BK212 hg (Kd.S_ne HO_3.out BK212.out (by decide))); have n2_ := am_ (bg_ BK228 hg (Kd.S_ne HO_3.out BK228.out (by decide))); have n3_ := am_ (hb); have n4_ := am_ (ho); clear BK192; clear BK212; clear BK228; clear HB; clear HO_3; clear HO251; have BK192 := n0_; have BK212 := n1_; have BK228 := n2_; have HB := n3_; have HO254 := n4_; clear n0_ n1_ n2_ n3_ n4_; clear ho hb hg hat))
        go_roundg k3
        case measure => have := HK1.out; have := HK2.out; have := HK3.out; omega
        case rel => exact ⟨(y252), (wrap64 (x6_2 + 1)), er_, H', ⟨by have := HK1.out; have := HK2.out; have := HK3.out; omega⟩, ⟨by (with_reducible repeat (first | apply Kd.S_alloc | apply Kd.S_drewN | apply Kd.S_drew)); exact HO254.out⟩, ⟨bk_ BK192⟩, ⟨bk_ BK212⟩, ⟨bl_⟩⟩
       replace H := itn_ H; rcases H with ⟨c45b0, H⟩
       replace H := bi_ H; rcases H with ⟨⟨t241, t242⟩, A46, H⟩
       replace H := iln_ H; rcases H with ⟨LMc47, H⟩
       obtain ⟨y245, hy245⟩ : ∃ y_ : List (S49), y_ = (x3_3 ++ [(⟨t241, t242⟩ : S49)]) := ⟨_, rfl⟩
       replace H : (F6.l2 k3 y245 x4_1 x6_2 (wrap64 (x8_3 + 1)) a0_0 a0_1 a0_2 l0_3 ((rd_T53 l0_3 x4_1).f0) ((rd_T53 l0_3 x4_1).f1) ((rd_T53 l0_3 x4_1).f2) ((rd_T56 ((rd_T53 l0_3 x4_1).f2) x6_2).f0) ((rd_T56 ((rd_T53 l0_3 x4_1).f2) x6_2).f1)) = some r := by first | (rw [hy245]; exact H) | exact H
       have Ny245 := am_ hy245
       clear hy245
       have H' := am_ H
       clear H
       have hnb48 := NB228_192.out
       have hnc48 := NB192_228.out
       have hnb49 := NB228_212.out
       have hnc49 := NB212_228.out
       obtain ⟨hcz50_0, hcz50_1, hfz50_0, hfz50_1⟩ := cellsF2 BK228.out
       have p240 : 0 ≤ (x8_3 : Int) := od_
       have q240 : x8_3 < (((rd_T56 ((rd_T53 l0_3 x4_1).f2) x6_2).f1).length : Int) := od_
       obtain ⟨ad240, A240_1, c240_1, e240, hx240_0, hx240_1, hl240_1, hi240_1⟩ := at_T49 HR227_1.out x8_3 p240 q240
       cases e240
       replace hx240_0 := (HB.out.cell (World.block_lt_of_cell? _ _ hx240_0)).trans hx240_0
       replace hx240_1 := (HB.out.cell (World.block_lt_of_cell? _ _ hx240_1)).trans hx240_1
       have HR240_1 := am_ hi240_1
       have HC240_1 := am_ hl240_1
       clear hi240_1 hl240_1
       replace p240 := eq_true p240
       replace q240 := eq_true q240
       go_wp2_with (first | (go_at_call 27; (with_reducible refine (F27.calls k3 ((rd_T49 ((rd_T56 ((rd_T53 l0_3 x4_1).f2) x6_2).f1) x8_3).f0) _ _ ((rd_T49 ((rd_T56 ((rd_T53 l0_3 x4_1).f2) x6_2).f1) x8_3).f1) t241 t242 _ ?s1 ?s2 A46.out).mono ?_); (case s1 => repeat (first | exact (Kd.C_below HR240_1.out HB.out) | (with_reducible refine Kd.C_alloc ?_ _) | (with_reducible refine Kd.C_drewN ?_ _) | (with_reducible refine Kd.C_drew ?_))); (case s2 => exact HC240_1.out); rintro e w51 ⟨v243, rfl, ho0, hb⟩; (try clear A46); obtain ⟨b9_, hb9_, ho9_⟩ := nb9_ ho0; replace HO_3 := am_ (Kd.S_elder' (Kd.S_mono (Kd.S_bound au2_1) (fun k_ hk_ => (⟨hb9_ _ hk_.2.2.1, hk_.1⟩ : k_ < b9_ ∧ _))) (Kd.S_base ho0) hb); have HO244 := am_ (Kd.S_lower ho9_ (below_size bl_)); replace BK192 := bb_ BK192 hb; replace BK212 := bb_ BK212 hb; replace BK228 := bb_ BK228 hb; replace HB := hs_ w hb; (try clear hb); (try clear hb2); (try clear hk); (try clear hi); (try clear ho0); obtain ⟨Ao53, co53, eo53⟩ := Kd.S_slice HO244.out; subst eo53) | ((with_reducible refine gate_builtin (b := .append) (xs := #[.tmp 66, .tmp 73]) rfl ?_); at_builtin; refine Kd.S_append k49 (w0 := w) w.heap.size rfl (.tmp 66) (.tmp 73) 26 49 (.agg #[(.string ⟨#[]⟩), (.slice none 0 0)]) 40 rfl Tryz.underlying26 info49 rfl (by decide) (by omega) u3 x3_3 (⟨t241, t242⟩ : S49) [.string t241, .slice Ao53 t242.length co53] (fun _ => True) (fun k_ => b9_ ≤ k_ ∧ (fun _ => True) k_) rfl rfl ?aP (fun k_ hk_ => ⟨hk_.2, fun e_ => Nat.not_le.2 au2_6 hk_.1⟩) ?aF ?aO ?aB ?aS ?aL ?_; (case aP => exact k49_mkM _ _ _ (⟨t241, t242⟩ : S49) (Kd.S_mono (Kd.S_apart' (HO244.out) (Kd.S_typed HO_3.out) (by decide)) (fun k_ hk => ⟨au2_7, (show ((fun _ => True)) k_ ∧ some k_ ≠ (u3 : Value).ownBlock from ⟨trivial, hk.2⟩).1⟩))); (case aB => exact bl_); (case aF => exact (fun _ _ => trivial)); (case aO => exact au2_2); (case aS => exact (below_size bl_)); (case aL => have := LMc47.out; omega); intro v246 w52 ho hb hg hat; rw [← Ny245.out] at ho; have n0_ := am_ (bg_ BK192 hg (Kd.S_ne HO_3.out BK192.out (by decide))); have n1_ := am_ (bg_ BK212 hg (Kd.S_ne HO_3.out BK212.out (by decide))); have n2_ := am_ (bg_ BK228 hg (Kd.S_ne HO_3.out BK228.out (by decide))); have n3_ := am_ (hb); have n4_ := am_ (ho); clear BK192; clear BK212; clear BK228; clear HB; clear HO_3; clear HO244; have BK192 := n0_; have BK212 := n1_; have BK228 := n2_; have HB := n3_; have HO247 := n4_; clear n0_ n1_ n2_ n3_ n4_; clear ho hb hg hat))
       go_roundg k3
       case measure => have := HK1.out; have := HK2.out; have := HK3.out; omega
       case rel => exact ⟨(y245), (wrap64 (x8_3 + 1)), er_, H', ⟨by have := HK1.out; have := HK2.out; have := HK3.out; omega⟩, ⟨by (with_reducible repeat (first | apply Kd.S_alloc | apply Kd.S_drewN | apply Kd.S_drew)); exact HO247.out⟩, ⟨bk_ BK192⟩, ⟨bk_ BK212⟩, ⟨bk_ BK228⟩, ⟨bl_⟩⟩
/-! ### F159: function 159 -/
def F159.l0 : Nat → List ByteArray → List ByteArray → Int → Option (List ByteArray)
  | 0, _, _, _ => none
  | k + 1, x0, x3, x4 => if x4 < (x0.length : Int) then (if 0 ≤ x4 then (if x4 < (x3.length : Int) then (F159.l0 k x0 (x3.set (x4 : Int).toNat (rdOf ByteArray.empty x0 x4)) (wrap64 (x4 + 1))) else (none)) else (none)) else (some x3)
def F159.f (k : Nat) (l0 : List ByteArray) : Option (List ByteArray) := if 0 ≤ (l0.length : Int) then (if ((l0.length : Int) : Int).toNat ≤ 17592186044416 then (F159.l0 k l0 (List.replicate ((l0.length : Int) : Int).toNat (⟨#[]⟩ : ByteArray)) 0) else (none)) else (none)
theorem F159.mono_l : ∀ k, (∀ y0 y1 y2, LeO (F159.l0 k y0 y1 y2) (F159.l0 (k + 1) y0 y1 y2))
 | 0 => fun _ _ _ r h => by simp [F159.l0] at h
 | k + 1 => by
  have ih0 := F159.mono_l k
  intro y0 y1 y2
  unfold F159.l0
  repeat' with_reducible first | exact ih0 _ _ _ | exact LeO.refl _ | exact LeO.none _ | refine LeO.ite ?_ ?_ | refine LeO.bind ?_ (fun _ => ?_)
theorem F159.mono : ∀ a0 k, LeO (F159.f k a0) (F159.f (k + 1) a0) := by
 intro a0 k
 have ih0 := F159.mono_l k
 unfold F159.f
 repeat' with_reducible first | exact ih0 _ _ _ | exact LeO.refl _ | exact LeO.none _ | refine LeO.ite ?_ ?_ | refine LeO.bind ?_ (fun _ => ?_)
theorem F159.calls (k : Nat) (A0 : Option Addr) (c0 : Nat) (l0 : List ByteArray) (r : List ByteArray) (w : World) (hr0 : Kd.C Kd.string w A0 l0.length l0) (hc0 : l0.length ≤ c0) (h : F159.f k l0 = some r) :
  Calls Tryz.prog 159 #[.slice A0 l0.length c0] w fun e w' => ∃ v0_ : Value, e = .returned (v0_) ∧ Kd.R Kd.string 9 w' w.heap.size (fun _ => True) v0_ r ∧ Below w.heap.size w w' := by
 have HR0 := am_ hr0
 have HC0 := am_ hc0
 clear hr0 hc0
 have HB := am_ (Below.refl w.heap.size w)
 have H : (if 0 ≤ (l0.length : Int) then (if ((l0.length : Int) : Int).toNat ≤ 17592186044416 then (F159.l0 k l0 (List.replicate ((l0.length : Int) : Int).toNat (⟨#[]⟩ : ByteArray)) 0) else (none)) else (none)) = some r := h
 clear h
 by_cases c2 : 0 ≤ (l0.length : Int)
 rotate_left
 ·rw [if_neg c2] at H
  exact absurd H (by simp)

 rw [if_pos c2] at H
 have c2b0 := eq_true c2
 have c2b1 : decide (0 ≤ (l0.length : Int)) = true := decide_eq_true c2
 clear c2
 by_cases c3 : ((l0.length : Int) : Int).toNat ≤ 17592186044416
 rotate_left
 ·rw [if_neg c3] at H
  exact absurd H (by simp)
 rw [if_pos c3] at H
 have c3b0 := eq_true c3
 have c3b1 : decide (((l0.length : Int) : Int).toNat ≤ 17592186044416) = true := decide_eq_true c3
 clear c3
 obtain ⟨y255, hy255⟩ : ∃ y_ : List ByteArray, y_ = (List.replicate ((l0.length : Int) : Int).toNat (⟨#[]⟩ : ByteArray)) := ⟨_, rfl⟩
 replace H : (F159.l0 k l0 y255 0) = some r := by first | (rw [hy255]; exact H) | exact H
 have Ny255 := am_ hy255
 clear hy255
 have H' := am_ H
 clear H
 go_enter Tryz.func159, Tryz.ntmps159
 go_wp2_with (first | ((with_reducible refine gate_dst (N := 7) rfl ?_); refine Kd.R_make Kd.string _ 9 rfl (N := 7) rfl 59 _ _ rfl (l0.length : Int) rfl rfl Tryz.underlying59 (.string ⟨#[]⟩) 16 info9 rfl (by decide) (by omega) (⟨#[]⟩ : ByteArray) (ok := fun _ => True) (okp := fun _ => True) rfl (fun _ hk => hk) trivial (of_decide_eq_true as_) (Nat.le_trans (Nat.mul_le_mul_right _ (of_decide_eq_true as_ : (l0.length : Int).toNat ≤ 17592186044416)) (by omega)) (Below.refl _ _) (Nat.le_refl _) ?_; intro v256 w4 ho5 hb hg_ hnew_; clear hg_ hnew_; (first | rw [← Ny255.out] at ho5 | (simp only [Int.reduceToNat] at ho5; rw [← Ny255.out] at ho5)); have HO257 := am_ (Kd.R_lower ho5 (below_size bl_)); replace HB := hs_ w hb; clear hb ho5))
 go_loopg [4] k (fun kq v4 w' => ∃ (x3_1 : List ByteArray) (x4_1 : Int), v4 = .int .i64 x4_1 ∧ Aside0 (F159.l0 kq l0 x3_1 x4_1 = some r) ∧ Aside0 (kq ≤ k) ∧ Aside0 (Kd.R Kd.string 9 w' w.heap.size (fun _ => True) v256 x3_1) ∧ Aside0 (Below w.heap.size w w'))
 case atStart => exact ⟨(y255), (0), er_, H', ⟨Nat.le_refl _⟩, ⟨rk_ HO257⟩, ⟨bl_⟩⟩
 case round =>
  clear H'
  try clear c2
  try clear c2b0
  try clear c2b1
  try clear c3
  try clear c3b0
  try clear c3b1
  obtain ⟨x3_1, x4_1, rfl, HA, HK1, HO_3, HB⟩ := hrel
  cases gk with
  | zero => exact absurd HA.out (by simp [F159.l0])
  | succ k1 =>
   have H := HA.out
   clear HA
   simp only [F159.l0] at H
   replace H := it_ H; rcases H with ⟨c6b0, H⟩ | ⟨c6b0, H⟩
   rotate_left
   ·obtain rfl := Option.some.inj H
    go_wp2
    go_ret
    exact ⟨_, au2_0, rk_ HO_3, bl_⟩
   replace H := itn_ H; rcases H with ⟨c7b0, H⟩
   replace H := itn_ H; rcases H with ⟨c8b0, H⟩
   obtain ⟨y259, hy259⟩ : ∃ y_ : List ByteArray, y_ = (x3_1.set (x4_1 : Int).toNat (rdOf ByteArray.empty l0 x4_1)) := ⟨_, rfl⟩
   replace H : (F159.l0 k1 l0 y259 (wrap64 (x4_1 + 1))) = some r := by first | (rw [hy259]; exact H) | exact H
   have Ny259 := am_ hy259
   clear hy259
   have H' := am_ H
   clear H
   have p258 : 0 ≤ (x4_1 : Int) := od_
   have q258 : x4_1 < (l0.length : Int) := od_
   obtain ⟨ad258, e258, hx258_0⟩ := Kd.at_string HR0.out x4_1 p258 q258
   cases e258
   replace hx258_0 := (HB.out.cell (World.block_lt_of_cell? _ _ hx258_0)).trans hx258_0
   replace p258 := eq_true p258
   replace q258 := eq_true q258
   have p9 : 0 ≤ (x4_1 : Int) := od_
   have q9 : (x4_1 : Int) < ((x3_1.length : Int) : Int) := od_
   obtain ⟨go9, co9, eo9, gb9, gl9, cl9, HG9⟩ := Kd.R_form HO_3.out (by omega)
   (first | cases eo9 | (injection eo9 with ea_ en_ ec_; (first | subst ea_ | (injection ea_ with ea_; subst ea_)); subst ec_; clear en_))
   have GB9 := am_ gb9
   have GG9 := am_ HG9
   clear gb9 gl9 HG9
   obtain ⟨hx9_0, hf9_0⟩ := Kd.R_celln (⟨#[]⟩ : ByteArray) HO_3.out (x4_1 : Int) p9 q9
   replace p9 := eq_true p9
   replace q9 := eq_true q9
   have HP10 := Kd.R_putg HO_3.out (x4_1 : Int) (rdOf ByteArray.empty l0 x4_1)
   go_wp2_with (first | ((with_reducible refine gate_store (t := 9) (p := 20) rfl ?_); refine store_event (t := 9) (p := 20) (v := ?vo_w11) (w1 := (wr.setCell ⟨go9, (x4_1 : Int).toNat, none⟩ (.string (rdOf ByteArray.empty l0 x4_1)))) ?hg ?ho ?hn ?hr ?_; (case ho => rfl); (case hg => rfl); (case hn => rfl); (case hr => exact hr_); intro w11 hw; have hg : wr.grownBy w11 (some go9) := (by rw [hw]; exact HP10.2); have hp_ : Kd.R Kd.string 9 w11 w.heap.size (fun _ => True) (.slice (some ⟨go9, 0, none⟩) x3_1.length co9) y259 := (by rw [hw, Ny259.out]; exact HP10.1); clear HP10; replace HO_3 := am_ (hp_); replace HB := am_ ((by rw [hw]; exact below_set (HB.out) GB9.out : Below w.heap.size w w11)); clear hg hw hp_))
   go_roundg k1
   case measure => have := HK1.out; omega
   case rel => exact ⟨(y259), (wrap64 (x4_1 + 1)), er_, H', ⟨by have := HK1.out; omega⟩, ⟨rk_ HO_3⟩, ⟨bl_⟩⟩
/-! ### F156: function 156 -/
def F156.f (k : Nat) (l0_0 : List ByteArray) : Option (List ByteArray) := (F159.f k l0_0).bind fun t263 => (some t263)
theorem F156.mono : ∀ a0 k, LeO (F156.f k a0) (F156.f (k + 1) a0) := by
 intro a0 k
 unfold F156.f
 repeat' with_reducible first | exact F159.mono _ _ | exact LeO.refl _ | exact LeO.none _ | refine LeO.ite ?_ ?_ | refine LeO.bind ?_ (fun _ => ?_)
theorem F156.calls (k : Nat) (A0_0 : Option Addr) (c0_0 : Nat) (l0_0 : List ByteArray) (r : List ByteArray) (w : World) (hr0_0 : Kd.C Kd.string w A0_0 l0_0.length l0_0) (hc0_0 : l0_0.length ≤ c0_0) (h : F156.f k l0_0 = some r) :
  Calls Tryz.prog 156 #[.agg #[.slice A0_0 l0_0.length c0_0]] w fun e w' => ∃ v0_ : Value, e = .returned (.agg #[v0_]) ∧ Kd.R Kd.string 9 w' w.heap.size (fun _ => True) v0_ r ∧ Below w.heap.size w w' := by
 have hu197 := Tryz.underlying197
 have hu91 := Tryz.underlying91
 have HR0_0 := am_ hr0_0
 have HC0_0 := am_ hc0_0
 clear hr0_0 hc0_0
 have HB := am_ (Below.refl w.heap.size w)
 have H : ((F159.f k l0_0).bind fun t263 => (some t263)) = some r := h
 clear h
 replace H := bi_ H; rcases H with ⟨t263, A2, H⟩
 obtain rfl := Option.some.inj H
 go_enter Tryz.func156, Tryz.ntmps156
 go_wp2_with (first | ((with_reducible refine gate_dst (N := 1) rfl ?_); refine be_ 1 #[.slice A0_0 l0_0.length c0_0] 197 ?_; intro gb260 hg w3 hbox hb; have BK260 := am_ (hbox); have GW260 := am_ (gw_ hg bl_); have GE260 := GW260; replace HB := hs_ w hb; clear hb hbox hg) | ((with_reducible refine gate_dst (N := 2) rfl ?_); refine be_ 2 #[.slice none 0 0] 91 ?_; intro gb261 hg w4 hbox hb; have BK261 := am_ (hbox); have GW261 := am_ (gw_ hg bl_); have GE261 := GW261; replace HB := hs_ w hb; have NB260_261 := am_ (gn_ hg (blkl_ BK260)); have NB261_260 := am_ (gm_ hg (blkl_ BK260)); replace BK260 := bb_ BK260 hb; clear hb hbox hg) | ((with_reducible refine gate_dst (N := 3) rfl ?_); refine be_ 3 #[.slice none 0 0] 91 ?_; intro gb262 hg w5 hbox hb; have BK262 := am_ (hbox); have GW262 := am_ (gw_ hg bl_); have GE262 := GW262; replace HB := hs_ w hb; have NB260_262 := am_ (gn_ hg (blkl_ BK260)); have NB262_260 := am_ (gm_ hg (blkl_ BK260)); replace BK260 := bb_ BK260 hb; have NB261_262 := am_ (gn_ hg (blkl_ BK261)); have NB262_261 := am_ (gm_ hg (blkl_ BK261)); replace BK261 := bb_ BK261 hb; clear hb hbox hg; have hnb6 := NB260_261.out; have hnc6 := NB261_260.out; have hnb7 := NB260_262.out; have hnc7 := NB262_260.out; have hcz8_0 : w5.cell? ⟨gb260, 0, none⟩ = some (.slice A0_0 l0_0.length c0_0) := (blk_cell BK260.out 0).trans rfl; have hfz8_0 := blk_frozen BK260.out 0) | ((with_reducible refine gate_callee (f := 159) rfl ?_); refine gl_ 6 Tryz.func159 #[.slice A0_0 l0_0.length c0_0] ?_ rfl rfl rfl rfl; (with_reducible refine (F159.calls k _ _ l0_0 t263 _ ?s1 ?s2 A2.out).mono ?_); (case s1 => repeat (first | exact (Kd.C_below HR0_0.out HB.out) | (with_reducible refine Kd.C_alloc ?_ _) | (with_reducible refine Kd.C_drewN ?_ _) | (with_reducible refine Kd.C_drew ?_))); (case s2 => exact HC0_0.out); rintro e w9 ⟨v264, rfl, ho0, hb⟩; refine ⟨_, rfl, ?_⟩; have HO265 := am_ (Kd.R_lower ho0 (below_size bl_)); replace BK260 := bb_ BK260 hb; replace BK261 := bb_ BK261 hb; replace BK262 := bb_ BK262 hb; replace HB := hs_ w hb; (try clear hb); (try clear ho0); obtain ⟨Ao10, co10, eo10⟩ := Kd.R_slice HO265.out; subst eo10; have hnb11 := NB262_261.out; have hnc11 := NB261_262.out; have hcz12_0 : w9.cell? ⟨gb262, 0, none⟩ = some (.slice none 0 0) := (blk_cell BK262.out 0).trans rfl; have hfz12_0 := blk_frozen BK262.out 0; have hcz13_0 : w9.cell? ⟨gb261, 0, none⟩ = some (.slice none 0 0) := (blk_cell BK261.out 0).trans rfl; have hfz13_0 := blk_frozen BK261.out 0))
 refine bodyPost_ret (results_cell_row rfl _ _ gb261 91 #[.slice Ao10 t263.length co10] (0, 0) _ rfl (bq_ BK261) Tryz.underlying91 rfl (by kernel_rfl)) rfl ?_
 exact ⟨_, au2_0, by (with_reducible repeat (first | apply Kd.R_alloc | apply Kd.R_drewN | apply Kd.R_drew)); exact Kd.R_mono (Kd.R_far (p := ⟨gb261, 0, none⟩) (Kd.R_far (p := ⟨gb262, 0, none⟩) (Kd.R_types (Kd.R_types HO265.out BK262.out (by decide)) BK261.out (by decide)) (fun _ hk => hk.1.2) (.slice Ao10 t263.length co10)) (fun _ hk => hk.2) (.slice Ao10 t263.length co10)) (fun _ hk => trivial), bl_⟩

/-! ### F147: function 147 -/
def F147.l0 : Nat → List (S197) → List (S91) → Int → Option ((List (S91)))
  | 0, _, _, _ => none
  | k + 1, x0, x3, x4 => if x4 < (x0.length : Int) then (if 0 ≤ x4 then ((F156.f k ((rd_T197 x0 x4).f0)).bind fun t270 => (if x4 < (x3.length : Int) then (F147.l0 k x0 (x3.set (x4 : Int).toNat (⟨t270⟩ : S91)) (wrap64 (x4 + 1))) else (none))) else (none)) else (some x3)
def F147.f (k : Nat) (l0 : List (S197)) : Option ((List (S91))) := if 0 ≤ (l0.length : Int) then (if ((l0.length : Int) : Int).toNat ≤ 11728124029610 then (F147.l0 k l0 (List.replicate ((l0.length : Int) : Int).toNat z91) 0) else (none)) else (none)
theorem F147.mono_l : ∀ k, (∀ y0 y1 y2, LeO (F147.l0 k y0 y1 y2) (F147.l0 (k + 1) y0 y1 y2))
 | 0 => fun _ _ _ r h => by simp [F147.l0] at h
 | k + 1 => by
  have ih0 := F147.mono_l k
  intro y0 y1 y2
  unfold F147.l0
  repeat' with_reducible first | exact ih0 _ _ _ | exact F156.mono _ _ | exact LeO.refl _ | exact LeO.none _ | refine LeO.ite ?_ ?_ | refine LeO.bind ?_ (fun _ => ?_)
theorem F147.mono : ∀ a0 k, LeO (F147.f k a0) (F147.f (k + 1) a0) := by
 intro a0 k
 have ih0 := F147.mono_l k
 unfold F147.f
 repeat' with_reducible first | exact ih0 _ _ _ | exact F156.mono _ _ | exact LeO.refl _ | exact LeO.none _ | refine LeO.ite ?_ ?_ | refine LeO.bind ?_ (fun _ => ?_)
theorem F147.calls (k : Nat) (A0 : Option Addr) (c0 : Nat) (l0 : List (S197)) (r : List (S91)) (w : World) (hr0 : Kd.C k197 w A0 l0.length l0) (hc0 : l0.length ≤ c0) (h : F147.f k l0 = some r) :
  Calls Tryz.prog 147 #[.slice A0 l0.length c0] w fun e w' => ∃ v0_ : Value, e = .returned (v0_) ∧ Kd.S k91 91 w' w.heap.size (fun _ => True) v0_ r ∧ Below w.heap.size w w' := by
 have hu197 := Tryz.underlying197
 have hu91 := Tryz.underlying91
 have HR0 := am_ hr0
 have HC0 := am_ hc0
 clear hr0 hc0
 have HB := am_ (Below.refl w.heap.size w)
 have H : (if 0 ≤ (l0.length : Int) then (if ((l0.length : Int) : Int).toNat ≤ 11728124029610 then (F147.l0 k l0 (List.replicate ((l0.length : Int) : Int).toNat z91) 0) else (none)) else (none)) = some r := h
 clear h
 by_cases c2 : 0 ≤ (l0.length : Int)
 rotate_left
 ·rw [if_neg c2] at H
  exact absurd H (by simp)

 rw [if_pos c2] at H
 have c2b0 := eq_true c2
 have c2b1 : decide (0 ≤ (l0.length : Int)) = true := decide_eq_true c2
 clear c2
 by_cases c3 : ((l0.length : Int) : Int).toNat ≤ 11728124029610
 rotate_left
 ·rw [if_neg c3] at H
  exact absurd H (by simp)
 rw [if_pos c3] at H
 have c3b0 := eq_true c3
 have c3b1 : decide (((l0.length : Int) : Int).toNat ≤ 11728124029610) = true := decide_eq_true c3
 clear c3
 obtain ⟨y266, hy266⟩ : ∃ y_ : List (S91), y_ = (List.replicate ((l0.length : Int) : Int).toNat z91) := ⟨_, rfl⟩
 replace H : (F147.l0 k l0 y266 0) = some r := by first | (rw [hy266]; exact H) | exact H
 have Ny266 := am_ hy266
 clear hy266
 have H' := am_ H
 clear H
 go_enter Tryz.func147, Tryz.ntmps147
 go_wp2_with (first | ((with_reducible refine gate_dst (N := 7) rfl ?_); refine Kd.S_make k91 _ 91 rfl (N := 7) rfl 47 _ _ rfl (l0.length : Int) rfl rfl Tryz.underlying47 (.agg #[(.slice none 0 0)]) 24 info91 rfl (by decide) (by omega) z91 (ok := fun _ => True) (okp := fun _ => True) (k91_mkM _ _ _ z91 au2_15) (fun _ hk => hk) trivial (of_decide_eq_true as_) (Nat.le_trans (Nat.mul_le_mul_right _ (of_decide_eq_true as_ : (l0.length : Int).toNat ≤ 11728124029610)) (by omega)) (Below.refl _ _) (Nat.le_refl _) ?_; intro v267 w4 ho5 hb hg_ hnew_; clear hg_ hnew_; (first | rw [← Ny266.out] at ho5 | (simp only [Int.reduceToNat] at ho5; rw [← Ny266.out] at ho5)); have HO268 := am_ (Kd.S_lower ho5 (below_size bl_)); replace HB := hs_ w hb; clear hb ho5))
 go_loopg [4] k (fun kq v4 w' => ∃ (x3_1 : List (S91)) (x4_1 : Int), v4 = .int .i64 x4_1 ∧ Aside0 (F147.l0 kq l0 x3_1 x4_1 = some r) ∧ Aside0 (kq ≤ k) ∧ Aside0 (Kd.S k91 91 w' w.heap.size (fun _ => True) v267 x3_1) ∧ Aside0 (Below w.heap.size w w'))
 case atStart => exact ⟨(y266), (0), er_, H', ⟨Nat.le_refl _⟩, ⟨by (with_reducible repeat (first | apply Kd.S_alloc | apply Kd.S_drewN | apply Kd.S_drew)); exact HO268.out⟩, ⟨bl_⟩⟩
 case round =>
  clear H'
  try clear c2
  try clear c2b0
  try clear c2b1
  try clear c3
  try clear c3b0
  try clear c3b1
  obtain ⟨x3_1, x4_1, rfl, HA, HK1, HO_3, HB⟩ := hrel
  cases gk with
  | zero => exact absurd HA.out (by simp [F147.l0])
  | succ k1 =>
   have H := HA.out
   clear HA
   simp only [F147.l0] at H
   replace H := it_ H; rcases H with ⟨c6b0, H⟩ | ⟨c6b0, H⟩
   rotate_left
   ·obtain rfl := Option.some.inj H
    go_wp2
    go_ret
    exact ⟨_, au2_0, au2_3, bl_⟩
   replace H := itn_ H; rcases H with ⟨c7b0, H⟩
   replace H := bi_ H; rcases H with ⟨t270, A8, H⟩
   replace H := itn_ H; rcases H with ⟨c9b0, H⟩
   obtain ⟨y273, hy273⟩ : ∃ y_ : List (S91), y_ = (x3_1.set (x4_1 : Int).toNat (⟨t270⟩ : S91)) := ⟨_, rfl⟩
   replace H : (F147.l0 k1 l0 y273 (wrap64 (x4_1 + 1))) = some r := by first | (rw [hy273]; exact H) | exact H
   have Ny273 := am_ hy273
   clear hy273
   have H' := am_ H
   clear H
   have p269 : 0 ≤ (x4_1 : Int) := od_
   have q269 : x4_1 < (l0.length : Int) := od_
   obtain ⟨ad269, A269_0, c269_0, e269, hx269_0, hl269_0, hi269_0⟩ := at_T197 HR0.out x4_1 p269 q269
   cases e269
   replace hx269_0 := (HB.out.cell (World.block_lt_of_cell? _ _ hx269_0)).trans hx269_0
   have HR269_0 := am_ hi269_0
   have HC269_0 := am_ hl269_0
   clear hi269_0 hl269_0
   replace p269 := eq_true p269
   replace q269 := eq_true q269
   go_wp2_with (first | ((with_reducible refine gate_callee (f := 156) rfl ?_); refine gl_ 20 Tryz.func156 #[.agg #[.slice A269_0 ((rd_T197 l0 x4_1).f0).length c269_0]] ?_ rfl rfl rfl rfl; (with_reducible refine (F156.calls k1 _ _ ((rd_T197 l0 x4_1).f0) t270 _ ?s1 ?s2 A8.out).mono ?_); (case s1 => repeat (first | exact (Kd.C_below HR269_0.out HB.out) | (with_reducible refine Kd.C_alloc ?_ _) | (with_reducible refine Kd.C_drewN ?_ _) | (with_reducible refine Kd.C_drew ?_))); (case s2 => exact HC269_0.out); rintro e w11 ⟨v271, rfl, ho0, hb⟩; refine ⟨_, rfl, ?_⟩; replace HO_3 := am_ (Kd.S_elder' au2_1 (Kd.R_base ho0) hb); have HO272 := am_ (Kd.R_lower ho0 (below_size bl_)); replace HB := hs_ w hb; (try clear hb); (try clear hb2); (try clear hk); (try clear hi); (try clear ho0); have p10 : 0 ≤ (x4_1 : Int) := od_; have q10 : (x4_1 : Int) < ((x3_1.length : Int) : Int) := od_; obtain ⟨go10, co10, eo10, gb10, gl10, cl10, HG10⟩ := Kd.S_form HO_3.out (by omega); (first | cases eo10 | (injection eo10 with ea_ en_ ec_; (first | subst ea_ | (injection ea_ with ea_; subst ea_)); subst ec_; clear en_)); have GB10 := am_ gb10; have GG10 := am_ HG10; clear gb10 gl10 HG10; obtain ⟨_, ce10, hcl10, hM10, hcc10, hfr10, _, _⟩ := Kd.S_elem HO_3.out z91 (x4_1 : Int) p10 q10; obtain ⟨ve10_0, rfl, ge10_0⟩ := k91_openM hM10; have hx10_0 := hcc10 0 _ rfl; have hf10_0 := hfr10 0; (try simp only [show (k91).sz = 1 from rfl, Nat.mul_one, Nat.add_zero] at hx10_0); (try simp only [show (k91).sz = 1 from rfl, Nat.mul_one, Nat.add_zero] at hf10_0); clear hcl10 hcc10 hfr10 hM10; replace p10 := eq_true p10; replace q10 := eq_true q10; obtain ⟨Ao12, co12, eo12⟩ := Kd.R_slice HO272.out; subst eo12; have n_ := am_ (Kd.S_mono (ok' := (fun k_ => some k_ ≠ (.slice Ao12 t270.length co12 : Value).ownBlock)) HO_3.out (fun k_ hk => hk.2)); clear HO_3; have HO_3 := n_; clear n_; have HX13 := am_ (show Kd.S k91 91 w11 w.heap.size (fun k_ => ((fun _ => True)) k_ ∧ ¬ ((fun k_ => some k_ = (.slice Ao12 t270.length co12 : Value).ownBlock)) k_) (.slice (some ⟨go10, 0, none⟩) x3_1.length co10) x3_1 from (by (with_reducible repeat (first | apply Kd.S_alloc | apply Kd.S_drewN | apply Kd.S_drew)); exact Kd.S_mono HO_3.out (fun k_ hk => ⟨trivial, fun e_ => hk e_⟩))); obtain ⟨oki13, ce13, hcl13, hM13, hcc13, hfr13, hoki13, hH13⟩ := Kd.S_elem HX13.out z91 (x4_1 : Int) (of_decide_eq_true as_) (by have h_ : (x4_1 : Int) < ((x3_1.length : Int) : Int) := od_; first | exact h_ | (have e_ := (Kd.S_reads' HO_3.out).1; omega) | simpa using h_); obtain ⟨ve13_0, rfl, ge13_0⟩ := k91_openM hM13; have HP13 := Kd.S_seg hH13 (of_decide_eq_true as_) (by have h_ : (x4_1 : Int) < ((x3_1.length : Int) : Int) := od_; first | exact h_ | (have e_ := (Kd.S_reads' HO_3.out).1; omega) | simpa using h_) (seg := [.slice Ao12 t270.length co12]) (j := 0) (show 1 ≤ 1 from by decide) (x' := (⟨t270⟩ : S91)) (k91_mkM _ _ _ (⟨t270⟩ : S91) (Kd.R_mono (Kd.R_tight rfl (Kd.R_mono (ok' := fun k_ => ((fun _ => True)) k_ ∧ k_ ≠ go10) (Kd.R_apart' (HO272.out) (Kd.S_typed HO_3.out) (by decide)) (fun k_ hk => ⟨trivial, fun e_ => (hk.2) (by rw [e_]; rfl)⟩))) (fun _ h_ => Or.inr (h_)))) (fun _ hk => hk) (fun k_ hk_ => ((Kd.R_mono (ok' := fun k_ => ((fun _ => True)) k_ ∧ k_ ≠ go10) (Kd.R_apart' (HO272.out) (Kd.S_typed HO_3.out) (by decide)) (fun k_ hk => ⟨trivial, fun e_ => (hk.2) (by rw [e_]; rfl)⟩))).1 k_ hk_.symm); have hx13_0 := hcc13 0 _ rfl; (try simp only [show (k91).sz = 1 from rfl, Nat.mul_one, Nat.add_zero] at hx13_0); have hf13_0 := hfr13 0; (try simp only [show (k91).sz = 1 from rfl, Nat.mul_one, Nat.add_zero] at hf13_0); clear hcl13 hcc13 hfr13 hM13 hoki13 hH13; (try simp only [show (k91).sz = 1 from rfl, Nat.mul_one, Nat.add_zero] at HP13)) | ((with_reducible refine gate_store (t := 91) (p := 21) rfl ?_); refine store_event (t := 91) (p := 21) (v := ?vo_w14) (w1 := (w11.setCell ⟨go10, (x4_1 : Int).toNat, none⟩ (.slice Ao12 t270.length co12))) ?hg ?ho ?hn ?hr ?_; (case ho => rfl); (case hg => rfl); (case hn => rfl); (case hr => exact hr_); intro w14 hw; have hg : w11.grownBy w14 (some go10) := (by rw [hw]; exact HP13.2); have hp_ : Kd.S k91 91 w14 w.heap.size (fun _ => True) (.slice (some ⟨go10, 0, none⟩) x3_1.length co10) y273 := (by rw [hw, Ny273.out]; exact HP13.1); clear HP13; have n0_ := am_ (hp_); have n1_ := am_ ((by rw [hw]; exact below_set (HB.out) GB10.out : Below w.heap.size w w14)); clear HO_3; clear HB; clear HO272; have HO_3 := n0_; have HB := n1_; clear n0_ n1_; clear hg hw hp_))
   go_roundg k1
   case measure => have := HK1.out; omega
   case rel => exact ⟨(y273), (wrap64 (x4_1 + 1)), er_, H', ⟨by have := HK1.out; omega⟩, ⟨au2_3⟩, ⟨bl_⟩⟩
/-! ### F135: function 135 -/
def F135.f (k : Nat) (a0_0 : ByteArray) (l0_1 : List (S197)) : Option (ByteArray × (List (S91))) := (F147.f k l0_1).bind fun t277 => (some (a0_0, t277))
theorem F135.mono : ∀ a0 a1 k, LeO (F135.f k a0 a1) (F135.f (k + 1) a0 a1) := by
 intro a0 a1 k
 unfold F135.f
 repeat' with_reducible first | exact F147.mono _ _ | exact LeO.refl _ | exact LeO.none _ | refine LeO.ite ?_ ?_ | refine LeO.bind ?_ (fun _ => ?_)
theorem F135.calls (k : Nat) (a0_0 : ByteArray) (A0_1 : Option Addr) (c0_1 : Nat) (l0_1 : List (S197)) (r1 : ByteArray) (r2 : List (S91)) (w : World) (hr0_1 : Kd.C k197 w A0_1 l0_1.length l0_1) (hc0_1 : l0_1.length ≤ c0_1) (h : F135.f k a0_0 l0_1 = some (r1, r2)) :
  Calls Tryz.prog 135 #[.agg #[.string a0_0, .slice A0_1 l0_1.length c0_1]] w fun e w' => ∃ v1_ : Value, e = .returned (.agg #[.string r1, v1_]) ∧ Kd.S k91 91 w' w.heap.size (fun _ => True) v1_ r2 ∧ Below w.heap.size w w' := by
 have hu173 := Tryz.underlying173
 have hu49 := Tryz.underlying49
 have HR0_1 := am_ hr0_1
 have HC0_1 := am_ hc0_1
 clear hr0_1 hc0_1
 have HB := am_ (Below.refl w.heap.size w)
 have H : ((F147.f k l0_1).bind fun t277 => (some (a0_0, t277))) = some (r1, r2) := h
 clear h
 replace H := bi_ H; rcases H with ⟨t277, A2, H⟩
 simp only [Option.some.injEq, Prod.mk.injEq] at H
 obtain ⟨rfl, rfl⟩ := H
 go_enter Tryz.func135, Tryz.ntmps135
 go_wp2_with (first | ((with_reducible refine gate_dst (N := 1) rfl ?_); refine be_ 1 #[.string a0_0, .slice A0_1 l0_1.length c0_1] 173 ?_; intro gb274 hg w3 hbox hb; have BK274 := am_ (hbox); have GW274 := am_ (gw_ hg bl_); have GE274 := GW274; replace HB := hs_ w hb; clear hb hbox hg) | ((with_reducible refine gate_dst (N := 2) rfl ?_); refine be_ 2 #[.string (⟨#[]⟩ : ByteArray), .slice none 0 0] 49 ?_; intro gb275 hg w4 hbox hb; have BK275 := am_ (hbox); have GW275 := am_ (gw_ hg bl_); have GE275 := GW275; replace HB := hs_ w hb; have NB274_275 := am_ (gn_ hg (blkl_ BK274)); have NB275_274 := am_ (gm_ hg (blkl_ BK274)); replace BK274 := bb_ BK274 hb; clear hb hbox hg) | ((with_reducible refine gate_dst (N := 3) rfl ?_); refine be_ 3 #[.string (⟨#[]⟩ : ByteArray), .slice none 0 0] 49 ?_; intro gb276 hg w5 hbox hb; have BK276 := am_ (hbox); have GW276 := am_ (gw_ hg bl_); have GE276 := GW276; replace HB := hs_ w hb; have NB274_276 := am_ (gn_ hg (blkl_ BK274)); have NB276_274 := am_ (gm_ hg (blkl_ BK274)); replace BK274 := bb_ BK274 hb; have NB275_276 := am_ (gn_ hg (blkl_ BK275)); have NB276_275 := am_ (gm_ hg (blkl_ BK275)); replace BK275 := bb_ BK275 hb; clear hb hbox hg; have hnb6 := NB274_275.out; have hnc6 := NB275_274.out; have hnb7 := NB274_276.out; have hnc7 := NB276_274.out; obtain ⟨hcz8_0, hcz8_1, hfz8_0, hfz8_1⟩ := cellsF2 BK274.out; have hnb9 := NB276_275.out; have hnc9 := NB275_276.out; obtain ⟨hcz10_0, hcz10_1, hfz10_0, hfz10_1⟩ := cellsF2 BK276.out) | ((with_reducible refine gate_callee (f := 147) rfl ?_); refine gl_ 9 Tryz.func147 #[.slice A0_1 l0_1.length c0_1] ?_ rfl rfl rfl rfl; (with_reducible refine (F147.calls k _ _ l0_1 t277 _ ?s1 ?s2 A2.out).mono ?_); (case s1 => exact Kd.C_below HR0_1.out bl_); (case s2 => exact HC0_1.out); rintro e w11 ⟨v278, rfl, ho0, hb⟩; refine ⟨_, rfl, ?_⟩; have HO279 := am_ (Kd.S_lower ho0 (below_size bl_)); replace BK274 := am_ (blk_below (g := gb274) (o := .cells #[.string a0_0, .slice A0_1 l0_1.length c0_1] 173 (0, 0)) (bf_ BK274) hb); replace BK275 := am_ (blk_below (g := gb275) (o := .cells #[.string (⟨#[]⟩ : ByteArray), .slice none 0 0] 49 (0, 0)) (bf_ BK275) hb); replace BK276 := am_ (blk_below (g := gb276) (o := .cells #[.string a0_0, .slice none 0 0] 49 (0, 0)) (bq_ BK276) hb); replace HB := hs_ w hb; (try clear hb); (try clear ho0); obtain ⟨Ao12, co12, eo12⟩ := Kd.S_slice HO279.out; subst eo12; obtain ⟨hcz13_0, hcz13_1, hfz13_0, hfz13_1⟩ := cellsF2 BK276.out; obtain ⟨hcz14_0, hcz14_1, hfz14_0, hfz14_1⟩ := cellsF2 BK275.out))
 refine bodyPost_ret (results_cell_row rfl _ _ gb275 49 #[.string a0_0, .slice Ao12 t277.length co12] (0, 0) _ rfl (bq_ BK275) Tryz.underlying49 rfl (by kernel_rfl)) rfl ?_
 exact ⟨_, au2_0, by (with_reducible repeat (first | apply Kd.S_alloc | apply Kd.S_drewN | apply Kd.S_drew)); exact Kd.S_mono (Kd.S_far (p := ⟨gb275, 1, none⟩) (Kd.S_far (p := ⟨gb275, 0, none⟩) (Kd.S_far (p := ⟨gb276, 1, none⟩) (Kd.S_types (Kd.S_types HO279.out BK276.out (by decide)) BK275.out (by decide)) (fun _ hk => hk.1.2) (.slice Ao12 t277.length co12)) (fun _ hk => hk.2) (.string a0_0)) (fun _ hk => hk.2) (.slice Ao12 t277.length co12)) (fun _ hk => trivial), bl_⟩

/-! ### F124: function 124 -/
def F124.l0 : Nat → List (S173) → List (S49) → Int → Option ((List (S49)))
  | 0, _, _, _ => none
  | k + 1, x0, x3, x4 => if x4 < (x0.length : Int) then (if 0 ≤ x4 then ((F135.f k ((rd_T173 x0 x4).f0) ((rd_T173 x0 x4).f1)).bind fun bt284 => (if x4 < (x3.length : Int) then (F124.l0 k x0 (x3.set (x4 : Int).toNat (⟨bt284.1, bt284.2⟩ : S49)) (wrap64 (x4 + 1))) else (none))) else (none)) else (some x3)
def F124.f (k : Nat) (l0 : List (S173)) : Option ((List (S49))) := if 0 ≤ (l0.length : Int) then (if ((l0.length : Int) : Int).toNat ≤ 7036874417766 then (F124.l0 k l0 (List.replicate ((l0.length : Int) : Int).toNat z49) 0) else (none)) else (none)
theorem F124.mono_l : ∀ k, (∀ y0 y1 y2, LeO (F124.l0 k y0 y1 y2) (F124.l0 (k + 1) y0 y1 y2))
 | 0 => fun _ _ _ r h => by simp [F124.l0] at h
 | k + 1 => by
  have ih0 := F124.mono_l k
  intro y0 y1 y2
  unfold F124.l0
  repeat' with_reducible first | exact ih0 _ _ _ | exact F135.mono _ _ _ | exact LeO.refl _ | exact LeO.none _ | refine LeO.ite ?_ ?_ | refine LeO.bind ?_ (fun _ => ?_)
theorem F124.mono : ∀ a0 k, LeO (F124.f k a0) (F124.f (k + 1) a0) := by
 intro a0 k
 have ih0 := F124.mono_l k
 unfold F124.f
 repeat' with_reducible first | exact ih0 _ _ _ | exact F135.mono _ _ _ | exact LeO.refl _ | exact LeO.none _ | refine LeO.ite ?_ ?_ | refine LeO.bind ?_ (fun _ => ?_)
theorem F124.calls (k : Nat) (A0 : Option Addr) (c0 : Nat) (l0 : List (S173)) (r : List (S49)) (w : World) (hr0 : Kd.C k173 w A0 l0.length l0) (hc0 : l0.length ≤ c0) (h : F124.f k l0 = some r) :
  Calls Tryz.prog 124 #[.slice A0 l0.length c0] w fun e w' => ∃ v0_ : Value, e = .returned (v0_) ∧ Kd.S k49 49 w' w.heap.size (fun _ => True) v0_ r ∧ Below w.heap.size w w' := by
 have hu173 := Tryz.underlying173
 have hu49 := Tryz.underlying49
 have HR0 := am_ hr0
 have HC0 := am_ hc0
 clear hr0 hc0
 have HB := am_ (Below.refl w.heap.size w)
 have H : (if 0 ≤ (l0.length : Int) then (if ((l0.length : Int) : Int).toNat ≤ 7036874417766 then (F124.l0 k l0 (List.replicate ((l0.length : Int) : Int).toNat z49) 0) else (none)) else (none)) = some r := h
 clear h
 by_cases c2 : 0 ≤ (l0.length : Int)
 rotate_left
 ·rw [if_neg c2] at H
  exact absurd H (by simp)

 rw [if_pos c2] at H
 have c2b0 := eq_true c2
 have c2b1 : decide (0 ≤ (l0.length : Int)) = true := decide_eq_true c2
 clear c2
 by_cases c3 : ((l0.length : Int) : Int).toNat ≤ 7036874417766
 rotate_left
 ·rw [if_neg c3] at H
  exact absurd H (by simp)
 rw [if_pos c3] at H
 have c3b0 := eq_true c3
 have c3b1 : decide (((l0.length : Int) : Int).toNat ≤ 7036874417766) = true := decide_eq_true c3
 clear c3
 obtain ⟨y280, hy280⟩ : ∃ y_ : List (S49), y_ = (List.replicate ((l0.length : Int) : Int).toNat z49) := ⟨_, rfl⟩
 replace H : (F124.l0 k l0 y280 0) = some r := by first | (rw [hy280]; exact H) | exact H
 have Ny280 := am_ hy280
 clear hy280
 have H' := am_ H
 clear H
 go_enter Tryz.func124, Tryz.ntmps124
 go_wp2_with (first | ((with_reducible refine gate_dst (N := 7) rfl ?_); refine Kd.S_make k49 _ 49 rfl (N := 7) rfl 26 _ _ rfl (l0.length : Int) rfl rfl Tryz.underlying26 (.agg #[(.string ⟨#[]⟩), (.slice none 0 0)]) 40 info49 rfl (by decide) (by omega) z49 (ok := fun _ => True) (okp := fun _ => True) (k49_mkM _ _ _ z49 au2_15) (fun _ hk => hk) trivial (of_decide_eq_true as_) (Nat.le_trans (Nat.mul_le_mul_right _ (of_decide_eq_true as_ : (l0.length : Int).toNat ≤ 7036874417766)) (by omega)) (Below.refl _ _) (Nat.le_refl _) ?_; intro v281 w4 ho5 hb hg_ hnew_; clear hg_ hnew_; (first | rw [← Ny280.out] at ho5 | (simp only [Int.reduceToNat] at ho5; rw [← Ny280.out] at ho5)); have HO282 := am_ (Kd.S_lower ho5 (below_size bl_)); replace HB := hs_ w hb; clear hb ho5))
 go_loopg [4] k (fun kq v4 w' => ∃ (x3_1 : List (S49)) (x4_1 : Int), v4 = .int .i64 x4_1 ∧ Aside0 (F124.l0 kq l0 x3_1 x4_1 = some r) ∧ Aside0 (kq ≤ k) ∧ Aside0 (Kd.S k49 49 w' w.heap.size (fun _ => True) v281 x3_1) ∧ Aside0 (Below w.heap.size w w'))
 case atStart => exact ⟨(y280), (0), er_, H', ⟨Nat.le_refl _⟩, ⟨by (with_reducible repeat (first | apply Kd.S_alloc | apply Kd.S_drewN | apply Kd.S_drew)); exact HO282.out⟩, ⟨bl_⟩⟩
 case round =>
  clear H'
  try clear c2
  try clear c2b0
  try clear c2b1
  try clear c3
  try clear c3b0
  try clear c3b1
  obtain ⟨x3_1, x4_1, rfl, HA, HK1, HO_3, HB⟩ := hrel
  cases gk with
  | zero => exact absurd HA.out (by simp [F124.l0])
  | succ k1 =>
   have H := HA.out
   clear HA
   simp only [F124.l0] at H
   replace H := it_ H; rcases H with ⟨c6b0, H⟩ | ⟨c6b0, H⟩
   rotate_left
   ·obtain rfl := Option.some.inj H
    go_wp2
    go_ret
    exact ⟨_, au2_0, au2_3, bl_⟩
   replace H := itn_ H; rcases H with ⟨c7b0, H⟩
   replace H := bi_ H; rcases H with ⟨⟨t284, t285⟩, A8, H⟩
   replace H := itn_ H; rcases H with ⟨c9b0, H⟩
   obtain ⟨y288, hy288⟩ : ∃ y_ : List (S49), y_ = (x3_1.set (x4_1 : Int).toNat (⟨t284, t285⟩ : S49)) := ⟨_, rfl⟩
   replace H : (F124.l0 k1 l0 y288 (wrap64 (x4_1 + 1))) = some r := by first | (rw [hy288]; exact H) | exact H
   have Ny288 := am_ hy288
   clear hy288
   have H' := am_ H
   clear H
   have p283 : 0 ≤ (x4_1 : Int) := od_
   have q283 : x4_1 < (l0.length : Int) := od_
   obtain ⟨ad283, A283_1, c283_1, e283, hx283_0, hx283_1, hl283_1, hi283_1⟩ := at_T173 HR0.out x4_1 p283 q283
   cases e283
   replace hx283_0 := (HB.out.cell (World.block_lt_of_cell? _ _ hx283_0)).trans hx283_0
   replace hx283_1 := (HB.out.cell (World.block_lt_of_cell? _ _ hx283_1)).trans hx283_1
   have HR283_1 := am_ hi283_1
   have HC283_1 := am_ hl283_1
   clear hi283_1 hl283_1
   replace p283 := eq_true p283
   replace q283 := eq_true q283
   go_wp2_with (first | ((with_reducible refine gate_callee (f := 135) rfl ?_); refine gl_ 20 Tryz.func135 #[.agg #[.string ((rd_T173 l0 x4_1).f0), .slice A283_1 ((rd_T173 l0 x4_1).f1).length c283_1]] ?_ rfl rfl rfl rfl; (with_reducible refine (F135.calls k1 ((rd_T173 l0 x4_1).f0) _ _ ((rd_T173 l0 x4_1).f1) t284 t285 _ ?s1 ?s2 A8.out).mono ?_); (case s1 => repeat (first | exact (Kd.C_below HR283_1.out HB.out) | (with_reducible refine Kd.C_alloc ?_ _) | (with_reducible refine Kd.C_drewN ?_ _) | (with_reducible refine Kd.C_drew ?_))); (case s2 => exact HC283_1.out); rintro e w11 ⟨v286, rfl, ho0, hb⟩; refine ⟨_, rfl, ?_⟩; obtain ⟨b9_, hb9_, ho9_⟩ := nb9_ ho0; replace HO_3 := am_ (Kd.S_elder' (Kd.S_mono (Kd.S_bound au2_1) (fun k_ hk_ => (⟨hb9_ _ hk_.2.2.1, hk_.1⟩ : k_ < b9_ ∧ _))) (Kd.S_base ho0) hb); have HO287 := am_ (Kd.S_lower ho9_ (below_size bl_)); replace HB := hs_ w hb; (try clear hb); (try clear hb2); (try clear hk); (try clear hi); (try clear ho0); have p10 : 0 ≤ (x4_1 : Int) := od_; have q10 : (x4_1 : Int) < ((x3_1.length : Int) : Int) := od_; obtain ⟨go10, co10, eo10, gb10, gl10, cl10, HG10⟩ := Kd.S_form HO_3.out (by omega); (first | cases eo10 | (injection eo10 with ea_ en_ ec_; (first | subst ea_ | (injection ea_ with ea_; subst ea_)); subst ec_; clear en_)); have GB10 := am_ gb10; have GG10 := am_ HG10; clear gb10 gl10 HG10; obtain ⟨_, ce10, hcl10, hM10, hcc10, hfr10, _, _⟩ := Kd.S_elem HO_3.out z49 (x4_1 : Int) p10 q10; obtain ⟨ve10_1, rfl, ge10_1⟩ := k49_openM hM10; have hx10_0 : w11.cell? ⟨go10, (x4_1 : Int).toNat * 2, none⟩ = some (.string ((rd_T49 x3_1 x4_1).f0)) := hcc10 0 _ rfl; have hx10_1 : w11.cell? ⟨go10, (x4_1 : Int).toNat * 2 + 1, none⟩ = some (ve10_1) := hcc10 1 _ rfl; have hf10_0 : w11.frozen? ⟨go10, (x4_1 : Int).toNat * 2, none⟩ = false := hfr10 0; have hf10_1 : w11.frozen? ⟨go10, (x4_1 : Int).toNat * 2 + 1, none⟩ = false := hfr10 1; clear hcl10 hcc10 hfr10 hM10; replace p10 := eq_true p10; replace q10 := eq_true q10; obtain ⟨Ao12, co12, eo12⟩ := Kd.S_slice HO287.out; subst eo12; have n_ := am_ (Kd.S_mono (ok' := (fun k_ => k_ < b9_ ∧ some k_ ≠ (.slice Ao12 t285.length co12 : Value).ownBlock)) HO_3.out (fun k_ hk => ⟨hk.1.1, hk.2⟩)); clear HO_3; have HO_3 := n_; clear n_; have HX13 := am_ (show Kd.S k49 49 w11 w.heap.size (fun k_ => ((fun _ => True)) k_ ∧ ¬ ((fun k_ => b9_ ≤ k_)) k_) (.slice (some ⟨go10, 0, none⟩) x3_1.length co10) x3_1 from au2_9); obtain ⟨oki13, ce13, hcl13, hM13, hcc13, hfr13, hoki13, hH13⟩ := Kd.S_elem HX13.out z49 (x4_1 : Int) (of_decide_eq_true as_) (by have h_ : (x4_1 : Int) < ((x3_1.length : Int) : Int) := od_; first | exact h_ | (have e_ := (Kd.S_reads' HO_3.out).1; omega) | simpa using h_); obtain ⟨ve13_1, rfl, ge13_1⟩ := k49_openM hM13; have HP13 := Kd.S_seg hH13 (of_decide_eq_true as_) (by have h_ : (x4_1 : Int) < ((x3_1.length : Int) : Int) := od_; first | exact h_ | (have e_ := (Kd.S_reads' HO_3.out).1; omega) | simpa using h_) (seg := [.string t284, .slice Ao12 t285.length co12]) (j := 0) (show 2 ≤ 2 from by decide) (x' := (⟨t284, t285⟩ : S49)) (k49_mkM _ _ _ (⟨t284, t285⟩ : S49) (Kd.S_mono HO287.out (fun _ h_ => Or.inr h_))) (fun _ hk => hk) (fun k_ hk_ => ⟨trivial, lt9_ HO_3.out hk_⟩); have hx13_0 := hcc13 0 _ rfl; (try simp only [show (k49).sz = 2 from rfl, Nat.mul_one, Nat.add_zero] at hx13_0); have hf13_0 := hfr13 0; (try simp only [show (k49).sz = 2 from rfl, Nat.mul_one, Nat.add_zero] at hf13_0); have hx13_1 := hcc13 1 _ rfl; (try simp only [show (k49).sz = 2 from rfl, Nat.mul_one, Nat.add_zero] at hx13_1); have hf13_1 := hfr13 1; (try simp only [show (k49).sz = 2 from rfl, Nat.mul_one, Nat.add_zero] at hf13_1); clear hcl13 hcc13 hfr13 hM13 hoki13 hH13) | ((with_reducible refine gate_store (t := 49) (p := 21) rfl ?_); refine store_event (t := 49) (p := 21) (v := ?vo_w14) (w1 := ((w11.setCell ⟨go10, (x4_1 : Int).toNat * 2, none⟩ (.string t284)).setCell ⟨go10, (x4_1 : Int).toNat * 2 + 1, none⟩ (.slice Ao12 t285.length co12))) ?hg ?ho ?hn ?hr ?_; (case ho => rfl); (case hg => rfl); (case hn => rfl); (case hr => exact hr_); intro w14 hw; have hg : w11.grownBy w14 (some go10) := (by rw [hw]; exact HP13.2); have hp_ : Kd.S k49 49 w14 w.heap.size (fun _ => True) (.slice (some ⟨go10, 0, none⟩) x3_1.length co10) y288 := (by rw [hw, Ny288.out]; exact HP13.1); clear HP13; have n0_ := am_ (hp_); have n1_ := am_ ((by rw [hw]; exact below_set (below_set (HB.out) GB10.out) GB10.out : Below w.heap.size w w14)); clear HO_3; clear HB; clear HO287; have HO_3 := n0_; have HB := n1_; clear n0_ n1_; clear hg hw hp_))
   go_roundg k1
   case measure => have := HK1.out; omega
   case rel => exact ⟨(y288), (wrap64 (x4_1 + 1)), er_, H', ⟨by have := HK1.out; omega⟩, ⟨au2_3⟩, ⟨bl_⟩⟩
/-! ### F110: function 110 -/
def F110.f (k : Nat) (a0_0 : Int) (l0_1 : List (S173)) : Option (Int × (List (S49))) := (F124.f k l0_1).bind fun t292 => (some (a0_0, t292))
theorem F110.mono : ∀ a0 a1 k, LeO (F110.f k a0 a1) (F110.f (k + 1) a0 a1) := by
 intro a0 a1 k
 unfold F110.f
 repeat' with_reducible first | exact F124.mono _ _ | exact LeO.refl _ | exact LeO.none _ | refine LeO.ite ?_ ?_ | refine LeO.bind ?_ (fun _ => ?_)
theorem F110.calls (k : Nat) (a0_0 : Int) (A0_1 : Option Addr) (c0_1 : Nat) (l0_1 : List (S173)) (r1 : Int) (r2 : List (S49)) (w : World) (hr0_1 : Kd.C k173 w A0_1 l0_1.length l0_1) (hc0_1 : l0_1.length ≤ c0_1) (h : F110.f k a0_0 l0_1 = some (r1, r2)) :
  Calls Tryz.prog 110 #[.agg #[.int .i64 a0_0, .slice A0_1 l0_1.length c0_1]] w fun e w' => ∃ v1_ : Value, e = .returned (.agg #[.int .i64 r1, v1_]) ∧ Kd.S k49 49 w' w.heap.size (fun _ => True) v1_ r2 ∧ Below w.heap.size w w' := by
 have hu148 := Tryz.underlying148
 have hu56 := Tryz.underlying56
 have HR0_1 := am_ hr0_1
 have HC0_1 := am_ hc0_1
 clear hr0_1 hc0_1
 have HB := am_ (Below.refl w.heap.size w)
 have H : ((F124.f k l0_1).bind fun t292 => (some (a0_0, t292))) = some (r1, r2) := h
 clear h
 replace H := bi_ H; rcases H with ⟨t292, A2, H⟩
 simp only [Option.some.injEq, Prod.mk.injEq] at H
 obtain ⟨rfl, rfl⟩ := H
 go_enter Tryz.func110, Tryz.ntmps110
 go_wp2_with (first | ((with_reducible refine gate_dst (N := 1) rfl ?_); refine be_ 1 #[.int .i64 a0_0, .slice A0_1 l0_1.length c0_1] 148 ?_; intro gb289 hg w3 hbox hb; have BK289 := am_ (hbox); have GW289 := am_ (gw_ hg bl_); have GE289 := GW289; replace HB := hs_ w hb; clear hb hbox hg) | ((with_reducible refine gate_dst (N := 2) rfl ?_); refine be_ 2 #[.int .i64 0, .slice none 0 0] 56 ?_; intro gb290 hg w4 hbox hb; have BK290 := am_ (hbox); have GW290 := am_ (gw_ hg bl_); have GE290 := GW290; replace HB := hs_ w hb; have NB289_290 := am_ (gn_ hg (blkl_ BK289)); have NB290_289 := am_ (gm_ hg (blkl_ BK289)); replace BK289 := bb_ BK289 hb; clear hb hbox hg) | ((with_reducible refine gate_dst (N := 3) rfl ?_); refine be_ 3 #[.int .i64 0, .slice none 0 0] 56 ?_; intro gb291 hg w5 hbox hb; have BK291 := am_ (hbox); have GW291 := am_ (gw_ hg bl_); have GE291 := GW291; replace HB := hs_ w hb; have NB289_291 := am_ (gn_ hg (blkl_ BK289)); have NB291_289 := am_ (gm_ hg (blkl_ BK289)); replace BK289 := bb_ BK289 hb; have NB290_291 := am_ (gn_ hg (blkl_ BK290)); have NB291_290 := am_ (gm_ hg (blkl_ BK290)); replace BK290 := bb_ BK290 hb; clear hb hbox hg; have hnb6 := NB289_290.out; have hnc6 := NB290_289.out; have hnb7 := NB289_291.out; have hnc7 := NB291_289.out; obtain ⟨hcz8_0, hcz8_1, hfz8_0, hfz8_1⟩ := cellsF2 BK289.out; have hnb9 := NB291_290.out; have hnc9 := NB290_291.out; obtain ⟨hcz10_0, hcz10_1, hfz10_0, hfz10_1⟩ := cellsF2 BK291.out) | ((with_reducible refine gate_callee (f := 124) rfl ?_); refine gl_ 9 Tryz.func124 #[.slice A0_1 l0_1.length c0_1] ?_ rfl rfl rfl rfl; (with_reducible refine (F124.calls k _ _ l0_1 t292 _ ?s1 ?s2 A2.out).mono ?_); (case s1 => exact Kd.C_below HR0_1.out bl_); (case s2 => exact HC0_1.out); rintro e w11 ⟨v293, rfl, ho0, hb⟩; refine ⟨_, rfl, ?_⟩; have HO294 := am_ (Kd.S_lower ho0 (below_size bl_)); replace BK289 := am_ (blk_below (g := gb289) (o := .cells #[.int .i64 a0_0, .slice A0_1 l0_1.length c0_1] 148 (0, 0)) (bf_ BK289) hb); replace BK290 := am_ (blk_below (g := gb290) (o := .cells #[.int .i64 0, .slice none 0 0] 56 (0, 0)) (bf_ BK290) hb); replace BK291 := am_ (blk_below (g := gb291) (o := .cells #[.int .i64 a0_0, .slice none 0 0] 56 (0, 0)) (bq_ BK291) hb); replace HB := hs_ w hb; (try clear hb); (try clear ho0); obtain ⟨Ao12, co12, eo12⟩ := Kd.S_slice HO294.out; subst eo12; obtain ⟨hcz13_0, hcz13_1, hfz13_0, hfz13_1⟩ := cellsF2 BK291.out; obtain ⟨hcz14_0, hcz14_1, hfz14_0, hfz14_1⟩ := cellsF2 BK290.out))
 refine bodyPost_ret (results_cell_row rfl _ _ gb290 56 #[.int .i64 a0_0, .slice Ao12 t292.length co12] (0, 0) _ rfl (bq_ BK290) Tryz.underlying56 rfl (by kernel_rfl)) rfl ?_
 exact ⟨_, au2_0, by (with_reducible repeat (first | apply Kd.S_alloc | apply Kd.S_drewN | apply Kd.S_drew)); exact Kd.S_mono (Kd.S_far (p := ⟨gb290, 1, none⟩) (Kd.S_far (p := ⟨gb290, 0, none⟩) (Kd.S_far (p := ⟨gb291, 1, none⟩) (Kd.S_types (Kd.S_types HO294.out BK291.out (by decide)) BK290.out (by decide)) (fun _ hk => hk.1.2) (.slice Ao12 t292.length co12)) (fun _ hk => hk.2) (.int .i64 a0_0)) (fun _ hk => hk.2) (.slice Ao12 t292.length co12)) (fun _ hk => trivial), bl_⟩

/-! ### F89: function 89 -/
def F89.l0 : Nat → List (S148) → List (S56) → Int → Option ((List (S56)))
  | 0, _, _, _ => none
  | k + 1, x0, x3, x4 => if x4 < (x0.length : Int) then (if 0 ≤ x4 then ((F110.f k ((rd_T148 x0 x4).f0) ((rd_T148 x0 x4).f1)).bind fun bt299 => (if x4 < (x3.length : Int) then (F89.l0 k x0 (x3.set (x4 : Int).toNat (⟨bt299.1, bt299.2⟩ : S56)) (wrap64 (x4 + 1))) else (none))) else (none)) else (some x3)
def F89.f (k : Nat) (l0 : List (S148)) : Option ((List (S56))) := if 0 ≤ (l0.length : Int) then (if ((l0.length : Int) : Int).toNat ≤ 8796093022208 then (F89.l0 k l0 (List.replicate ((l0.length : Int) : Int).toNat z56) 0) else (none)) else (none)
theorem F89.mono_l : ∀ k, (∀ y0 y1 y2, LeO (F89.l0 k y0 y1 y2) (F89.l0 (k + 1) y0 y1 y2))
 | 0 => fun _ _ _ r h => by simp [F89.l0] at h
 | k + 1 => by
  have ih0 := F89.mono_l k
  intro y0 y1 y2
  unfold F89.l0
  repeat' with_reducible first | exact ih0 _ _ _ | exact F110.mono _ _ _ | exact LeO.refl _ | exact LeO.none _ | refine LeO.ite ?_ ?_ | refine LeO.bind ?_ (fun _ => ?_)
theorem F89.mono : ∀ a0 k, LeO (F89.f k a0) (F89.f (k + 1) a0) := by
 intro a0 k
 have ih0 := F89.mono_l k
 unfold F89.f
 repeat' with_reducible first | exact ih0 _ _ _ | exact F110.mono _ _ _ | exact LeO.refl _ | exact LeO.none _ | refine LeO.ite ?_ ?_ | refine LeO.bind ?_ (fun _ => ?_)
theorem F89.calls (k : Nat) (A0 : Option Addr) (c0 : Nat) (l0 : List (S148)) (r : List (S56)) (w : World) (hr0 : Kd.C k148 w A0 l0.length l0) (hc0 : l0.length ≤ c0) (h : F89.f k l0 = some r) :
  Calls Tryz.prog 89 #[.slice A0 l0.length c0] w fun e w' => ∃ v0_ : Value, e = .returned (v0_) ∧ Kd.S k56 56 w' w.heap.size (fun _ => True) v0_ r ∧ Below w.heap.size w w' := by
 have hu148 := Tryz.underlying148
 have hu56 := Tryz.underlying56
 have HR0 := am_ hr0
 have HC0 := am_ hc0
 clear hr0 hc0
 have HB := am_ (Below.refl w.heap.size w)
 have H : (if 0 ≤ (l0.length : Int) then (if ((l0.length : Int) : Int).toNat ≤ 8796093022208 then (F89.l0 k l0 (List.replicate ((l0.length : Int) : Int).toNat z56) 0) else (none)) else (none)) = some r := h
 clear h
 by_cases c2 : 0 ≤ (l0.length : Int)
 rotate_left
 ·rw [if_neg c2] at H
  exact absurd H (by simp)

 rw [if_pos c2] at H
 have c2b0 := eq_true c2
 have c2b1 : decide (0 ≤ (l0.length : Int)) = true := decide_eq_true c2
 clear c2
 by_cases c3 : ((l0.length : Int) : Int).toNat ≤ 8796093022208
 rotate_left
 ·rw [if_neg c3] at H
  exact absurd H (by simp)
 rw [if_pos c3] at H
 have c3b0 := eq_true c3
 have c3b1 : decide (((l0.length : Int) : Int).toNat ≤ 8796093022208) = true := decide_eq_true c3
 clear c3
 obtain ⟨y295, hy295⟩ : ∃ y_ : List (S56), y_ = (List.replicate ((l0.length : Int) : Int).toNat z56) := ⟨_, rfl⟩
 replace H : (F89.l0 k l0 y295 0) = some r := by first | (rw [hy295]; exact H) | exact H
 have Ny295 := am_ hy295
 clear hy295
 have H' := am_ H
 clear H
 go_enter Tryz.func89, Tryz.ntmps89
 go_wp2_with (first | ((with_reducible refine gate_dst (N := 7) rfl ?_); refine Kd.S_make k56 _ 56 rfl (N := 7) rfl 51 _ _ rfl (l0.length : Int) rfl rfl Tryz.underlying51 (.agg #[(.int .i64 0), (.slice none 0 0)]) 32 info56 rfl (by decide) (by omega) z56 (ok := fun _ => True) (okp := fun _ => True) (k56_mkM _ _ _ z56 au2_15) (fun _ hk => hk) trivial (of_decide_eq_true as_) (Nat.le_trans (Nat.mul_le_mul_right _ (of_decide_eq_true as_ : (l0.length : Int).toNat ≤ 8796093022208)) (by omega)) (Below.refl _ _) (Nat.le_refl _) ?_; intro v296 w4 ho5 hb hg_ hnew_; clear hg_ hnew_; (first | rw [← Ny295.out] at ho5 | (simp only [Int.reduceToNat] at ho5; rw [← Ny295.out] at ho5)); have HO297 := am_ (Kd.S_lower ho5 (below_size bl_)); replace HB := hs_ w hb; clear hb ho5))
 go_loopg [4] k (fun kq v4 w' => ∃ (x3_1 : List (S56)) (x4_1 : Int), v4 = .int .i64 x4_1 ∧ Aside0 (F89.l0 kq l0 x3_1 x4_1 = some r) ∧ Aside0 (kq ≤ k) ∧ Aside0 (Kd.S k56 56 w' w.heap.size (fun _ => True) v296 x3_1) ∧ Aside0 (Below w.heap.size w w'))
 case atStart => exact ⟨(y295), (0), er_, H', ⟨Nat.le_refl _⟩, ⟨by (with_reducible repeat (first | apply Kd.S_alloc | apply Kd.S_drewN | apply Kd.S_drew)); exact HO297.out⟩, ⟨bl_⟩⟩
 case round =>
  clear H'
  try clear c2
  try clear c2b0
  try clear c2b1
  try clear c3
  try clear c3b0
  try clear c3b1
  obtain ⟨x3_1, x4_1, rfl, HA, HK1, HO_3, HB⟩ := hrel
  cases gk with
  | zero => exact absurd HA.out (by simp [F89.l0])
  | succ k1 =>
   have H := HA.out
   clear HA
   simp only [F89.l0] at H
   replace H := it_ H; rcases H with ⟨c6b0, H⟩ | ⟨c6b0, H⟩
   rotate_left
   ·obtain rfl := Option.some.inj H
    go_wp2
    go_ret
    exact ⟨_, au2_0, au2_3, bl_⟩
   replace H := itn_ H; rcases H with ⟨c7b0, H⟩
   replace H := bi_ H; rcases H with ⟨⟨t299, t300⟩, A8, H⟩
   replace H := itn_ H; rcases H with ⟨c9b0, H⟩
   obtain ⟨y303, hy303⟩ : ∃ y_ : List (S56), y_ = (x3_1.set (x4_1 : Int).toNat (⟨t299, t300⟩ : S56)) := ⟨_, rfl⟩
   replace H : (F89.l0 k1 l0 y303 (wrap64 (x4_1 + 1))) = some r := by first | (rw [hy303]; exact H) | exact H
   have Ny303 := am_ hy303
   clear hy303
   have H' := am_ H
   clear H
   have p298 : 0 ≤ (x4_1 : Int) := od_
   have q298 : x4_1 < (l0.length : Int) := od_
   obtain ⟨ad298, A298_1, c298_1, e298, hx298_0, hx298_1, hl298_1, hi298_1⟩ := at_T148 HR0.out x4_1 p298 q298
   cases e298
   replace hx298_0 := (HB.out.cell (World.block_lt_of_cell? _ _ hx298_0)).trans hx298_0
   replace hx298_1 := (HB.out.cell (World.block_lt_of_cell? _ _ hx298_1)).trans hx298_1
   have HR298_1 := am_ hi298_1
   have HC298_1 := am_ hl298_1
   clear hi298_1 hl298_1
   replace p298 := eq_true p298
   replace q298 := eq_true q298
   go_wp2_with (first | ((with_reducible refine gate_callee (f := 110) rfl ?_); refine gl_ 20 Tryz.func110 #[.agg #[.int .i64 ((rd_T148 l0 x4_1).f0), .slice A298_1 ((rd_T148 l0 x4_1).f1).length c298_1]] ?_ rfl rfl rfl rfl; (with_reducible refine (F110.calls k1 ((rd_T148 l0 x4_1).f0) _ _ ((rd_T148 l0 x4_1).f1) t299 t300 _ ?s1 ?s2 A8.out).mono ?_); (case s1 => repeat (first | exact (Kd.C_below HR298_1.out HB.out) | (with_reducible refine Kd.C_alloc ?_ _) | (with_reducible refine Kd.C_drewN ?_ _) | (with_reducible refine Kd.C_drew ?_))); (case s2 => exact HC298_1.out); rintro e w11 ⟨v301, rfl, ho0, hb⟩; refine ⟨_, rfl, ?_⟩; obtain ⟨b9_, hb9_, ho9_⟩ := nb9_ ho0; replace HO_3 := am_ (Kd.S_elder' (Kd.S_mono (Kd.S_bound au2_1) (fun k_ hk_ => (⟨hb9_ _ hk_.2.2.1, hk_.1⟩ : k_ < b9_ ∧ _))) (Kd.S_base ho0) hb); have HO302 := am_ (Kd.S_lower ho9_ (below_size bl_)); replace HB := hs_ w hb; (try clear hb); (try clear hb2); (try clear hk); (try clear hi); (try clear ho0); have p10 : 0 ≤ (x4_1 : Int) := od_; have q10 : (x4_1 : Int) < ((x3_1.length : Int) : Int) := od_; obtain ⟨go10, co10, eo10, gb10, gl10, cl10, HG10⟩ := Kd.S_form HO_3.out (by omega); (first | cases eo10 | (injection eo10 with ea_ en_ ec_; (first | subst ea_ | (injection ea_ with ea_; subst ea_)); subst ec_; clear en_)); have GB10 := am_ gb10; have GG10 := am_ HG10; clear gb10 gl10 HG10; obtain ⟨_, ce10, hcl10, hM10, hcc10, hfr10, _, _⟩ := Kd.S_elem HO_3.out z56 (x4_1 : Int) p10 q10; obtain ⟨ve10_1, rfl, ge10_1⟩ := k56_openM hM10; have hx10_0 : w11.cell? ⟨go10, (x4_1 : Int).toNat * 2, none⟩ = some (.int .i64 ((rd_T56 x3_1 x4_1).f0)) := hcc10 0 _ rfl; have hx10_1 : w11.cell? ⟨go10, (x4_1 : Int).toNat * 2 + 1, none⟩ = some (ve10_1) := hcc10 1 _ rfl; have hf10_0 : w11.frozen? ⟨go10, (x4_1 : Int).toNat * 2, none⟩ = false := hfr10 0; have hf10_1 : w11.frozen? ⟨go10, (x4_1 : Int).toNat * 2 + 1, none⟩ = false := hfr10 1; clear hcl10 hcc10 hfr10 hM10; replace p10 := eq_true p10; replace q10 := eq_true q10; obtain ⟨Ao12, co12, eo12⟩ := Kd.S_slice HO302.out; subst eo12; have n_ := am_ (Kd.S_mono (ok' := (fun k_ => k_ < b9_ ∧ some k_ ≠ (.slice Ao12 t300.length co12 : Value).ownBlock)) HO_3.out (fun k_ hk => ⟨hk.1.1, hk.2⟩)); clear HO_3; have HO_3 := n_; clear n_; have HX13 := am_ (show Kd.S k56 56 w11 w.heap.size (fun k_ => ((fun _ => True)) k_ ∧ ¬ ((fun k_ => b9_ ≤ k_)) k_) (.slice (some ⟨go10, 0, none⟩) x3_1.length co10) x3_1 from au2_9); obtain ⟨oki13, ce13, hcl13, hM13, hcc13, hfr13, hoki13, hH13⟩ := Kd.S_elem HX13.out z56 (x4_1 : Int) (of_decide_eq_true as_) (by have h_ : (x4_1 : Int) < ((x3_1.length : Int) : Int) := od_; first | exact h_ | (have e_ := (Kd.S_reads' HO_3.out).1; omega) | simpa using h_); obtain ⟨ve13_1, rfl, ge13_1⟩ := k56_openM hM13; have HP13 := Kd.S_seg hH13 (of_decide_eq_true as_) (by have h_ : (x4_1 : Int) < ((x3_1.length : Int) : Int) := od_; first | exact h_ | (have e_ := (Kd.S_reads' HO_3.out).1; omega) | simpa using h_) (seg := [.int .i64 t299, .slice Ao12 t300.length co12]) (j := 0) (show 2 ≤ 2 from by decide) (x' := (⟨t299, t300⟩ : S56)) (k56_mkM _ _ _ (⟨t299, t300⟩ : S56) (Kd.S_mono HO302.out (fun _ h_ => Or.inr h_))) (fun _ hk => hk) (fun k_ hk_ => ⟨trivial, lt9_ HO_3.out hk_⟩); have hx13_0 := hcc13 0 _ rfl; (try simp only [show (k56).sz = 2 from rfl, Nat.mul_one, Nat.add_zero] at hx13_0); have hf13_0 := hfr13 0; (try simp only [show (k56).sz = 2 from rfl, Nat.mul_one, Nat.add_zero] at hf13_0); have hx13_1 := hcc13 1 _ rfl; (try simp only [show (k56).sz = 2 from rfl, Nat.mul_one, Nat.add_zero] at hx13_1); have hf13_1 := hfr13 1; (try simp only [show (k56).sz = 2 from rfl, Nat.mul_one, Nat.add_zero] at hf13_1); clear hcl13 hcc13 hfr13 hM13 hoki13 hH13) | ((with_reducible refine gate_store (t := 56) (p := 21) rfl ?_); refine store_event (t := 56) (p := 21) (v := ?vo_w14) (w1 := ((w11.setCell ⟨go10, (x4_1 : Int).toNat * 2, none⟩ (.int .i64 t299)).setCell ⟨go10, (x4_1 : Int).toNat * 2 + 1, none⟩ (.slice Ao12 t300.length co12))) ?hg ?ho ?hn ?hr ?_; (case ho => rfl); (case hg => rfl); (case hn => rfl); (case hr => exact hr_); intro w14 hw; have hg : w11.grownBy w14 (some go10) := (by rw [hw]; exact HP13.2); have hp_ : Kd.S k56 56 w14 w.heap.size (fun _ => True) (.slice (some ⟨go10, 0, none⟩) x3_1.length co10) y303 := (by rw [hw, Ny303.out]; exact HP13.1); clear HP13; have n0_ := am_ (hp_); have n1_ := am_ ((by rw [hw]; exact below_set (below_set (HB.out) GB10.out) GB10.out : Below w.heap.size w w14)); clear HO_3; clear HB; clear HO302; have HO_3 := n0_; have HB := n1_; clear n0_ n1_; clear hg hw hp_))
   go_roundg k1
   case measure => have := HK1.out; omega
   case rel => exact ⟨(y303), (wrap64 (x4_1 + 1)), er_, H', ⟨by have := HK1.out; omega⟩, ⟨au2_3⟩, ⟨bl_⟩⟩
/-! ### F53: function 53 -/
def F53.f (k : Nat) (a0_0 : Int) (a0_1 : Int) (l0_2 : List (S148)) : Option (Int × Int × (List (S56))) := (F89.f k l0_2).bind fun t307 => (some (a0_0, a0_1, t307))
theorem F53.mono : ∀ a0 a1 a2 k, LeO (F53.f k a0 a1 a2) (F53.f (k + 1) a0 a1 a2) := by
 intro a0 a1 a2 k
 unfold F53.f
 repeat' with_reducible first | exact F89.mono _ _ | exact LeO.refl _ | exact LeO.none _ | refine LeO.ite ?_ ?_ | refine LeO.bind ?_ (fun _ => ?_)
theorem F53.calls (k : Nat) (a0_0 : Int) (a0_1 : Int) (A0_2 : Option Addr) (c0_2 : Nat) (l0_2 : List (S148)) (r1 : Int) (r2 : Int) (r3 : List (S56)) (w : World) (hr0_2 : Kd.C k148 w A0_2 l0_2.length l0_2) (hc0_2 : l0_2.length ≤ c0_2) (h : F53.f k a0_0 a0_1 l0_2 = some (r1, r2, r3)) :
  Calls Tryz.prog 53 #[.agg #[.int .i64 a0_0, .int .i64 a0_1, .slice A0_2 l0_2.length c0_2]] w fun e w' => ∃ v2_ : Value, e = .returned (.agg #[.int .i64 r1, .int .i64 r2, v2_]) ∧ Kd.S k56 56 w' w.heap.size (fun _ => True) v2_ r3 ∧ Below w.heap.size w w' := by
 have hu89 := Tryz.underlying89
 have hu53 := Tryz.underlying53
 have HR0_2 := am_ hr0_2
 have HC0_2 := am_ hc0_2
 clear hr0_2 hc0_2
 have HB := am_ (Below.refl w.heap.size w)
 have H : ((F89.f k l0_2).bind fun t307 => (some (a0_0, a0_1, t307))) = some (r1, r2, r3) := h
 clear h
 replace H := bi_ H; rcases H with ⟨t307, A2, H⟩
 simp only [Option.some.injEq, Prod.mk.injEq] at H
 obtain ⟨rfl, rfl, rfl⟩ := H
 go_enter Tryz.func53, Tryz.ntmps53
 go_wp2_with (first | ((with_reducible refine gate_dst (N := 1) rfl ?_); refine be_ 1 #[.int .i64 a0_0, .int .i64 a0_1, .slice A0_2 l0_2.length c0_2] 89 ?_; intro gb304 hg w3 hbox hb; have BK304 := am_ (hbox); have GW304 := am_ (gw_ hg bl_); have GE304 := GW304; replace HB := hs_ w hb; clear hb hbox hg) | ((with_reducible refine gate_dst (N := 2) rfl ?_); refine be_ 2 #[.int .i64 0, .int .i64 0, .slice none 0 0] 53 ?_; intro gb305 hg w4 hbox hb; have BK305 := am_ (hbox); have GW305 := am_ (gw_ hg bl_); have GE305 := GW305; replace HB := hs_ w hb; have NB304_305 := am_ (gn_ hg (blkl_ BK304)); have NB305_304 := am_ (gm_ hg (blkl_ BK304)); replace BK304 := bb_ BK304 hb; clear hb hbox hg) | ((with_reducible refine gate_dst (N := 3) rfl ?_); refine be_ 3 #[.int .i64 0, .int .i64 0, .slice none 0 0] 53 ?_; intro gb306 hg w5 hbox hb; have BK306 := am_ (hbox); have GW306 := am_ (gw_ hg bl_); have GE306 := GW306; replace HB := hs_ w hb; have NB304_306 := am_ (gn_ hg (blkl_ BK304)); have NB306_304 := am_ (gm_ hg (blkl_ BK304)); replace BK304 := bb_ BK304 hb; have NB305_306 := am_ (gn_ hg (blkl_ BK305)); have NB306_305 := am_ (gm_ hg (blkl_ BK305)); replace BK305 := bb_ BK305 hb; clear hb hbox hg; have hnb6 := NB304_305.out; have hnc6 := NB305_304.out; have hnb7 := NB304_306.out; have hnc7 := NB306_304.out; obtain ⟨hcz8_0, hcz8_1, hcz8_2, hfz8_0, hfz8_1, hfz8_2⟩ := cellsF3 BK304.out; have hnb9 := NB306_305.out; have hnc9 := NB305_306.out; obtain ⟨hcz10_0, hcz10_1, hcz10_2, hfz10_0, hfz10_1, hfz10_2⟩ := cellsF3 BK306.out) | ((with_reducible refine gate_callee (f := 89) rfl ?_); refine gl_ 12 Tryz.func89 #[.slice A0_2 l0_2.length c0_2] ?_ rfl rfl rfl rfl; (with_reducible refine (F89.calls k _ _ l0_2 t307 _ ?s1 ?s2 A2.out).mono ?_); (case s1 => exact Kd.C_below HR0_2.out bl_); (case s2 => exact HC0_2.out); rintro e w11 ⟨v308, rfl, ho0, hb⟩; refine ⟨_, rfl, ?_⟩; have HO309 := am_ (Kd.S_lower ho0 (below_size bl_)); replace BK304 := am_ (blk_below (g := gb304) (o := .cells #[.int .i64 a0_0, .int .i64 a0_1, .slice A0_2 l0_2.length c0_2] 89 (0, 0)) (bf_ BK304) hb); replace BK305 := am_ (blk_below (g := gb305) (o := .cells #[.int .i64 0, .int .i64 0, .slice none 0 0] 53 (0, 0)) (bf_ BK305) hb); replace BK306 := am_ (blk_below (g := gb306) (o := .cells #[.int .i64 a0_0, .int .i64 a0_1, .slice none 0 0] 53 (0, 0)) (bq_ BK306) hb); replace HB := hs_ w hb; (try clear hb); (try clear ho0); obtain ⟨Ao12, co12, eo12⟩ := Kd.S_slice HO309.out; subst eo12; obtain ⟨hcz13_0, hcz13_1, hcz13_2, hfz13_0, hfz13_1, hfz13_2⟩ := cellsF3 BK306.out; obtain ⟨hcz14_0, hcz14_1, hcz14_2, hfz14_0, hfz14_1, hfz14_2⟩ := cellsF3 BK305.out))
 refine bodyPost_ret (results_cell_row rfl _ _ gb305 53 #[.int .i64 a0_0, .int .i64 a0_1, .slice Ao12 t307.length co12] (0, 0) _ rfl (bq_ BK305) Tryz.underlying53 rfl (by kernel_rfl)) rfl ?_
 exact ⟨_, au2_0, by (with_reducible repeat (first | apply Kd.S_alloc | apply Kd.S_drewN | apply Kd.S_drew)); exact Kd.S_mono (Kd.S_far (p := ⟨gb305, 2, none⟩) (Kd.S_far (p := ⟨gb305, 1, none⟩) (Kd.S_far (p := ⟨gb305, 0, none⟩) (Kd.S_far (p := ⟨gb306, 2, none⟩) (Kd.S_types (Kd.S_types HO309.out BK306.out (by decide)) BK305.out (by decide)) (fun _ hk => hk.1.2) (.slice Ao12 t307.length co12)) (fun _ hk => hk.2) (.int .i64 a0_0)) (fun _ hk => hk.2) (.int .i64 a0_1)) (fun _ hk => hk.2) (.slice Ao12 t307.length co12)) (fun _ hk => trivial), bl_⟩

/-! ### F28: function 28 -/
def F28.l0 : Nat → List (S89) → List (S53) → Int → Option ((List (S53)))
  | 0, _, _, _ => none
  | k + 1, x0, x3, x4 => if x4 < (x0.length : Int) then (if 0 ≤ x4 then ((F53.f k ((rd_T89 x0 x4).f0) ((rd_T89 x0 x4).f1) ((rd_T89 x0 x4).f2)).bind fun bt314 => (if x4 < (x3.length : Int) then (F28.l0 k x0 (x3.set (x4 : Int).toNat (⟨bt314.1, bt314.2.1, bt314.2.2⟩ : S53)) (wrap64 (x4 + 1))) else (none))) else (none)) else (some x3)
def F28.f (k : Nat) (l0 : List (S89)) : Option ((List (S53))) := if 0 ≤ (l0.length : Int) then (if ((l0.length : Int) : Int).toNat ≤ 7036874417766 then (F28.l0 k l0 (List.replicate ((l0.length : Int) : Int).toNat z53) 0) else (none)) else (none)
theorem F28.mono_l : ∀ k, (∀ y0 y1 y2, LeO (F28.l0 k y0 y1 y2) (F28.l0 (k + 1) y0 y1 y2))
 | 0 => fun _ _ _ r h => by simp [F28.l0] at h
 | k + 1 => by
  have ih0 := F28.mono_l k
  intro y0 y1 y2
  unfold F28.l0
  repeat' with_reducible first | exact ih0 _ _ _ | exact F53.mono _ _ _ _ | exact LeO.refl _ | exact LeO.none _ | refine LeO.ite ?_ ?_ | refine LeO.bind ?_ (fun _ => ?_)
theorem F28.mono : ∀ a0 k, LeO (F28.f k a0) (F28.f (k + 1) a0) := by
 intro a0 k
 have ih0 := F28.mono_l k
 unfold F28.f
 repeat' with_reducible first | exact ih0 _ _ _ | exact F53.mono _ _ _ _ | exact LeO.refl _ | exact LeO.none _ | refine LeO.ite ?_ ?_ | refine LeO.bind ?_ (fun _ => ?_)
theorem F28.calls (k : Nat) (A0 : Option Addr) (c0 : Nat) (l0 : List (S89)) (r : List (S53)) (w : World) (hr0 : Kd.C k89 w A0 l0.length l0) (hc0 : l0.length ≤ c0) (h : F28.f k l0 = some r) :
  Calls Tryz.prog 28 #[.slice A0 l0.length c0] w fun e w' => ∃ v0_ : Value, e = .returned (v0_) ∧ Kd.S k53 53 w' w.heap.size (fun _ => True) v0_ r ∧ Below w.heap.size w w' := by
 have hu89 := Tryz.underlying89
 have hu53 := Tryz.underlying53
 have HR0 := am_ hr0
 have HC0 := am_ hc0
 clear hr0 hc0
 have HB := am_ (Below.refl w.heap.size w)
 have H : (if 0 ≤ (l0.length : Int) then (if ((l0.length : Int) : Int).toNat ≤ 7036874417766 then (F28.l0 k l0 (List.replicate ((l0.length : Int) : Int).toNat z53) 0) else (none)) else (none)) = some r := h
 clear h
 by_cases c2 : 0 ≤ (l0.length : Int)
 rotate_left
 ·rw [if_neg c2] at H
  exact absurd H (by simp)

 rw [if_pos c2] at H
 have c2b0 := eq_true c2
 have c2b1 : decide (0 ≤ (l0.length : Int)) = true := decide_eq_true c2
 clear c2
 by_cases c3 : ((l0.length : Int) : Int).toNat ≤ 7036874417766
 rotate_left
 ·rw [if_neg c3] at H
  exact absurd H (by simp)
 rw [if_pos c3] at H
 have c3b0 := eq_true c3
 have c3b1 : decide (((l0.length : Int) : Int).toNat ≤ 7036874417766) = true := decide_eq_true c3
 clear c3
 obtain ⟨y310, hy310⟩ : ∃ y_ : List (S53), y_ = (List.replicate ((l0.length : Int) : Int).toNat z53) := ⟨_, rfl⟩
 replace H : (F28.l0 k l0 y310 0) = some r := by first | (rw [hy310]; exact H) | exact H
 have Ny310 := am_ hy310
 clear hy310
 have H' := am_ H
 clear H
 go_enter Tryz.func28, Tryz.ntmps28
 go_wp2_with (first | ((with_reducible refine gate_dst (N := 7) rfl ?_); refine Kd.S_make k53 _ 53 rfl (N := 7) rfl 28 _ _ rfl (l0.length : Int) rfl rfl Tryz.underlying28 (.agg #[(.int .i64 0), (.int .i64 0), (.slice none 0 0)]) 40 info53 rfl (by decide) (by omega) z53 (ok := fun _ => True) (okp := fun _ => True) (k53_mkM _ _ _ z53 au2_15) (fun _ hk => hk) trivial (of_decide_eq_true as_) (Nat.le_trans (Nat.mul_le_mul_right _ (of_decide_eq_true as_ : (l0.length : Int).toNat ≤ 7036874417766)) (by omega)) (Below.refl _ _) (Nat.le_refl _) ?_; intro v311 w4 ho5 hb hg_ hnew_; clear hg_ hnew_; (first | rw [← Ny310.out] at ho5 | (simp only [Int.reduceToNat] at ho5; rw [← Ny310.out] at ho5)); have HO312 := am_ (Kd.S_lower ho5 (below_size bl_)); replace HB := hs_ w hb; clear hb ho5))
 go_loopg [4] k (fun kq v4 w' => ∃ (x3_1 : List (S53)) (x4_1 : Int), v4 = .int .i64 x4_1 ∧ Aside0 (F28.l0 kq l0 x3_1 x4_1 = some r) ∧ Aside0 (kq ≤ k) ∧ Aside0 (Kd.S k53 53 w' w.heap.size (fun _ => True) v311 x3_1) ∧ Aside0 (Below w.heap.size w w'))
 case atStart => exact ⟨(y310), (0), er_, H', ⟨Nat.le_refl _⟩, ⟨by (with_reducible repeat (first | apply Kd.S_alloc | apply Kd.S_drewN | apply Kd.S_drew)); exact HO312.out⟩, ⟨bl_⟩⟩
 case round =>
  clear H'
  try clear c2
  try clear c2b0
  try clear c2b1
  try clear c3
  try clear c3b0
  try clear c3b1
  obtain ⟨x3_1, x4_1, rfl, HA, HK1, HO_3, HB⟩ := hrel
  cases gk with
  | zero => exact absurd HA.out (by simp [F28.l0])
  | succ k1 =>
   have H := HA.out
   clear HA
   simp only [F28.l0] at H
   replace H := it_ H; rcases H with ⟨c6b0, H⟩ | ⟨c6b0, H⟩
   rotate_left
   ·obtain rfl := Option.some.inj H
    go_wp2
    go_ret
    exact ⟨_, au2_0, au2_3, bl_⟩
   replace H := itn_ H; rcases H with ⟨c7b0, H⟩
   replace H := bi_ H; rcases H with ⟨⟨t314, t315, t316⟩, A8, H⟩
   replace H := itn_ H; rcases H with ⟨c9b0, H⟩
   obtain ⟨y319, hy319⟩ : ∃ y_ : List (S53), y_ = (x3_1.set (x4_1 : Int).toNat (⟨t314, t315, t316⟩ : S53)) := ⟨_, rfl⟩
   replace H : (F28.l0 k1 l0 y319 (wrap64 (x4_1 + 1))) = some r := by first | (rw [hy319]; exact H) | exact H
   have Ny319 := am_ hy319
   clear hy319
   have H' := am_ H
   clear H
   have p313 : 0 ≤ (x4_1 : Int) := od_
   have q313 : x4_1 < (l0.length : Int) := od_
   obtain ⟨ad313, A313_2, c313_2, e313, hx313_0, hx313_1, hx313_2, hl313_2, hi313_2⟩ := at_T89 HR0.out x4_1 p313 q313
   cases e313
   replace hx313_0 := (HB.out.cell (World.block_lt_of_cell? _ _ hx313_0)).trans hx313_0
   replace hx313_1 := (HB.out.cell (World.block_lt_of_cell? _ _ hx313_1)).trans hx313_1
   replace hx313_2 := (HB.out.cell (World.block_lt_of_cell? _ _ hx313_2)).trans hx313_2
   have HR313_2 := am_ hi313_2
   have HC313_2 := am_ hl313_2
   clear hi313_2 hl313_2
   replace p313 := eq_true p313
   replace q313 := eq_true q313
   go_wp2_with (first | ((with_reducible refine gate_callee (f := 53) rfl ?_); refine gl_ 20 Tryz.func53 #[.agg #[.int .i64 ((rd_T89 l0 x4_1).f0), .int .i64 ((rd_T89 l0 x4_1).f1), .slice A313_2 ((rd_T89 l0 x4_1).f2).length c313_2]] ?_ rfl rfl rfl rfl; (with_reducible refine (F53.calls k1 ((rd_T89 l0 x4_1).f0) ((rd_T89 l0 x4_1).f1) _ _ ((rd_T89 l0 x4_1).f2) t314 t315 t316 _ ?s1 ?s2 A8.out).mono ?_); (case s1 => repeat (first | exact (Kd.C_below HR313_2.out HB.out) | (with_reducible refine Kd.C_alloc ?_ _) | (with_reducible refine Kd.C_drewN ?_ _) | (with_reducible refine Kd.C_drew ?_))); (case s2 => exact HC313_2.out); rintro e w11 ⟨v317, rfl, ho0, hb⟩; refine ⟨_, rfl, ?_⟩; obtain ⟨b9_, hb9_, ho9_⟩ := nb9_ ho0; replace HO_3 := am_ (Kd.S_elder' (Kd.S_mono (Kd.S_bound au2_1) (fun k_ hk_ => (⟨hb9_ _ hk_.2.2.1, hk_.1⟩ : k_ < b9_ ∧ _))) (Kd.S_base ho0) hb); have HO318 := am_ (Kd.S_lower ho9_ (below_size bl_)); replace HB := hs_ w hb; (try clear hb); (try clear hb2); (try clear hk); (try clear hi); (try clear ho0); have p10 : 0 ≤ (x4_1 : Int) := od_; have q10 : (x4_1 : Int) < ((x3_1.length : Int) : Int) := od_; obtain ⟨go10, co10, eo10, gb10, gl10, cl10, HG10⟩ := Kd.S_form HO_3.out (by omega); (first | cases eo10 | (injection eo10 with ea_ en_ ec_; (first | subst ea_ | (injection ea_ with ea_; subst ea_)); subst ec_; clear en_)); have GB10 := am_ gb10; have GG10 := am_ HG10; clear gb10 gl10 HG10; obtain ⟨_, ce10, hcl10, hM10, hcc10, hfr10, _, _⟩ := Kd.S_elem HO_3.out z53 (x4_1 : Int) p10 q10; obtain ⟨ve10_2, rfl, ge10_2⟩ := k53_openM hM10; have hx10_0 : w11.cell? ⟨go10, (x4_1 : Int).toNat * 3, none⟩ = some (.int .i64 ((rd_T53 x3_1 x4_1).f0)) := hcc10 0 _ rfl; have hx10_1 : w11.cell? ⟨go10, (x4_1 : Int).toNat * 3 + 1, none⟩ = some (.int .i64 ((rd_T53 x3_1 x4_1).f1)) := hcc10 1 _ rfl; have hx10_2 : w11.cell? ⟨go10, (x4_1 : Int).toNat * 3 + 2, none⟩ = some (ve10_2) := hcc10 2 _ rfl; have hf10_0 : w11.frozen? ⟨go10, (x4_1 : Int).toNat * 3, none⟩ = false := hfr10 0; have hf10_1 : w11.frozen? ⟨go10, (x4_1 : Int).toNat * 3 + 1, none⟩ = false := hfr10 1; have hf10_2 : w11.frozen? ⟨go10, (x4_1 : Int).toNat * 3 + 2, none⟩ = false := hfr10 2; clear hcl10 hcc10 hfr10 hM10; replace p10 := eq_true p10; replace q10 := eq_true q10; obtain ⟨Ao12, co12, eo12⟩ := Kd.S_slice HO318.out; subst eo12; have n_ := am_ (Kd.S_mono (ok' := (fun k_ => k_ < b9_ ∧ some k_ ≠ (.slice Ao12 t316.length co12 : Value).ownBlock)) HO_3.out (fun k_ hk => ⟨hk.1.1, hk.2⟩)); clear HO_3; have HO_3 := n_; clear n_; have HX13 := am_ (show Kd.S k53 53 w11 w.heap.size (fun k_ => ((fun _ => True)) k_ ∧ ¬ ((fun k_ => b9_ ≤ k_)) k_) (.slice (some ⟨go10, 0, none⟩) x3_1.length co10) x3_1 from au2_9); obtain ⟨oki13, ce13, hcl13, hM13, hcc13, hfr13, hoki13, hH13⟩ := Kd.S_elem HX13.out z53 (x4_1 : Int) (of_decide_eq_true as_) (by have h_ : (x4_1 : Int) < ((x3_1.length : Int) : Int) := od_; first | exact h_ | (have e_ := (Kd.S_reads' HO_3.out).1; omega) | simpa using h_); obtain ⟨ve13_2, rfl, ge13_2⟩ := k53_openM hM13; have HP13 := Kd.S_seg hH13 (of_decide_eq_true as_) (by have h_ : (x4_1 : Int) < ((x3_1.length : Int) : Int) := od_; first | exact h_ | (have e_ := (Kd.S_reads' HO_3.out).1; omega) | simpa using h_) (seg := [.int .i64 t314, .int .i64 t315, .slice Ao12 t316.length co12]) (j := 0) (show 3 ≤ 3 from by decide) (x' := (⟨t314, t315, t316⟩ : S53)) (k53_mkM _ _ _ (⟨t314, t315, t316⟩ : S53) (Kd.S_mono HO318.out (fun _ h_ => Or.inr h_))) (fun _ hk => hk) (fun k_ hk_ => ⟨trivial, lt9_ HO_3.out hk_⟩); have hx13_0 := hcc13 0 _ rfl; (try simp only [show (k53).sz = 3 from rfl, Nat.mul_one, Nat.add_zero] at hx13_0); have hf13_0 := hfr13 0; (try simp only [show (k53).sz = 3 from rfl, Nat.mul_one, Nat.add_zero] at hf13_0); have hx13_1 := hcc13 1 _ rfl; (try simp only [show (k53).sz = 3 from rfl, Nat.mul_one, Nat.add_zero] at hx13_1); have hf13_1 := hfr13 1; (try simp only [show (k53).sz = 3 from rfl, Nat.mul_one, Nat.add_zero] at hf13_1); have hx13_2 := hcc13 2 _ rfl; (try simp only [show (k53).sz = 3 from rfl, Nat.mul_one, Nat.add_zero] at hx13_2); have hf13_2 := hfr13 2; (try simp only [show (k53).sz = 3 from rfl, Nat.mul_one, Nat.add_zero] at hf13_2); clear hcl13 hcc13 hfr13 hM13 hoki13 hH13) | ((with_reducible refine gate_store (t := 53) (p := 21) rfl ?_); refine store_event (t := 53) (p := 21) (v := ?vo_w14) (w1 := (((w11.setCell ⟨go10, (x4_1 : Int).toNat * 3, none⟩ (.int .i64 t314)).setCell ⟨go10, (x4_1 : Int).toNat * 3 + 1, none⟩ (.int .i64 t315)).setCell ⟨go10, (x4_1 : Int).toNat * 3 + 2, none⟩ (.slice Ao12 t316.length co12))) ?hg ?ho ?hn ?hr ?_; (case ho => rfl); (case hg => rfl); (case hn => rfl); (case hr => exact hr_); intro w14 hw; have hg : w11.grownBy w14 (some go10) := (by rw [hw]; exact HP13.2); have hp_ : Kd.S k53 53 w14 w.heap.size (fun _ => True) (.slice (some ⟨go10, 0, none⟩) x3_1.length co10) y319 := (by rw [hw, Ny319.out]; exact HP13.1); clear HP13; have n0_ := am_ (hp_); have n1_ := am_ ((by rw [hw]; exact below_set (below_set (below_set (HB.out) GB10.out) GB10.out) GB10.out : Below w.heap.size w w14)); clear HO_3; clear HB; clear HO318; have HO_3 := n0_; have HB := n1_; clear n0_ n1_; clear hg hw hp_))
   go_roundg k1
   case measure => have := HK1.out; omega
   case rel => exact ⟨(y319), (wrap64 (x4_1 + 1)), er_, H', ⟨by have := HK1.out; omega⟩, ⟨au2_3⟩, ⟨bl_⟩⟩
/-! ### F7: function 7 -/
def F7.f (k : Nat) (a0_0 : ByteArray) (a0_1 : ByteArray) (a0_2 : Int) (l0_3 : List (S89)) : Option (ByteArray × ByteArray × Int × (List (S53))) := (F28.f k l0_3).bind fun t323 => (some (a0_0, a0_1, a0_2, t323))
theorem F7.mono : ∀ a0 a1 a2 a3 k, LeO (F7.f k a0 a1 a2 a3) (F7.f (k + 1) a0 a1 a2 a3) := by
 intro a0 a1 a2 a3 k
 unfold F7.f
 repeat' with_reducible first | exact F28.mono _ _ | exact LeO.refl _ | exact LeO.none _ | refine LeO.ite ?_ ?_ | refine LeO.bind ?_ (fun _ => ?_)
theorem F7.calls (k : Nat) (a0_0 : ByteArray) (a0_1 : ByteArray) (a0_2 : Int) (A0_3 : Option Addr) (c0_3 : Nat) (l0_3 : List (S89)) (r1 : ByteArray) (r2 : ByteArray) (r3 : Int) (r4 : List (S53)) (w : World) (hr0_3 : Kd.C k89 w A0_3 l0_3.length l0_3) (hc0_3 : l0_3.length ≤ c0_3) (h : F7.f k a0_0 a0_1 a0_2 l0_3 = some (r1, r2, r3, r4)) :
  Calls Tryz.prog 7 #[.agg #[.string a0_0, .string a0_1, .int .i64 a0_2, .slice A0_3 l0_3.length c0_3]] w fun e w' => ∃ v3_ : Value, e = .returned (.agg #[.string r1, .string r2, .int .i64 r3, v3_]) ∧ Kd.S k53 53 w' w.heap.size (fun _ => True) v3_ r4 ∧ Below w.heap.size w w' := by
 have hu24 := Tryz.underlying24
 have hu30 := Tryz.underlying30
 have HR0_3 := am_ hr0_3
 have HC0_3 := am_ hc0_3
 clear hr0_3 hc0_3
 have HB := am_ (Below.refl w.heap.size w)
 have H : ((F28.f k l0_3).bind fun t323 => (some (a0_0, a0_1, a0_2, t323))) = some (r1, r2, r3, r4) := h
 clear h
 replace H := bi_ H; rcases H with ⟨t323, A2, H⟩
 simp only [Option.some.injEq, Prod.mk.injEq] at H
 obtain ⟨rfl, rfl, rfl, rfl⟩ := H
 go_enter Tryz.func7, Tryz.ntmps7
 go_wp2_with (first | ((with_reducible refine gate_dst (N := 1) rfl ?_); refine be_ 1 #[.string a0_0, .string a0_1, .int .i64 a0_2, .slice A0_3 l0_3.length c0_3] 24 ?_; intro gb320 hg w3 hbox hb; have BK320 := am_ (hbox); have GW320 := am_ (gw_ hg bl_); have GE320 := GW320; replace HB := hs_ w hb; clear hb hbox hg) | ((with_reducible refine gate_dst (N := 2) rfl ?_); refine be_ 2 #[.string (⟨#[]⟩ : ByteArray), .string (⟨#[]⟩ : ByteArray), .int .i64 0, .slice none 0 0] 30 ?_; intro gb321 hg w4 hbox hb; have BK321 := am_ (hbox); have GW321 := am_ (gw_ hg bl_); have GE321 := GW321; replace HB := hs_ w hb; have NB320_321 := am_ (gn_ hg (blkl_ BK320)); have NB321_320 := am_ (gm_ hg (blkl_ BK320)); replace BK320 := bb_ BK320 hb; clear hb hbox hg) | ((with_reducible refine gate_dst (N := 3) rfl ?_); refine be_ 3 #[.string (⟨#[]⟩ : ByteArray), .string (⟨#[]⟩ : ByteArray), .int .i64 0, .slice none 0 0] 30 ?_; intro gb322 hg w5 hbox hb; have BK322 := am_ (hbox); have GW322 := am_ (gw_ hg bl_); have GE322 := GW322; replace HB := hs_ w hb; have NB320_322 := am_ (gn_ hg (blkl_ BK320)); have NB322_320 := am_ (gm_ hg (blkl_ BK320)); replace BK320 := bb_ BK320 hb; have NB321_322 := am_ (gn_ hg (blkl_ BK321)); have NB322_321 := am_ (gm_ hg (blkl_ BK321)); replace BK321 := bb_ BK321 hb; clear hb hbox hg; have hnb6 := NB320_321.out; have hnc6 := NB321_320.out; have hnb7 := NB320_322.out; have hnc7 := NB322_320.out; obtain ⟨hcz8_0, hcz8_1, hcz8_2, hcz8_3, hfz8_0, hfz8_1, hfz8_2, hfz8_3⟩ := cellsF4 BK320.out; have hnb9 := NB322_321.out; have hnc9 := NB321_322.out; obtain ⟨hcz10_0, hcz10_1, hcz10_2, hcz10_3, hfz10_0, hfz10_1, hfz10_2, hfz10_3⟩ := cellsF4 BK322.out) | ((with_reducible refine gate_callee (f := 28) rfl ?_); refine gl_ 15 Tryz.func28 #[.slice A0_3 l0_3.length c0_3] ?_ rfl rfl rfl rfl; (with_reducible refine (F28.calls k _ _ l0_3 t323 _ ?s1 ?s2 A2.out).mono ?_); (case s1 => exact Kd.C_below HR0_3.out bl_); (case s2 => exact HC0_3.out); rintro e w11 ⟨v324, rfl, ho0, hb⟩; refine ⟨_, rfl, ?_⟩; have HO325 := am_ (Kd.S_lower ho0 (below_size bl_)); replace BK320 := am_ (blk_below (g := gb320) (o := .cells #[.string a0_0, .string a0_1, .int .i64 a0_2, .slice A0_3 l0_3.length c0_3] 24 (0, 0)) (bf_ BK320) hb); replace BK321 := am_ (blk_below (g := gb321) (o := .cells #[.string (⟨#[]⟩ : ByteArray), .string (⟨#[]⟩ : ByteArray), .int .i64 0, .slice none 0 0] 30 (0, 0)) (bf_ BK321) hb); replace BK322 := am_ (blk_below (g := gb322) (o := .cells #[.string a0_0, .string a0_1, .int .i64 a0_2, .slice none 0 0] 30 (0, 0)) (bq_ BK322) hb); replace HB := hs_ w hb; (try clear hb); (try clear ho0); obtain ⟨Ao12, co12, eo12⟩ := Kd.S_slice HO325.out; subst eo12; obtain ⟨hcz13_0, hcz13_1, hcz13_2, hcz13_3, hfz13_0, hfz13_1, hfz13_2, hfz13_3⟩ := cellsF4 BK322.out; obtain ⟨hcz14_0, hcz14_1, hcz14_2, hcz14_3, hfz14_0, hfz14_1, hfz14_2, hfz14_3⟩ := cellsF4 BK321.out))
 refine bodyPost_ret (results_cell_row rfl _ _ gb321 30 #[.string a0_0, .string a0_1, .int .i64 a0_2, .slice Ao12 t323.length co12] (0, 0) _ rfl (bq_ BK321) Tryz.underlying30 rfl (by kernel_rfl)) rfl ?_
 exact ⟨_, au2_0, by (with_reducible repeat (first | apply Kd.S_alloc | apply Kd.S_drewN | apply Kd.S_drew)); exact Kd.S_mono (Kd.S_far (p := ⟨gb321, 3, none⟩) (Kd.S_far (p := ⟨gb321, 2, none⟩) (Kd.S_far (p := ⟨gb321, 1, none⟩) (Kd.S_far (p := ⟨gb321, 0, none⟩) (Kd.S_far (p := ⟨gb322, 3, none⟩) (Kd.S_types (Kd.S_types HO325.out BK322.out (by decide)) BK321.out (by decide)) (fun _ hk => hk.1.2) (.slice Ao12 t323.length co12)) (fun _ hk => hk.2) (.string a0_0)) (fun _ hk => hk.2) (.string a0_1)) (fun _ hk => hk.2) (.int .i64 a0_2)) (fun _ hk => hk.2) (.slice Ao12 t323.length co12)) (fun _ hk => trivial), bl_⟩

/-! ### F56: function 56 -/
def F56.f (a0 : Int) (a1 : Int) (a2 : Int) : Option (Bool) := if a1 ≤ a0 then (some (decide (a0 ≤ a2))) else (some false)
theorem F56.calls (a0 : Int) (a1 : Int) (a2 : Int) (r : Bool) (w : World) (h : F56.f a0 a1 a2 = some r) :
  Calls Tryz.prog 56 #[.int .i64 a0, .int .i64 a1, .int .i64 a2] w fun e w' => e = .returned (.bool r) ∧ Drawn0 w w' := by
 have H : (if a1 ≤ a0 then (some (decide (a0 ≤ a2))) else (some false)) = some r := h
 clear h
 replace H := it_ H; rcases H with ⟨c4b0, H⟩ | ⟨c4b0, H⟩
 ·obtain rfl := Option.some.inj H
  go_enter Tryz.func56, Tryz.ntmps56
  go_wp2
  go_ret
  exact ⟨er_, dn_⟩
 obtain rfl := Option.some.inj H
 go_enter Tryz.func56, Tryz.ntmps56
 go_wp2
 go_ret
 exact ⟨er_, dn_⟩

/-! ### F90: function 90 -/
def F90.f (a0 : Int) : Option (Bool) := if a0 ≥ 65 then (some (decide (a0 ≤ 90))) else (some false)
theorem F90.calls (a0 : Int) (r : Bool) (w : World) (h : F90.f a0 = some r) :
  Calls Tryz.prog 90 #[.int .u8 a0] w fun e w' => e = .returned (.bool r) ∧ Drawn0 w w' := by
 have H : (if a0 ≥ 65 then (some (decide (a0 ≤ 90))) else (some false)) = some r := h
 clear h
 replace H := it_ H; rcases H with ⟨(c2b0 : decide (65 ≤ a0) = true), H⟩ | ⟨(c2b0 : decide (65 ≤ a0) = false), H⟩
 ·obtain rfl := Option.some.inj H
  go_enter Tryz.func90, Tryz.ntmps90
  go_wp2
  go_ret
  exact ⟨er_, dn_⟩
 obtain rfl := Option.some.inj H
 go_enter Tryz.func90, Tryz.ntmps90
 go_wp2
 go_ret
 exact ⟨er_, dn_⟩

/-! ### F91: function 91 -/
def F91.f (a0 : Int) : Option (Bool) := if a0 ≥ 48 then (some (decide (a0 ≤ 57))) else (some false)
theorem F91.calls (a0 : Int) (r : Bool) (w : World) (h : F91.f a0 = some r) :
  Calls Tryz.prog 91 #[.int .u8 a0] w fun e w' => e = .returned (.bool r) ∧ Drawn0 w w' := by
 have H : (if a0 ≥ 48 then (some (decide (a0 ≤ 57))) else (some false)) = some r := h
 clear h
 replace H := it_ H; rcases H with ⟨(c2b0 : decide (48 ≤ a0) = true), H⟩ | ⟨(c2b0 : decide (48 ≤ a0) = false), H⟩
 ·obtain rfl := Option.some.inj H
  go_enter Tryz.func91, Tryz.ntmps91
  go_wp2
  go_ret
  exact ⟨er_, dn_⟩
 obtain rfl := Option.some.inj H
 go_enter Tryz.func91, Tryz.ntmps91
 go_wp2
 go_ret
 exact ⟨er_, dn_⟩

/-! ### F54: function 54 -/
def F54.l0 : Nat → ByteArray → Int → Int → Option (Bool)
  | 0, _, _, _ => none
  | k + 1, x0, x5, x6 => if x6 < x5 then (if 0 ≤ x6 then (if x6 < (x0.size : Int) then ((F90.f (bt x0 x6)).bind fun t327 => (if t327 = true then (F54.l0 k x0 x5 (wrap64 (x6 + 1))) else (if x6 = 0 then (some false) else ((F91.f (bt x0 x6)).bind fun t328 => (if t328 = true then (F54.l0 k x0 x5 (wrap64 (x6 + 1))) else (if (bt x0 x6) = 45 then (F54.l0 k x0 x5 (wrap64 (x6 + 1))) else (some false))))))) else (none)) else (none)) else ((F56.f (x0.size : Int) 1 12).bind fun t326 => (some t326))
def F54.f (k : Nat) (a0 : ByteArray) : Option (Bool) := F54.l0 k a0 (a0.size : Int) 0
theorem F54.mono_l : ∀ k, (∀ y0 y1 y2, LeO (F54.l0 k y0 y1 y2) (F54.l0 (k + 1) y0 y1 y2))
 | 0 => fun _ _ _ r h => by simp [F54.l0] at h
 | k + 1 => by
  have ih0 := F54.mono_l k
  intro y0 y1 y2
  unfold F54.l0
  repeat' with_reducible first | exact ih0 _ _ _ | exact LeO.refl _ | exact LeO.none _ | refine LeO.ite ?_ ?_ | refine LeO.bind ?_ (fun _ => ?_)
theorem F54.mono : ∀ a0 k, LeO (F54.f k a0) (F54.f (k + 1) a0) := by
 intro a0 k
 have ih0 := F54.mono_l k
 unfold F54.f
 repeat' with_reducible first | exact ih0 _ _ _ | exact LeO.refl _ | exact LeO.none _ | refine LeO.ite ?_ ?_ | refine LeO.bind ?_ (fun _ => ?_)
theorem F54.calls (k : Nat) (a0 : ByteArray) (r : Bool) (w : World) (h : F54.f k a0 = some r) :
  Calls Tryz.prog 54 #[.string a0] w fun e w' => e = .returned (.bool r) ∧ Drawn0 w w' := by
 have H : (F54.l0 k a0 (a0.size : Int) 0) = some r := h
 clear h
 have H' := am_ H
 clear H
 go_enter Tryz.func54, Tryz.ntmps54
 go_wp2
 go_loopg [6] k (fun kq v6 w' => ∃ (x6_1 : Int), v6 = .int .i64 x6_1 ∧ Aside0 (F54.l0 kq a0 (a0.size : Int) x6_1 = some r) ∧ Aside0 (kq ≤ k) ∧ Drawn0 w w')
 case atStart => exact ⟨(0), er_, H', ⟨Nat.le_refl _⟩, dn_⟩
 case round =>
  clear H'
  obtain ⟨x6_1, rfl, HA, HK1, ⟨m1, rfl⟩⟩ := hrel
  cases gk with
  | zero => exact absurd HA.out (by simp [F54.l0])
  | succ k1 =>
   have H := HA.out
   clear HA
   simp only [F54.l0] at H
   replace H := it_ H; rcases H with ⟨c2b0, H⟩ | ⟨c2b0, H⟩
   rotate_left
   ·replace H := bi_ H; rcases H with ⟨t326, A14, H⟩
    obtain rfl := Option.some.inj H
    go_wp2_with (first | ((with_reducible refine gate_callee (f := 56) rfl ?_); refine gl_ 34 Tryz.func56 #[.int .i64 (a0.size : Int), .int .i64 1, .int .i64 12] ?_ rfl rfl rfl rfl; (with_reducible refine (F56.calls (a0.size : Int) 1 12 t326 _ A14.out).mono ?_); rintro e w' ⟨rfl, ⟨nd, rfl⟩⟩; refine ⟨_, rfl, ?_⟩))
    go_ret
    exact ⟨er_, dn_⟩

   replace H := itn_ H; rcases H with ⟨c3b0, H⟩
   replace H := itn_ H; rcases H with ⟨c4b0, H⟩
   replace H := bi_ H; rcases H with ⟨t327, A6, H⟩
   replace H := ib_ H; rcases H with ⟨rfl, H⟩ | ⟨rfl, H⟩
   ·have H' := am_ H
    clear H
    have p5 : 0 ≤ (x6_1 : Int) := od_
    have q5 : x6_1 < (a0.size : Int) := od_
    have hx5 := bt_at a0 x6_1
    replace p5 := eq_true p5
    replace q5 := eq_true q5
    go_wp2_with (first | ((with_reducible refine gate_callee (f := 90) rfl ?_); refine gl_ 12 Tryz.func90 #[.int .u8 (bt a0 x6_1)] ?_ rfl rfl rfl rfl; (with_reducible refine (F90.calls (bt a0 x6_1) true _ A6.out).mono ?_); rintro e w' ⟨rfl, ⟨nd, rfl⟩⟩; refine ⟨_, rfl, ?_⟩))
    go_roundg k1
    case measure => have := HK1.out; omega
    case rel => exact ⟨(wrap64 (x6_1 + 1)), er_, H', ⟨by have := HK1.out; omega⟩, dn_⟩
   by_cases c8 : x6_1 = 0
   ·rw [if_pos c8] at H
    have c8b0 : (x6_1 == 0) = true := beq_iff_eq.mpr c8
    have c8b1 : (x6_1 != 0) = false := bne_eq_false_iff_eq.mpr c8
    clear c8
    obtain rfl := Option.some.inj H
    have p5 : 0 ≤ (x6_1 : Int) := od_
    have q5 : x6_1 < (a0.size : Int) := od_
    have hx5 := bt_at a0 x6_1
    replace p5 := eq_true p5
    replace q5 := eq_true q5
    go_wp2_with (first | ((with_reducible refine gate_callee (f := 90) rfl ?_); refine gl_ 12 Tryz.func90 #[.int .u8 (bt a0 x6_1)] ?_ rfl rfl rfl rfl; (with_reducible refine (F90.calls (bt a0 x6_1) false _ A6.out).mono ?_); rintro e w' ⟨rfl, ⟨nd, rfl⟩⟩; refine ⟨_, rfl, ?_⟩))
    go_ret
    exact ⟨er_, dn_⟩
   rw [if_neg c8] at H
   have c8b0 : (x6_1 == 0) = false := beq_eq_false_iff_ne.mpr c8
   have c8b1 : (x6_1 != 0) = true := bne_iff_ne.mpr c8
   replace H := bi_ H; rcases H with ⟨t328, A10, H⟩
   replace H := ib_ H; rcases H with ⟨rfl, H⟩ | ⟨rfl, H⟩
   ·have H' := am_ H
    clear H
    have p5 : 0 ≤ (x6_1 : Int) := od_
    have q5 : x6_1 < (a0.size : Int) := od_
    have hx5 := bt_at a0 x6_1
    replace p5 := eq_true p5
    replace q5 := eq_true q5
    go_wp2_with (first | ((with_reducible refine gate_callee (f := 90) rfl ?_); refine gl_ 12 Tryz.func90 #[.int .u8 (bt a0 x6_1)] ?_ rfl rfl rfl rfl; (with_reducible refine (F90.calls (bt a0 x6_1) false _ A6.out).mono ?_); rintro e w' ⟨rfl, ⟨nd, rfl⟩⟩; refine ⟨_, rfl, ?_⟩; have p9 : 0 ≤ (x6_1 : Int) := od_; have q9 : x6_1 < (a0.size : Int) := od_; have hx9 := bt_at a0 x6_1; replace p9 := eq_true p9; replace q9 := eq_true q9) | (go_at_call 91; (with_reducible refine (F91.calls (bt a0 x6_1) true _ A10.out).mono ?_); rintro e w' ⟨rfl, ⟨nd, rfl⟩⟩))
    go_roundg k1
    case measure => have := HK1.out; omega
    case rel => exact ⟨(wrap64 (x6_1 + 1)), er_, H', ⟨by have := HK1.out; omega⟩, dn_⟩
   by_cases c13 : (bt a0 x6_1) = 45
   rotate_left
   ·rw [if_neg c13] at H
    have c13b0 : ((bt a0 x6_1) == 45) = false := beq_eq_false_iff_ne.mpr c13
    have c13b1 : ((bt a0 x6_1) != 45) = true := bne_iff_ne.mpr c13
    obtain rfl := Option.some.inj H
    have p5 : 0 ≤ (x6_1 : Int) := od_
    have q5 : x6_1 < (a0.size : Int) := od_
    have hx5 := bt_at a0 x6_1
    replace p5 := eq_true p5
    replace q5 := eq_true q5
    go_wp2_with (first | ((with_reducible refine gate_callee (f := 90) rfl ?_); refine gl_ 12 Tryz.func90 #[.int .u8 (bt a0 x6_1)] ?_ rfl rfl rfl rfl; (with_reducible refine (F90.calls (bt a0 x6_1) false _ A6.out).mono ?_); rintro e w' ⟨rfl, ⟨nd, rfl⟩⟩; refine ⟨_, rfl, ?_⟩; have p9 : 0 ≤ (x6_1 : Int) := od_; have q9 : x6_1 < (a0.size : Int) := od_; have hx9 := bt_at a0 x6_1; replace p9 := eq_true p9; replace q9 := eq_true q9) | (go_at_call 91; (with_reducible refine (F91.calls (bt a0 x6_1) false _ A10.out).mono ?_); rintro e w' ⟨rfl, ⟨nd, rfl⟩⟩; have p12 : 0 ≤ (x6_1 : Int) := od_; have q12 : x6_1 < (a0.size : Int) := od_; have hx12 := bt_at a0 x6_1; replace p12 := eq_true p12; replace q12 := eq_true q12))
    go_ret
    exact ⟨er_, dn_⟩
   rw [if_pos c13] at H
   have c13b0 : ((bt a0 x6_1) == 45) = true := beq_iff_eq.mpr c13
   have c13b1 : ((bt a0 x6_1) != 45) = false := bne_eq_false_iff_eq.mpr c13
   clear c13
   have H' := am_ H
   clear H
   have p5 : 0 ≤ (x6_1 : Int) := od_
   have q5 : x6_1 < (a0.size : Int) := od_
   have hx5 := bt_at a0 x6_1
   replace p5 := eq_true p5
   replace q5 := eq_true q5
   go_wp2_with (first | ((with_reducible refine gate_callee (f := 90) rfl ?_); refine gl_ 12 Tryz.func90 #[.int .u8 (bt a0 x6_1)] ?_ rfl rfl rfl rfl; (with_reducible refine (F90.calls (bt a0 x6_1) false _ A6.out).mono ?_); rintro e w' ⟨rfl, ⟨nd, rfl⟩⟩; refine ⟨_, rfl, ?_⟩; have p9 : 0 ≤ (x6_1 : Int) := od_; have q9 : x6_1 < (a0.size : Int) := od_; have hx9 := bt_at a0 x6_1; replace p9 := eq_true p9; replace q9 := eq_true q9) | (go_at_call 91; (with_reducible refine (F91.calls (bt a0 x6_1) false _ A10.out).mono ?_); rintro e w' ⟨rfl, ⟨nd, rfl⟩⟩; have p12 : 0 ≤ (x6_1 : Int) := od_; have q12 : x6_1 < (a0.size : Int) := od_; have hx12 := bt_at a0 x6_1; replace p12 := eq_true p12; replace q12 := eq_true q12))
   go_roundg k1
   case measure => have := HK1.out; omega
   case rel => exact ⟨(wrap64 (x6_1 + 1)), er_, H', ⟨by have := HK1.out; omega⟩, dn_⟩
/-! ### F55: function 55 -/
def F55.f (a0 : Int) : Option (Bool) := (F56.f a0 1 999999).bind fun t329 => (some t329)
theorem F55.calls (a0 : Int) (r : Bool) (w : World) (h : F55.f a0 = some r) :
  Calls Tryz.prog 55 #[.int .i64 a0] w fun e w' => e = .returned (.bool r) ∧ Drawn0 w w' := by
 have H : ((F56.f a0 1 999999).bind fun t329 => (some t329)) = some r := h
 clear h
 replace H := bi_ H; rcases H with ⟨t329, A2, H⟩
 obtain rfl := Option.some.inj H
 go_enter Tryz.func55, Tryz.ntmps55
 go_wp2_with (first | ((with_reducible refine gate_callee (f := 56) rfl ?_); refine gl_ 4 Tryz.func56 #[.int .i64 a0, .int .i64 1, .int .i64 999999] ?_ rfl rfl rfl rfl; (with_reducible refine (F56.calls a0 1 999999 t329 _ A2.out).mono ?_); rintro e w' ⟨rfl, ⟨nd, rfl⟩⟩; refine ⟨_, rfl, ?_⟩))
 go_ret
 exact ⟨er_, dn_⟩

/-! ### F133: function 133 -/
def F133.l0 : Nat → ByteArray → Int → Int → Option (Bool)
  | 0, _, _, _ => none
  | k + 1, x0, x5, x6 => if x6 < x5 then (if 0 ≤ x6 then (if x6 < (x0.size : Int) then (if (bt x0 x6) < 32 then (some false) else (if (bt x0 x6) > 126 then (some false) else (F133.l0 k x0 x5 (wrap64 (x6 + 1))))) else (none)) else (none)) else (some true)
def F133.f (k : Nat) (a0 : ByteArray) : Option (Bool) := F133.l0 k a0 (a0.size : Int) 0
theorem F133.mono_l : ∀ k, (∀ y0 y1 y2, LeO (F133.l0 k y0 y1 y2) (F133.l0 (k + 1) y0 y1 y2))
 | 0 => fun _ _ _ r h => by simp [F133.l0] at h
 | k + 1 => by
  have ih0 := F133.mono_l k
  intro y0 y1 y2
  unfold F133.l0
  repeat' with_reducible first | exact ih0 _ _ _ | exact LeO.refl _ | exact LeO.none _ | refine LeO.ite ?_ ?_ | refine LeO.bind ?_ (fun _ => ?_)
theorem F133.mono : ∀ a0 k, LeO (F133.f k a0) (F133.f (k + 1) a0) := by
 intro a0 k
 have ih0 := F133.mono_l k
 unfold F133.f
 repeat' with_reducible first | exact ih0 _ _ _ | exact LeO.refl _ | exact LeO.none _ | refine LeO.ite ?_ ?_ | refine LeO.bind ?_ (fun _ => ?_)
theorem F133.calls (k : Nat) (a0 : ByteArray) (r : Bool) (w : World) (h : F133.f k a0 = some r) :
  Calls Tryz.prog 133 #[.string a0] w fun e w' => e = .returned (.bool r) ∧ Drawn0 w w' := by
 have H : (F133.l0 k a0 (a0.size : Int) 0) = some r := h
 clear h
 have H' := am_ H
 clear H
 go_enter Tryz.func133, Tryz.ntmps133
 go_wp2
 go_loopg [6] k (fun kq v6 w' => ∃ (x6_1 : Int), v6 = .int .i64 x6_1 ∧ Aside0 (F133.l0 kq a0 (a0.size : Int) x6_1 = some r) ∧ Aside0 (kq ≤ k) ∧ Drawn0 w w')
 case atStart => exact ⟨(0), er_, H', ⟨Nat.le_refl _⟩, dn_⟩
 case round =>
  clear H'
  obtain ⟨x6_1, rfl, HA, HK1, ⟨m1, rfl⟩⟩ := hrel
  cases gk with
  | zero => exact absurd HA.out (by simp [F133.l0])
  | succ k1 =>
   have H := HA.out
   clear HA
   simp only [F133.l0] at H
   replace H := it_ H; rcases H with ⟨c2b0, H⟩ | ⟨c2b0, H⟩
   rotate_left
   ·obtain rfl := Option.some.inj H
    go_wp2
    go_ret
    exact ⟨er_, dn_⟩

   replace H := itn_ H; rcases H with ⟨c3b0, H⟩
   replace H := itn_ H; rcases H with ⟨c4b0, H⟩
   replace H := it_ H; rcases H with ⟨c6b0, H⟩ | ⟨c6b0, H⟩
   ·obtain rfl := Option.some.inj H
    have p5 : 0 ≤ (x6_1 : Int) := od_
    have q5 : x6_1 < (a0.size : Int) := od_
    have hx5 := bt_at a0 x6_1
    replace p5 := eq_true p5
    replace q5 := eq_true q5
    go_wp2
    go_ret
    exact ⟨er_, dn_⟩
   replace H := it_ H; rcases H with ⟨(c8b0 : decide (126 < (bt a0 x6_1)) = true), H⟩ | ⟨(c8b0 : decide (126 < (bt a0 x6_1)) = false), H⟩
   ·obtain rfl := Option.some.inj H
    have p5 : 0 ≤ (x6_1 : Int) := od_
    have q5 : x6_1 < (a0.size : Int) := od_
    have hx5 := bt_at a0 x6_1
    replace p5 := eq_true p5
    replace q5 := eq_true q5
    have p7 : 0 ≤ (x6_1 : Int) := od_
    have q7 : x6_1 < (a0.size : Int) := od_
    have hx7 := bt_at a0 x6_1
    replace p7 := eq_true p7
    replace q7 := eq_true q7
    go_wp2
    go_ret
    exact ⟨er_, dn_⟩
   have H' := am_ H
   clear H
   have p5 : 0 ≤ (x6_1 : Int) := od_
   have q5 : x6_1 < (a0.size : Int) := od_
   have hx5 := bt_at a0 x6_1
   replace p5 := eq_true p5
   replace q5 := eq_true q5
   have p7 : 0 ≤ (x6_1 : Int) := od_
   have q7 : x6_1 < (a0.size : Int) := od_
   have hx7 := bt_at a0 x6_1
   replace p7 := eq_true p7
   replace q7 := eq_true q7
   go_wp2
   go_roundg k1
   case measure => have := HK1.out; omega
   case rel => exact ⟨(wrap64 (x6_1 + 1)), er_, H', ⟨by have := HK1.out; omega⟩, dn_⟩
/-! ### F120: function 120 -/
def F120.f (k : Nat) (a0 : ByteArray) : Option (Bool) := if (a0.size : Int) ≤ 40 then ((F133.f k a0).bind fun t330 => (some t330)) else (some false)
theorem F120.mono : ∀ a0 k, LeO (F120.f k a0) (F120.f (k + 1) a0) := by
 intro a0 k
 unfold F120.f
 repeat' with_reducible first | exact F133.mono _ _ | exact LeO.refl _ | exact LeO.none _ | refine LeO.ite ?_ ?_ | refine LeO.bind ?_ (fun _ => ?_)
theorem F120.calls (k : Nat) (a0 : ByteArray) (r : Bool) (w : World) (h : F120.f k a0 = some r) :
  Calls Tryz.prog 120 #[.string a0] w fun e w' => e = .returned (.bool r) ∧ Drawn0 w w' := by
 have H : (if (a0.size : Int) ≤ 40 then ((F133.f k a0).bind fun t330 => (some t330)) else (some false)) = some r := h
 clear h
 replace H := it_ H; rcases H with ⟨c2b0, H⟩ | ⟨c2b0, H⟩
 rotate_left
 ·have c2b1 : decide (a0.size ≤ 40) = false := n2_ c2b0
  obtain rfl := Option.some.inj H
  go_enter Tryz.func120, Tryz.ntmps120
  go_wp2
  go_ret
  exact ⟨er_, dn_⟩

 have c2b1 : decide (a0.size ≤ 40) = true := n2_ c2b0
 replace H := bi_ H; rcases H with ⟨t330, A3, H⟩
 obtain rfl := Option.some.inj H
 go_enter Tryz.func120, Tryz.ntmps120
 go_wp2_with (first | (go_at_call 133; (with_reducible refine (F133.calls k a0 t330 _ A3.out).mono ?_); rintro e w' ⟨rfl, ⟨nd, rfl⟩⟩))
 go_ret
 exact ⟨er_, dn_⟩
/-! ### F119: function 119 -/
def F119.f (k : Nat) (a0 : ByteArray) : Option (Bool) := (F120.f k a0).bind fun t331 => (some (!t331))
theorem F119.mono : ∀ a0 k, LeO (F119.f k a0) (F119.f (k + 1) a0) := by
 intro a0 k
 unfold F119.f
 repeat' with_reducible first | exact F120.mono _ _ | exact LeO.refl _ | exact LeO.none _ | refine LeO.ite ?_ ?_ | refine LeO.bind ?_ (fun _ => ?_)
theorem F119.calls (k : Nat) (a0 : ByteArray) (r : Bool) (w : World) (h : F119.f k a0 = some r) :
  Calls Tryz.prog 119 #[.string a0] w fun e w' => e = .returned (.bool r) ∧ Drawn0 w w' := by
 have H : ((F120.f k a0).bind fun t331 => (some (!t331))) = some r := h
 clear h
 replace H := bi_ H; rcases H with ⟨t331, A2, H⟩
 obtain rfl := Option.some.inj H
 go_enter Tryz.func119, Tryz.ntmps119
 go_wp2_with (first | ((with_reducible refine gate_callee (f := 120) rfl ?_); refine gl_ 4 Tryz.func120 #[.string a0] ?_ rfl rfl rfl rfl; (with_reducible refine (F120.calls k a0 t331 _ A2.out).mono ?_); rintro e w' ⟨rfl, ⟨nd, rfl⟩⟩; refine ⟨_, rfl, ?_⟩))
 go_ret
 exact ⟨er_, dn_⟩

/-! ### F121: function 121 -/
def F121.f (a0 : ByteArray) : Option (Bool) := if (a0.size : Int) = 3 then (if 0 < (a0.size : Int) then ((F90.f (bt a0 0)).bind fun t332 => (if t332 = true then (if 1 < (a0.size : Int) then ((F90.f (bt a0 1)).bind fun t333 => (if t333 = true then (if 2 < (a0.size : Int) then ((F90.f (bt a0 2)).bind fun t334 => (some t334)) else (none)) else (some false))) else (none)) else (some false))) else (none)) else (some false)
theorem F121.calls (a0 : ByteArray) (r : Bool) (w : World) (h : F121.f a0 = some r) :
  Calls Tryz.prog 121 #[.string a0] w fun e w' => e = .returned (.bool r) ∧ Drawn0 w w' := by
 have H : (if (a0.size : Int) = 3 then (if 0 < (a0.size : Int) then ((F90.f (bt a0 0)).bind fun t332 => (if t332 = true then (if 1 < (a0.size : Int) then ((F90.f (bt a0 1)).bind fun t333 => (if t333 = true then (if 2 < (a0.size : Int) then ((F90.f (bt a0 2)).bind fun t334 => (some t334)) else (none)) else (some false))) else (none)) else (some false))) else (none)) else (some false)) = some r := h
 clear h
 by_cases c2 : (a0.size : Int) = 3
 rotate_left
 ·rw [if_neg c2] at H
  have c2b0 : ((a0.size : Int) == 3) = false := beq_eq_false_iff_ne.mpr c2
  have c2b1 : ((a0.size : Int) != 3) = true := bne_iff_ne.mpr c2
  obtain rfl := Option.some.inj H
  go_enter Tryz.func121, Tryz.ntmps121
  go_wp2
  go_ret
  exact ⟨er_, dn_⟩

 rw [if_pos c2] at H
 have c2b0 : ((a0.size : Int) == 3) = true := beq_iff_eq.mpr c2
 have c2b1 : ((a0.size : Int) != 3) = false := bne_eq_false_iff_eq.mpr c2
 clear c2
 replace H := itn_ H; rcases H with ⟨c3b0, H⟩
 have c3b1 : decide (0 < a0.size) = true := n2_ c3b0
 replace H := bi_ H; rcases H with ⟨t332, A5, H⟩
 replace H := ib_ H; rcases H with ⟨rfl, H⟩ | ⟨rfl, H⟩
 rotate_left
 ·obtain rfl := Option.some.inj H
  have p4 : 0 ≤ (0 : Int) := (by omega)
  have q4 : 0 < a0.size := (by have : (0 : Int) < (a0.size : Int) := od_; omega)
  have hx4 : ∀ h : 0 < a0.size, ((a0[0]'h).toNat : Int) = bt a0 0 := bt_at a0 0
  clear p4
  have qi4 : (0 < (a0.size : Int)) = True := eq_true (of_decide_eq_true as_)
  replace q4 := eq_true q4
  go_enter Tryz.func121, Tryz.ntmps121
  go_wp2_with (first | (go_at_call 90; (with_reducible refine (F90.calls (bt a0 0) false _ A5.out).mono ?_); rintro e w' ⟨rfl, ⟨nd, rfl⟩⟩))
  go_ret
  exact ⟨er_, dn_⟩
 replace H := itn_ H; rcases H with ⟨c7b0, H⟩
 have c7b1 : decide (1 < a0.size) = true := n2_ c7b0
 replace H := bi_ H; rcases H with ⟨t333, A9, H⟩
 replace H := ib_ H; rcases H with ⟨rfl, H⟩ | ⟨rfl, H⟩
 rotate_left
 ·obtain rfl := Option.some.inj H
  have p4 : 0 ≤ (0 : Int) := (by omega)
  have q4 : 0 < a0.size := (by have : (0 : Int) < (a0.size : Int) := od_; omega)
  have hx4 : ∀ h : 0 < a0.size, ((a0[0]'h).toNat : Int) = bt a0 0 := bt_at a0 0
  clear p4
  have qi4 : (0 < (a0.size : Int)) = True := eq_true (of_decide_eq_true as_)
  replace q4 := eq_true q4
  go_enter Tryz.func121, Tryz.ntmps121
  go_wp2_with (first | (go_at_call 90; (with_reducible refine (F90.calls (bt a0 0) true _ A5.out).mono ?_); rintro e w' ⟨rfl, ⟨nd, rfl⟩⟩; have p8 : 0 ≤ (1 : Int) := (by omega); have q8 : 1 < a0.size := (by have : (1 : Int) < (a0.size : Int) := od_; omega); have hx8 : ∀ h : 1 < a0.size, ((a0[1]'h).toNat : Int) = bt a0 1 := bt_at a0 1; clear p8; have qi8 : (1 < (a0.size : Int)) = True := eq_true (of_decide_eq_true as_); replace q8 := eq_true q8) | (go_at_call 90; (with_reducible refine (F90.calls (bt a0 1) false _ A9.out).mono ?_); rintro e w' ⟨rfl, ⟨nd, rfl⟩⟩))
  go_ret
  exact ⟨er_, dn_⟩
 replace H := itn_ H; rcases H with ⟨c11b0, H⟩
 have c11b1 : decide (2 < a0.size) = true := n2_ c11b0
 replace H := bi_ H; rcases H with ⟨t334, A13, H⟩
 obtain rfl := Option.some.inj H
 have p4 : 0 ≤ (0 : Int) := (by omega)
 have q4 : 0 < a0.size := (by have : (0 : Int) < (a0.size : Int) := od_; omega)
 have hx4 : ∀ h : 0 < a0.size, ((a0[0]'h).toNat : Int) = bt a0 0 := bt_at a0 0
 clear p4
 have qi4 : (0 < (a0.size : Int)) = True := eq_true (of_decide_eq_true as_)
 replace q4 := eq_true q4
 go_enter Tryz.func121, Tryz.ntmps121
 go_wp2_with (first | (go_at_call 90; (with_reducible refine (F90.calls (bt a0 0) true _ A5.out).mono ?_); rintro e w' ⟨rfl, ⟨nd, rfl⟩⟩; have p8 : 0 ≤ (1 : Int) := (by omega); have q8 : 1 < a0.size := (by have : (1 : Int) < (a0.size : Int) := od_; omega); have hx8 : ∀ h : 1 < a0.size, ((a0[1]'h).toNat : Int) = bt a0 1 := bt_at a0 1; clear p8; have qi8 : (1 < (a0.size : Int)) = True := eq_true (of_decide_eq_true as_); replace q8 := eq_true q8) | (go_at_call 90; (with_reducible refine (F90.calls (bt a0 1) true _ A9.out).mono ?_); rintro e w' ⟨rfl, ⟨nd, rfl⟩⟩; have p12 : 0 ≤ (2 : Int) := (by omega); have q12 : 2 < a0.size := (by have : (2 : Int) < (a0.size : Int) := od_; omega); have hx12 : ∀ h : 2 < a0.size, ((a0[2]'h).toNat : Int) = bt a0 2 := bt_at a0 2; clear p12; have qi12 : (2 < (a0.size : Int)) = True := eq_true (of_decide_eq_true as_); replace q12 := eq_true q12) | (go_at_call 90; (with_reducible refine (F90.calls (bt a0 2) t334 _ A13.out).mono ?_); rintro e w' ⟨rfl, ⟨nd, rfl⟩⟩))
 go_ret
 exact ⟨er_, dn_⟩
/-! ### F132: function 132 -/
def F132.l0 : Nat → List ByteArray → Int → Int → Option (Int)
  | 0, _, _, _ => none
  | k + 1, x0, x7, x8 => if x8 < x7 then (if 0 ≤ x8 then (if x8 < (x0.length : Int) then ((F119.f k (rdOf ByteArray.empty x0 x8)).bind fun t336 => (if t336 = true then (some x8) else (F132.l0 k x0 x7 (wrap64 (x8 + 1))))) else (none)) else (none)) else (some (-1))
def F132.f (k : Nat) (l0 : List ByteArray)  : Option (Int) := F132.l0 k l0 (l0.length : Int) 0
theorem F132.mono_l : ∀ k, (∀ y0 y1 y2, LeO (F132.l0 k y0 y1 y2) (F132.l0 (k + 1) y0 y1 y2))
 | 0 => fun _ _ _ r h => by simp [F132.l0] at h
 | k + 1 => by
  have ih0 := F132.mono_l k
  intro y0 y1 y2
  unfold F132.l0
  repeat' with_reducible first | exact ih0 _ _ _ | exact F119.mono _ _ | exact LeO.refl _ | exact LeO.none _ | refine LeO.ite ?_ ?_ | refine LeO.bind ?_ (fun _ => ?_)
theorem F132.mono : ∀ a0 k, LeO (F132.f k a0) (F132.f (k + 1) a0) := by
 intro a0 k
 have ih0 := F132.mono_l k
 unfold F132.f
 repeat' with_reducible first | exact ih0 _ _ _ | exact F119.mono _ _ | exact LeO.refl _ | exact LeO.none _ | refine LeO.ite ?_ ?_ | refine LeO.bind ?_ (fun _ => ?_)
theorem F132.calls (k : Nat) (A0 : Option Addr) (c0 : Nat) (l0 : List ByteArray)  (r : Int) (w : World) (hr0 : Kd.C Kd.string w A0 l0.length l0) (hc0 : l0.length ≤ c0) (h : F132.f k l0 = some r) :
  Calls Tryz.prog 132 #[.slice A0 l0.length c0, .func (.func 119) #[] #[]] w fun e w' => e = .returned (.int .i64 r) ∧ Drawn0 w w' := by
 have HR0 := am_ hr0
 have HC0 := am_ hc0
 clear hr0 hc0
 have H : (F132.l0 k l0 (l0.length : Int) 0) = some r := h
 clear h
 have H' := am_ H
 clear H
 go_enter Tryz.func132, Tryz.ntmps132
 go_wp2
 go_loopg [8] k (fun kq v8 w' => ∃ (x8_1 : Int), v8 = .int .i64 x8_1 ∧ Aside0 (F132.l0 kq l0 (l0.length : Int) x8_1 = some r) ∧ Aside0 (kq ≤ k) ∧ Drawn0 w w')
 case atStart => exact ⟨(0), er_, H', ⟨Nat.le_refl _⟩, dn_⟩
 case round =>
  clear H'
  obtain ⟨x8_1, rfl, HA, HK1, ⟨m1, rfl⟩⟩ := hrel
  cases gk with
  | zero => exact absurd HA.out (by simp [F132.l0])
  | succ k1 =>
   have H := HA.out
   clear HA
   simp only [F132.l0] at H
   replace H := it_ H; rcases H with ⟨c3b0, H⟩ | ⟨c3b0, H⟩
   rotate_left
   ·obtain rfl := Option.some.inj H
    go_wp2
    go_ret
    exact ⟨er_, dn_⟩

   replace H := itn_ H; rcases H with ⟨c4b0, H⟩
   replace H := itn_ H; rcases H with ⟨c5b0, H⟩
   replace H := bi_ H; rcases H with ⟨t336, A6, H⟩
   replace H := ib_ H; rcases H with ⟨rfl, H⟩ | ⟨rfl, H⟩
   ·obtain rfl := Option.some.inj H
    have p335 : 0 ≤ (x8_1 : Int) := od_
    have q335 : x8_1 < (l0.length : Int) := od_
    obtain ⟨ad335, e335, hx335_0⟩ := Kd.at_string HR0.out x8_1 p335 q335
    cases e335
    replace p335 := eq_true p335
    replace q335 := eq_true q335
    go_wp2_with (first | (go_at_call 119; (with_reducible refine (F119.calls k1 (rdOf ByteArray.empty l0 x8_1) true _ A6.out).mono ?_); rintro e w' ⟨rfl, ⟨nd, rfl⟩⟩))
    go_ret
    exact ⟨er_, dn_⟩
   have H' := am_ H
   clear H
   have p335 : 0 ≤ (x8_1 : Int) := od_
   have q335 : x8_1 < (l0.length : Int) := od_
   obtain ⟨ad335, e335, hx335_0⟩ := Kd.at_string HR0.out x8_1 p335 q335
   cases e335
   replace p335 := eq_true p335
   replace q335 := eq_true q335
   go_wp2_with (first | (go_at_call 119; (with_reducible refine (F119.calls k1 (rdOf ByteArray.empty l0 x8_1) false _ A6.out).mono ?_); rintro e w' ⟨rfl, ⟨nd, rfl⟩⟩))
   go_roundg k1
   case measure => have := HK1.out; omega
   case rel => exact ⟨(wrap64 (x8_1 + 1)), er_, H', ⟨by have := HK1.out; omega⟩, dn_⟩
/-! ### F118: function 118 -/
def F118.f (k : Nat) (l0 : List ByteArray)  : Option (Bool) := (F132.f k l0).bind fun t337 => (some (decide (t337 ≥ 0)))
theorem F118.mono : ∀ a0 k, LeO (F118.f k a0) (F118.f (k + 1) a0) := by
 intro a0 k
 unfold F118.f
 repeat' with_reducible first | exact F132.mono _ _ | exact LeO.refl _ | exact LeO.none _ | refine LeO.ite ?_ ?_ | refine LeO.bind ?_ (fun _ => ?_)
theorem F118.calls (k : Nat) (A0 : Option Addr) (c0 : Nat) (l0 : List ByteArray)  (r : Bool) (w : World) (hr0 : Kd.C Kd.string w A0 l0.length l0) (hc0 : l0.length ≤ c0) (h : F118.f k l0 = some r) :
  Calls Tryz.prog 118 #[.slice A0 l0.length c0, .func (.func 119) #[] #[]] w fun e w' => e = .returned (.bool r) ∧ Drawn0 w w' := by
 have HR0 := am_ hr0
 have HC0 := am_ hc0
 clear hr0 hc0
 have H : ((F132.f k l0).bind fun t337 => (some (decide (t337 ≥ 0)))) = some r := h
 clear h
 replace H := bi_ H; rcases H with ⟨t337, A3, H⟩
 obtain rfl := Option.some.inj H
 go_enter Tryz.func118, Tryz.ntmps118
 go_wp2_with (first | ((with_reducible refine gate_callee (f := 132) rfl ?_); refine gl_ 7 Tryz.func132 #[.slice A0 l0.length c0, .func (.func 119) #[] #[]] ?_ rfl rfl rfl rfl; (with_reducible refine (F132.calls k _ _ l0  t337 _ ?s1 ?s2 A3.out).mono ?_); (case s1 => exact au2_4); (case s2 => exact HC0.out); rintro e w' ⟨rfl, ⟨nd, rfl⟩⟩; refine ⟨_, rfl, ?_⟩))
 go_ret
 exact ⟨er_, dn_⟩

/-! ### F105: function 105 -/
mutual
def F105.l0 : Nat → List (S91) → Int → Int → ByteArray → List (S91) → Option (Bool)
  | 0, _, _, _, _, _ => none
  | k + 1, x7, x8, x9, x339000, x339001 => if x9 < x8 then (if 0 ≤ x9 then (if x9 < (x7.length : Int) then ((F56.f (((rd_T91 x7 x9).f0).length : Int) 1 4).bind fun t342 => (if t342 = true then ((F118.f k ((rd_T91 x7 x9).f0)).bind fun t343 => (F105.j1 k x9 (((rd_T91 x7 x9).f0).length : Int) x7 x8 x9 t343 x339000 x339001 ((rd_T91 x7 x9).f0))) else (F105.j1 k x9 (((rd_T91 x7 x9).f0).length : Int) x7 x8 x9 true x339000 x339001 ((rd_T91 x7 x9).f0)))) else (none)) else (none)) else ((F121.f x339000).bind fun t339 => (if t339 = true then (some (decide ((x339001.length : Int) ≤ 10))) else (some false)))
def F105.j1 : Nat → Int → Int → List (S91) → Int → Int → Bool → ByteArray → List (S91) → List ByteArray → Option (Bool)
  | 0, _, _, _, _, _, _, _, _, _ => none
  | k + 1, x3, x5, x7, x8, x9, x24, x339000, x339001, x342000 => if x24 = true then (some false) else (if 0 ≤ (wrap64 (x5 - 1)) then (if (wrap64 (x5 - 1)) < (x342000.length : Int) then (if (rdOf ByteArray.empty x342000 (wrap64 (x5 - 1))).toList = ([] : List UInt8) then (if x5 > 1 then (some false) else (if x3 = (wrap64 ((x339001.length : Int) - 1)) then (some false) else (F105.l0 k x7 x8 (wrap64 (x9 + 1)) x339000 x339001))) else (F105.l0 k x7 x8 (wrap64 (x9 + 1)) x339000 x339001)) else (none)) else (none))
end
def F105.f (k : Nat) (a0_0 : ByteArray) (l0_1 : List (S91)) : Option (Bool) := F105.l0 k l0_1 (l0_1.length : Int) 0 a0_0 l0_1
theorem F105.mono_l : ∀ k, (∀ y0 y1 y2 y3 y4, LeO (F105.l0 k y0 y1 y2 y3 y4) (F105.l0 (k + 1) y0 y1 y2 y3 y4)) ∧ (∀ y0 y1 y2 y3 y4 y5 y6 y7 y8, LeO (F105.j1 k y0 y1 y2 y3 y4 y5 y6 y7 y8) (F105.j1 (k + 1) y0 y1 y2 y3 y4 y5 y6 y7 y8))
 | 0 => ⟨fun _ _ _ _ _ r h => by simp [F105.l0] at h, fun _ _ _ _ _ _ _ _ _ r h => by simp [F105.j1] at h⟩
 | k + 1 => by
  obtain ⟨ih0, ih1⟩ := F105.mono_l k
  refine ⟨?_, ?_⟩
  rotate_left
  ·intro y0 y1 y2 y3 y4 y5 y6 y7 y8
   unfold F105.j1
   repeat' with_reducible first | exact ih0 _ _ _ _ _ | exact ih1 _ _ _ _ _ _ _ _ _ | exact F118.mono _ _ | exact LeO.refl _ | exact LeO.none _ | refine LeO.ite ?_ ?_ | refine LeO.bind ?_ (fun _ => ?_)
  intro y0 y1 y2 y3 y4
  unfold F105.l0
  repeat' with_reducible first | exact ih0 _ _ _ _ _ | exact ih1 _ _ _ _ _ _ _ _ _ | exact F118.mono _ _ | exact LeO.refl _ | exact LeO.none _ | refine LeO.ite ?_ ?_ | refine LeO.bind ?_ (fun _ => ?_)
theorem F105.mono : ∀ a0 a1 k, LeO (F105.f k a0 a1) (F105.f (k + 1) a0 a1) := by
 intro a0 a1 k
 obtain ⟨ih0, ih1⟩ := F105.mono_l k
 unfold F105.f
 repeat' with_reducible first | exact ih0 _ _ _ _ _ | exact ih1 _ _ _ _ _ _ _ _ _ | exact F118.mono _ _ | exact LeO.refl _ | exact LeO.none _ | refine LeO.ite ?_ ?_ | refine LeO.bind ?_ (fun _ => ?_)
theorem F105.calls (k : Nat) (a0_0 : ByteArray) (A0_1 : Option Addr) (c0_1 : Nat) (l0_1 : List (S91)) (r : Bool) (w : World) (hr0_1 : Kd.C k91 w A0_1 l0_1.length l0_1) (hc0_1 : l0_1.length ≤ c0_1) (h : F105.f k a0_0 l0_1 = some r) :
  Calls Tryz.prog 105 #[.agg #[.string a0_0, .slice A0_1 l0_1.length c0_1]] w fun e w' => e = .returned (.bool r) ∧ Below w.heap.size w w' := by
 have hu49 := Tryz.underlying49
 have hu91 := Tryz.underlying91
 have HR0_1 := am_ hr0_1
 have HC0_1 := am_ hc0_1
 clear hr0_1 hc0_1
 have HB := am_ (Below.refl w.heap.size w)
 have H : (F105.l0 k l0_1 (l0_1.length : Int) 0 a0_0 l0_1) = some r := h
 clear h
 have H' := am_ H
 clear H
 go_enter Tryz.func105, Tryz.ntmps105
 go_wp2_with (first | ((with_reducible refine gate_dst (N := 1) rfl ?_); (try (refine gate_guard (by rfl) ?_; dsimp only)); refine be_ 1 #[.string a0_0, .slice A0_1 l0_1.length c0_1] 49 ?_; intro gb338 hg w2 hbox hb; have BK338 := am_ (hbox); have GW338 := am_ (gw_ hg bl_); have GE338 := GW338; replace HB := hs_ w hb; clear hb hbox hg; obtain ⟨hcz3_0, hcz3_1, hfz3_0, hfz3_1⟩ := cellsF2 BK338.out))
 go_loopg [9] k (fun kq v9 w' => ∃ (x9_1 : Int), v9 = .int .i64 x9_1 ∧ Aside0 (F105.l0 kq l0_1 (l0_1.length : Int) x9_1 a0_0 l0_1 = some r) ∧ Aside0 (kq ≤ k) ∧ Aside0 (w'.heap[gb338]? = some (.cells #[.string a0_0, (.slice A0_1 l0_1.length c0_1)] 49 (0, 0))) ∧ Aside0 (Below w.heap.size w w'))
 case atStart => exact ⟨(0), er_, H', ⟨Nat.le_refl _⟩, ⟨bk_ BK338⟩, ⟨bl_⟩⟩
 case round =>
  clear H'
  try clear hcz3_0 hcz3_1
  try clear hfz3_0 hfz3_1
  obtain ⟨x9_1, rfl, HA, HK1, BK338, HB⟩ := hrel
  cases gk with
  | zero => exact absurd HA.out (by simp [F105.l0])
  | succ k1 =>
   have H := HA.out
   clear HA
   simp only [F105.l0] at H
   replace H := it_ H; rcases H with ⟨c4b0, H⟩ | ⟨c4b0, H⟩
   rotate_left
   ·replace H := bi_ H; rcases H with ⟨t339, A33, H⟩
    replace H := ib_ H; rcases H with ⟨rfl, H⟩ | ⟨rfl, H⟩
    ·obtain rfl := Option.some.inj H
     obtain ⟨hcz35_0, hcz35_1, hfz35_0, hfz35_1⟩ := cellsF2 BK338.out
     go_wp2_with (first | ((with_reducible refine gate_callee (f := 121) rfl ?_); refine gl_ 47 Tryz.func121 #[.string a0_0] ?_ rfl rfl rfl rfl; (with_reducible refine (F121.calls a0_0 true _ A33.out).mono ?_); rintro e w' ⟨rfl, ⟨nd, rfl⟩⟩; refine ⟨_, rfl, ?_⟩))
     go_ret
     exact ⟨au2_0, bl_⟩
    obtain rfl := Option.some.inj H
    obtain ⟨hcz36_0, hcz36_1, hfz36_0, hfz36_1⟩ := cellsF2 BK338.out
    go_wp2_with (first | ((with_reducible refine gate_callee (f := 121) rfl ?_); refine gl_ 47 Tryz.func121 #[.string a0_0] ?_ rfl rfl rfl rfl; (with_reducible refine (F121.calls a0_0 false _ A33.out).mono ?_); rintro e w' ⟨rfl, ⟨nd, rfl⟩⟩; refine ⟨_, rfl, ?_⟩))
    go_ret
    exact ⟨au2_0, bl_⟩

   replace H := itn_ H; rcases H with ⟨c5b0, H⟩
   replace H := itn_ H; rcases H with ⟨c6b0, H⟩
   have HC7 := am_ H
   clear H
   have p340 : 0 ≤ (x9_1 : Int) := od_
   have q340 : x9_1 < (l0_1.length : Int) := od_
   obtain ⟨ad340, A340_0, c340_0, e340, hx340_0, hl340_0, hi340_0⟩ := at_T91 HR0_1.out x9_1 p340 q340
   cases e340
   replace hx340_0 := (HB.out.cell (World.block_lt_of_cell? _ _ hx340_0)).trans hx340_0
   have HR340_0 := am_ hi340_0
   have HC340_0 := am_ hl340_0
   clear hi340_0 hl340_0
   replace p340 := eq_true p340
   replace q340 := eq_true q340
   go_upto_region 5 with (first | ((with_reducible refine gate_dst (N := 4) rfl ?_); (try (refine gate_guard (by rfl) ?_; dsimp only)); refine be_ 4 #[.slice none 0 0] 91 ?_; intro gb341 hg w8 hbox hb; have BK341 := am_ (hbox); have GW341 := am_ (gw_ hg bl_); have GE341 := GW341; replace HB := hs_ w hb; have NB338_341 := am_ (gn_ hg (blkl_ BK338)); have NB341_338 := am_ (gm_ hg (blkl_ BK338)); replace BK338 := bb_ BK338 hb; clear hb hbox hg; have hnb9 := NB341_338.out; have hnc9 := NB338_341.out; have hcz10_0 : w8.cell? ⟨gb341, 0, none⟩ = some (.slice none 0 0) := (blk_cell BK341.out 0).trans rfl; have hfz10_0 := blk_frozen BK341.out 0))
   (try simp only [Act.put, List.setIfInBounds_toArray, List.set_cons_zero, List.set_cons_succ])
   go_cut [24] (fun v24 wc => ∃ (kq : Nat) (x24_6 : Bool), v24 = .bool x24_6 ∧ Aside0 (F105.j1 kq x9_1 (((rd_T91 l0_1 x9_1).f0).length : Int) l0_1 (l0_1.length : Int) x9_1 x24_6 a0_0 l0_1 ((rd_T91 l0_1 x9_1).f0) = some r) ∧ Aside0 (kq ≤ k1) ∧ Aside0 (wc.heap[gb338]? = some (.cells #[.string a0_0, (.slice (some ad340) l0_1.length c0_1)] 49 (0, 0))) ∧ Aside0 (wc.heap[gb341]? = some (.cells #[(.slice A340_0 ((rd_T91 l0_1 x9_1).f0).length c340_0)] 91 (0, 0))) ∧ Aside0 (Below w.heap.size w wc))
   case first =>
    have H := HC7.out
    clear HC7
    replace H := bi_ H; rcases H with ⟨t342, A11, H⟩
    replace H := ib_ H; rcases H with ⟨rfl, H⟩ | ⟨rfl, H⟩
    rotate_left
    ·have H' := am_ H
     clear H
     go_wp2_with (first | ((with_reducible refine gate_callee (f := 56) rfl ?_); refine gl_ 18 Tryz.func56 #[.int .i64 (((rd_T91 l0_1 x9_1).f0).length : Int), .int .i64 1, .int .i64 4] ?_ rfl rfl rfl rfl; (with_reducible refine (F56.calls (((rd_T91 l0_1 x9_1).f0).length : Int) 1 4 false _ A11.out).mono ?_); rintro e w' ⟨rfl, ⟨nd, rfl⟩⟩; refine ⟨_, rfl, ?_⟩))
     go_meet
     case rel => exact ⟨_, (true), er_, H', ⟨by have := HK1.out; first | omega | exact Nat.le_refl _⟩, ⟨bf_ BK338⟩, ⟨bq_ BK341⟩, ⟨bl_⟩⟩
    replace H := bi_ H; rcases H with ⟨t343, A13, H⟩
    have H' := am_ H
    clear H
    go_wp2_with (first | ((with_reducible refine gate_callee (f := 56) rfl ?_); refine gl_ 18 Tryz.func56 #[.int .i64 (((rd_T91 l0_1 x9_1).f0).length : Int), .int .i64 1, .int .i64 4] ?_ rfl rfl rfl rfl; (with_reducible refine (F56.calls (((rd_T91 l0_1 x9_1).f0).length : Int) 1 4 true _ A11.out).mono ?_); rintro e w' ⟨rfl, ⟨nd, rfl⟩⟩; refine ⟨_, rfl, ?_⟩; have hnb14 := NB341_338.out; have hnc14 := NB338_341.out; have hcz15_0 : w8.cell? ⟨gb341, 0, none⟩ = some (.slice none 0 0) := (blk_cell BK341.out 0).trans rfl; have hfz15_0 := blk_frozen BK341.out 0) | (go_at_call 118; (with_reducible refine (F118.calls k1 _ _ ((rd_T91 l0_1 x9_1).f0)  t343 _ ?s1 ?s2 A13.out).mono ?_); (case s1 => exact Kd.C_below HR340_0.out bl_); (case s2 => exact HC340_0.out); rintro e w' ⟨rfl, ⟨nd, rfl⟩⟩))
    go_meet
    case rel => exact ⟨_, (t343), er_, H', ⟨by have := HK1.out; first | omega | exact Nat.le_refl _⟩, ⟨bf_ BK338⟩, ⟨bq_ BK341⟩, ⟨bl_⟩⟩
   case rest =>
    clear HC7
    try clear c4b0
    try clear c5b0
    try clear c6b0
    try clear hcz10_0
    try clear hcz15_0
    try clear hcz3_0 hcz3_1
    try clear hfz10_0
    try clear hfz15_0
    try clear hfz3_0 hfz3_1
    try clear hx340_0
    try clear p340
    try clear q340
    obtain ⟨kq, x24_6, rfl, HA, HJ6, BK338, BK341, HB⟩ := hcut
    cases kq with
    | zero => exact absurd HA.out (by simp [F105.j1])
    | succ kj6 =>
     have H := HA.out
     clear HA
     simp only [F105.j1] at H
     replace H := ib_ H; rcases H with ⟨rfl, H⟩ | ⟨rfl, H⟩
     ·obtain rfl := Option.some.inj H
      go_wp2
      go_ret
      exact ⟨au2_0, bl_⟩
     obtain ⟨ji17, hji17⟩ : ∃ j_ : Int, (wrap64 ((((rd_T91 l0_1 x9_1).f0).length : Int) - 1)) = j_ := ⟨_, rfl⟩
     replace H : (if 0 ≤ (ji17) then (if (ji17) < (((rd_T91 l0_1 x9_1).f0).length : Int) then (if (rdOf ByteArray.empty ((rd_T91 l0_1 x9_1).f0) (ji17)).toList = ([] : List UInt8) then (if (((rd_T91 l0_1 x9_1).f0).length : Int) > 1 then (some false) else (if x9_1 = (wrap64 ((l0_1.length : Int) - 1)) then (some false) else (F105.l0 kj6 l0_1 (l0_1.length : Int) (wrap64 (x9_1 + 1)) a0_0 l0_1))) else (F105.l0 kj6 l0_1 (l0_1.length : Int) (wrap64 (x9_1 + 1)) a0_0 l0_1)) else (none)) else (none)) = some r := by first | (rw [hji17] at H; exact H) | (simp only [hji17] at H ⊢; exact H)
     have hji17w : (IntKind.i64.wrap ((((rd_T91 l0_1 x9_1).f0).length : Int) - 1)) = ji17 := (i64_w _).trans hji17
     replace H := itn_ H; rcases H with ⟨c18b0, H⟩
     replace H := itn_ H; rcases H with ⟨c19b0, H⟩
     by_cases c20 : (rdOf ByteArray.empty ((rd_T91 l0_1 x9_1).f0) (ji17)).toList = ([] : List UInt8)
     rotate_left
     ·rw [if_neg c20] at H
      have c20b0 : ((rdOf ByteArray.empty ((rd_T91 l0_1 x9_1).f0) (ji17)).toList == ([] : List UInt8)) = false := beq_eq_false_iff_ne.mpr c20
      have c20b1 : ((rdOf ByteArray.empty ((rd_T91 l0_1 x9_1).f0) (ji17)).toList != ([] : List UInt8)) = true := bne_iff_ne.mpr c20
      have H' := am_ H
      clear H
      have hnb31 := NB341_338.out
      have hnc31 := NB338_341.out
      have hcz32_0 : wc.cell? ⟨gb341, 0, none⟩ = some (.slice A340_0 ((rd_T91 l0_1 x9_1).f0).length c340_0) := (blk_cell BK341.out 0).trans rfl
      have hfz32_0 := blk_frozen BK341.out 0
      have p344 : 0 ≤ ((ji17) : Int) := od_
      have q344 : (ji17) < (((rd_T91 l0_1 x9_1).f0).length : Int) := od_
      obtain ⟨ad344, e344, hx344_0⟩ := Kd.at_string HR340_0.out (ji17) p344 q344
      cases e344
      replace hx344_0 := (HB.out.cell (World.block_lt_of_cell? _ _ hx344_0)).trans hx344_0
      replace p344 := eq_true p344
      replace q344 := eq_true q344
      go_wp2
      go_roundg kj6
      case measure => have := HK1.out; have := HJ6.out; omega
      case rel => exact ⟨(wrap64 (x9_1 + 1)), er_, H', ⟨by have := HK1.out; have := HJ6.out; omega⟩, ⟨bk_ BK338⟩, ⟨bl_⟩⟩
     rw [if_pos c20] at H
     have c20b0 : ((rdOf ByteArray.empty ((rd_T91 l0_1 x9_1).f0) (ji17)).toList == ([] : List UInt8)) = true := beq_iff_eq.mpr c20
     have c20b1 : ((rdOf ByteArray.empty ((rd_T91 l0_1 x9_1).f0) (ji17)).toList != ([] : List UInt8)) = false := bne_eq_false_iff_eq.mpr c20
     clear c20
     replace H := it_ H; rcases H with ⟨(c21b0 : decide (1 < (((rd_T91 l0_1 x9_1).f0).length : Int)) = true), H⟩ | ⟨(c21b0 : decide (1 < (((rd_T91 l0_1 x9_1).f0).length : Int)) = false), H⟩
     ·have c21b1 : decide (1 < ((rd_T91 l0_1 x9_1).f0).length) = true := n2_ c21b0
      obtain rfl := Option.some.inj H
      have hnb22 := NB341_338.out
      have hnc22 := NB338_341.out
      have hcz23_0 : wc.cell? ⟨gb341, 0, none⟩ = some (.slice A340_0 ((rd_T91 l0_1 x9_1).f0).length c340_0) := (blk_cell BK341.out 0).trans rfl
      have hfz23_0 := blk_frozen BK341.out 0
      have p344 : 0 ≤ ((ji17) : Int) := od_
      have q344 : (ji17) < (((rd_T91 l0_1 x9_1).f0).length : Int) := od_
      obtain ⟨ad344, e344, hx344_0⟩ := Kd.at_string HR340_0.out (ji17) p344 q344
      cases e344
      replace hx344_0 := (HB.out.cell (World.block_lt_of_cell? _ _ hx344_0)).trans hx344_0
      replace p344 := eq_true p344
      replace q344 := eq_true q344
      go_wp2
      go_ret
      exact ⟨au2_14, bl_⟩
     have c21b1 : decide (1 < ((rd_T91 l0_1 x9_1).f0).length) = false := n2_ c21b0
     by_cases c24 : x9_1 = (wrap64 ((l0_1.length : Int) - 1))
     ·rw [if_pos c24] at H
      have c24b0 : (x9_1 == (wrap64 ((l0_1.length : Int) - 1))) = true := beq_iff_eq.mpr c24
      have c24b1 : (x9_1 != (wrap64 ((l0_1.length : Int) - 1))) = false := bne_eq_false_iff_eq.mpr c24
      clear c24
      obtain rfl := Option.some.inj H
      have hnb25 := NB341_338.out
      have hnc25 := NB338_341.out
      have hcz26_0 : wc.cell? ⟨gb341, 0, none⟩ = some (.slice A340_0 ((rd_T91 l0_1 x9_1).f0).length c340_0) := (blk_cell BK341.out 0).trans rfl
      have hfz26_0 := blk_frozen BK341.out 0
      have p344 : 0 ≤ ((ji17) : Int) := od_
      have q344 : (ji17) < (((rd_T91 l0_1 x9_1).f0).length : Int) := od_
      obtain ⟨ad344, e344, hx344_0⟩ := Kd.at_string HR340_0.out (ji17) p344 q344
      cases e344
      replace hx344_0 := (HB.out.cell (World.block_lt_of_cell? _ _ hx344_0)).trans hx344_0
      replace p344 := eq_true p344
      replace q344 := eq_true q344
      obtain ⟨hcz27_0, hcz27_1, hfz27_0, hfz27_1⟩ := cellsF2 BK338.out
      go_wp2
      go_ret
      exact ⟨au2_14, bl_⟩
     rw [if_neg c24] at H
     have c24b0 : (x9_1 == (wrap64 ((l0_1.length : Int) - 1))) = false := beq_eq_false_iff_ne.mpr c24
     have c24b1 : (x9_1 != (wrap64 ((l0_1.length : Int) - 1))) = true := bne_iff_ne.mpr c24
     have H' := am_ H
     clear H
     have hnb28 := NB341_338.out
     have hnc28 := NB338_341.out
     have hcz29_0 : wc.cell? ⟨gb341, 0, none⟩ = some (.slice A340_0 ((rd_T91 l0_1 x9_1).f0).length c340_0) := (blk_cell BK341.out 0).trans rfl
     have hfz29_0 := blk_frozen BK341.out 0
     have p344 : 0 ≤ ((ji17) : Int) := od_
     have q344 : (ji17) < (((rd_T91 l0_1 x9_1).f0).length : Int) := od_
     obtain ⟨ad344, e344, hx344_0⟩ := Kd.at_string HR340_0.out (ji17) p344 q344
     cases e344
     replace hx344_0 := (HB.out.cell (World.block_lt_of_cell? _ _ hx344_0)).trans hx344_0
     replace p344 := eq_true p344
     replace q344 := eq_true q344
     obtain ⟨hcz30_0, hcz30_1, hfz30_0, hfz30_1⟩ := cellsF2 BK338.out
     go_wp2
     go_roundg kj6
     case measure => have := HK1.out; have := HJ6.out; omega
     case rel => exact ⟨(wrap64 (x9_1 + 1)), er_, H', ⟨by have := HK1.out; have := HJ6.out; omega⟩, ⟨bk_ BK338⟩, ⟨bl_⟩⟩
/-! ### F122: function 122 -/
def F122.l0 : Nat → List ByteArray → ByteArray → Int → Int → Option (Int)
  | 0, _, _, _, _ => none
  | k + 1, x0, x1, x7, x8 => if x8 < x7 then (if 0 ≤ x8 then (if x8 < (x0.length : Int) then (if x1.toList = (rdOf ByteArray.empty x0 x8).toList then (some x8) else (F122.l0 k x0 x1 x7 (wrap64 (x8 + 1)))) else (none)) else (none)) else (some (-1))
def F122.f (k : Nat) (l0 : List ByteArray) (a1 : ByteArray) : Option (Int) := F122.l0 k l0 a1 (l0.length : Int) 0
theorem F122.mono_l : ∀ k, (∀ y0 y1 y2 y3, LeO (F122.l0 k y0 y1 y2 y3) (F122.l0 (k + 1) y0 y1 y2 y3))
 | 0 => fun _ _ _ _ r h => by simp [F122.l0] at h
 | k + 1 => by
  have ih0 := F122.mono_l k
  intro y0 y1 y2 y3
  unfold F122.l0
  repeat' with_reducible first | exact ih0 _ _ _ _ | exact LeO.refl _ | exact LeO.none _ | refine LeO.ite ?_ ?_ | refine LeO.bind ?_ (fun _ => ?_)
theorem F122.mono : ∀ a0 a1 k, LeO (F122.f k a0 a1) (F122.f (k + 1) a0 a1) := by
 intro a0 a1 k
 have ih0 := F122.mono_l k
 unfold F122.f
 repeat' with_reducible first | exact ih0 _ _ _ _ | exact LeO.refl _ | exact LeO.none _ | refine LeO.ite ?_ ?_ | refine LeO.bind ?_ (fun _ => ?_)
theorem F122.calls (k : Nat) (A0 : Option Addr) (c0 : Nat) (l0 : List ByteArray) (a1 : ByteArray) (r : Int) (w : World) (hr0 : Kd.C Kd.string w A0 l0.length l0) (hc0 : l0.length ≤ c0) (h : F122.f k l0 a1 = some r) :
  Calls Tryz.prog 122 #[.slice A0 l0.length c0, .string a1] w fun e w' => e = .returned (.int .i64 r) ∧ Drawn0 w w' := by
 have HR0 := am_ hr0
 have HC0 := am_ hc0
 clear hr0 hc0
 have H : (F122.l0 k l0 a1 (l0.length : Int) 0) = some r := h
 clear h
 have H' := am_ H
 clear H
 go_enter Tryz.func122, Tryz.ntmps122
 go_wp2
 go_loopg [8] k (fun kq v8 w' => ∃ (x8_1 : Int), v8 = .int .i64 x8_1 ∧ Aside0 (F122.l0 kq l0 a1 (l0.length : Int) x8_1 = some r) ∧ Aside0 (kq ≤ k) ∧ Drawn0 w w')
 case atStart => exact ⟨(0), er_, H', ⟨Nat.le_refl _⟩, dn_⟩
 case round =>
  clear H'
  obtain ⟨x8_1, rfl, HA, HK1, ⟨m1, rfl⟩⟩ := hrel
  cases gk with
  | zero => exact absurd HA.out (by simp [F122.l0])
  | succ k1 =>
   have H := HA.out
   clear HA
   simp only [F122.l0] at H
   replace H := it_ H; rcases H with ⟨c3b0, H⟩ | ⟨c3b0, H⟩
   rotate_left
   ·obtain rfl := Option.some.inj H
    go_wp2
    go_ret
    exact ⟨er_, dn_⟩

   replace H := itn_ H; rcases H with ⟨c4b0, H⟩
   replace H := itn_ H; rcases H with ⟨c5b0, H⟩
   by_cases c6 : a1.toList = (rdOf ByteArray.empty l0 x8_1).toList
   ·rw [if_pos c6] at H
    have c6b0 : (a1.toList == (rdOf ByteArray.empty l0 x8_1).toList) = true := beq_iff_eq.mpr c6
    have c6b1 : (a1.toList != (rdOf ByteArray.empty l0 x8_1).toList) = false := bne_eq_false_iff_eq.mpr c6
    clear c6
    obtain rfl := Option.some.inj H
    have p345 : 0 ≤ (x8_1 : Int) := od_
    have q345 : x8_1 < (l0.length : Int) := od_
    obtain ⟨ad345, e345, hx345_0⟩ := Kd.at_string HR0.out x8_1 p345 q345
    cases e345
    replace p345 := eq_true p345
    replace q345 := eq_true q345
    go_wp2
    go_ret
    exact ⟨er_, dn_⟩
   rw [if_neg c6] at H
   have c6b0 : (a1.toList == (rdOf ByteArray.empty l0 x8_1).toList) = false := beq_eq_false_iff_ne.mpr c6
   have c6b1 : (a1.toList != (rdOf ByteArray.empty l0 x8_1).toList) = true := bne_iff_ne.mpr c6
   have H' := am_ H
   clear H
   have p345 : 0 ≤ (x8_1 : Int) := od_
   have q345 : x8_1 < (l0.length : Int) := od_
   obtain ⟨ad345, e345, hx345_0⟩ := Kd.at_string HR0.out x8_1 p345 q345
   cases e345
   replace p345 := eq_true p345
   replace q345 := eq_true q345
   go_wp2
   go_roundg k1
   case measure => have := HK1.out; omega
   case rel => exact ⟨(wrap64 (x8_1 + 1)), er_, H', ⟨by have := HK1.out; omega⟩, dn_⟩
/-! ### F106: function 106 -/
def F106.f (k : Nat) (l0 : List ByteArray) (a1 : ByteArray) : Option (Bool) := (F122.f k l0 a1).bind fun t346 => (some (decide (t346 ≥ 0)))
theorem F106.mono : ∀ a0 a1 k, LeO (F106.f k a0 a1) (F106.f (k + 1) a0 a1) := by
 intro a0 a1 k
 unfold F106.f
 repeat' with_reducible first | exact F122.mono _ _ _ | exact LeO.refl _ | exact LeO.none _ | refine LeO.ite ?_ ?_ | refine LeO.bind ?_ (fun _ => ?_)
theorem F106.calls (k : Nat) (A0 : Option Addr) (c0 : Nat) (l0 : List ByteArray) (a1 : ByteArray) (r : Bool) (w : World) (hr0 : Kd.C Kd.string w A0 l0.length l0) (hc0 : l0.length ≤ c0) (h : F106.f k l0 a1 = some r) :
  Calls Tryz.prog 106 #[.slice A0 l0.length c0, .string a1] w fun e w' => e = .returned (.bool r) ∧ Drawn0 w w' := by
 have HR0 := am_ hr0
 have HC0 := am_ hc0
 clear hr0 hc0
 have H : ((F122.f k l0 a1).bind fun t346 => (some (decide (t346 ≥ 0)))) = some r := h
 clear h
 replace H := bi_ H; rcases H with ⟨t346, A3, H⟩
 obtain rfl := Option.some.inj H
 go_enter Tryz.func106, Tryz.ntmps106
 go_wp2_with (first | ((with_reducible refine gate_callee (f := 122) rfl ?_); refine gl_ 7 Tryz.func122 #[.slice A0 l0.length c0, .string a1] ?_ rfl rfl rfl rfl; (with_reducible refine (F122.calls k _ _ l0 a1 t346 _ ?s1 ?s2 A3.out).mono ?_); (case s1 => exact au2_4); (case s2 => exact HC0.out); rintro e w' ⟨rfl, ⟨nd, rfl⟩⟩; refine ⟨_, rfl, ?_⟩))
 go_ret
 exact ⟨er_, dn_⟩

/-! ### F107: function 107 -/
def F107.f  : Option (List ByteArray) := some (([(⟨#[73, 88, 72]⟩ : ByteArray), (⟨#[71, 82, 72]⟩ : ByteArray), (⟨#[77, 83, 72]⟩ : ByteArray), (⟨#[77, 83, 84]⟩ : ByteArray), (⟨#[71, 82, 84]⟩ : ByteArray), (⟨#[73, 88, 84]⟩ : ByteArray)] : List ByteArray))
theorem F107.calls  (r : List ByteArray) (w : World) (h : F107.f  = some r) :
  Calls Tryz.prog 107 #[] w fun e w' => ∃ v0_ : Value, e = .returned (v0_) ∧ Kd.R Kd.string 9 w' w.heap.size (fun _ => True) v0_ r ∧ Below w.heap.size w w' := by
 have HB := am_ (Below.refl w.heap.size w)
 have H : (some (([(⟨#[73, 88, 72]⟩ : ByteArray), (⟨#[71, 82, 72]⟩ : ByteArray), (⟨#[77, 83, 72]⟩ : ByteArray), (⟨#[77, 83, 84]⟩ : ByteArray), (⟨#[71, 82, 84]⟩ : ByteArray), (⟨#[73, 88, 84]⟩ : ByteArray)] : List ByteArray))) = some r := h
 clear h
 obtain ⟨y347, hy347⟩ : ∃ y_ : List ByteArray, y_ = (([(⟨#[73, 88, 72]⟩ : ByteArray), (⟨#[71, 82, 72]⟩ : ByteArray), (⟨#[77, 83, 72]⟩ : ByteArray), (⟨#[77, 83, 84]⟩ : ByteArray), (⟨#[71, 82, 84]⟩ : ByteArray), (⟨#[73, 88, 84]⟩ : ByteArray)] : List ByteArray)) := ⟨_, rfl⟩
 replace H : (some y347) = some r := by first | (rw [hy347]; exact H) | exact H
 have Ny347 := am_ hy347
 clear hy347
 obtain rfl := Option.some.inj H
 go_enter Tryz.func107, Tryz.ntmps107
 go_wp2_with (first | ((with_reducible refine gate_dst (N := 1) rfl ?_); refine Kd.R_lit Kd.string _ 9 ?hg (N := 1) ?hd (xs := ([(⟨#[73, 88, 72]⟩ : ByteArray), (⟨#[71, 82, 72]⟩ : ByteArray), (⟨#[77, 83, 72]⟩ : ByteArray), (⟨#[77, 83, 84]⟩ : ByteArray), (⟨#[71, 82, 84]⟩ : ByteArray), (⟨#[73, 88, 84]⟩ : ByteArray)] : List ByteArray)) (inner := [.string (⟨#[73, 88, 72]⟩ : ByteArray), .string (⟨#[71, 82, 72]⟩ : ByteArray), .string (⟨#[77, 83, 72]⟩ : ByteArray), .string (⟨#[77, 83, 84]⟩ : ByteArray), .string (⟨#[71, 82, 84]⟩ : ByteArray), .string (⟨#[73, 88, 84]⟩ : ByteArray)]) (ok := fun _ => True) (okp := fun _ => True) ?hr ?hp (fun _ hk => hk) trivial (Below.refl _ _) (Nat.le_refl _) (by simp) ?_; (case hd => rfl); (case hg => rfl); (case hr => exact hr_); (case hp => exact (Reps.one (show Kd.M Kd.string _ _ _ (⟨#[73, 88, 72]⟩ : ByteArray) [.string (⟨#[73, 88, 72]⟩ : ByteArray)] from rfl) (Reps.one (show Kd.M Kd.string _ _ _ (⟨#[71, 82, 72]⟩ : ByteArray) [.string (⟨#[71, 82, 72]⟩ : ByteArray)] from rfl) (Reps.one (show Kd.M Kd.string _ _ _ (⟨#[77, 83, 72]⟩ : ByteArray) [.string (⟨#[77, 83, 72]⟩ : ByteArray)] from rfl) (Reps.one (show Kd.M Kd.string _ _ _ (⟨#[77, 83, 84]⟩ : ByteArray) [.string (⟨#[77, 83, 84]⟩ : ByteArray)] from rfl) (Reps.one (show Kd.M Kd.string _ _ _ (⟨#[71, 82, 84]⟩ : ByteArray) [.string (⟨#[71, 82, 84]⟩ : ByteArray)] from rfl) (Reps.one (show Kd.M Kd.string _ _ _ (⟨#[73, 88, 84]⟩ : ByteArray) [.string (⟨#[73, 88, 84]⟩ : ByteArray)] from rfl) (Reps.none _ _)))))))); intro v348 w1 ho2 hb hg_ hnew_; clear hg_ hnew_; (first | rw [← Ny347.out] at ho2 | (simp only [Int.reduceToNat] at ho2; rw [← Ny347.out] at ho2)); have HO349 := am_ (Kd.R_lower ho2 (below_size bl_)); replace HB := hs_ w hb; clear hb ho2))
 go_ret
 exact ⟨_, au2_0, rk_ HO349, bl_⟩

/-! ### F81: function 81 -/
def F81.f (k : Nat) (a0_0 : ByteArray) (l0_1 : List (S91)) : Option (Bool) := (F105.f k a0_0 l0_1).bind fun t351 => (if t351 = true then ((F107.f).bind fun t352 => ((F106.f k t352 a0_0).bind fun t355 => (some (!t355)))) else (some false))
theorem F81.mono : ∀ a0 a1 k, LeO (F81.f k a0 a1) (F81.f (k + 1) a0 a1) := by
 intro a0 a1 k
 unfold F81.f
 repeat' with_reducible first | exact F105.mono _ _ _ | exact F106.mono _ _ _ | exact LeO.refl _ | exact LeO.none _ | refine LeO.ite ?_ ?_ | refine LeO.bind ?_ (fun _ => ?_)
def F81.T1 : Bool × List (List Nat × List Nat) := (true, [([], []), ([0], [0]), ([1, 1], [1]), ([2, 2], [2]), ([2], [2]), ([4, 2], [2, 4]), ([3, 5, 3, 2], [2, 3, 5]), ([6, 2], [2, 6]), ([2, 7], [2, 7]), ([8, 6, 0, 1, 2, 3, 4, 5, 6, 7, 8], [8])])
def F81.B1 : List Nat := [0, 1, 3, 7, 7, 23, 63, 127, 255, 511]
theorem F81.tab1 : rtab .any (opsOf Tryz.f81 1) = F81.T1 := by kernel_rfl
theorem F81.bits1 : waitsOk F81.T1.2 F81.B1 = true := by kernel_rfl
theorem F81.calls (k : Nat) (a0_0 : ByteArray) (A0_1 : Option Addr) (c0_1 : Nat) (l0_1 : List (S91)) (r : Bool) (w : World) (hr0_1 : Kd.C k91 w A0_1 l0_1.length l0_1) (hc0_1 : l0_1.length ≤ c0_1) (h : F81.f k a0_0 l0_1 = some r) :
  Calls Tryz.prog 81 #[.agg #[.string a0_0, .slice A0_1 l0_1.length c0_1]] w fun e w' => e = .returned (.bool r) ∧ Below w.heap.size w w' := by
 have hu49 := Tryz.underlying49
 have HR0_1 := am_ hr0_1
 have HC0_1 := am_ hc0_1
 clear hr0_1 hc0_1
 have HB := am_ (Below.refl w.heap.size w)
 have H : ((F105.f k a0_0 l0_1).bind fun t351 => (if t351 = true then ((F107.f).bind fun t352 => ((F106.f k t352 a0_0).bind fun t355 => (some (!t355)))) else (some false))) = some r := h
 clear h
 replace H := bi_ H; rcases H with ⟨t351, A2, H⟩
 replace H := ib_ H; rcases H with ⟨rfl, H⟩ | ⟨rfl, H⟩
 rotate_left
 ·obtain rfl := Option.some.inj H
  go_enter Tryz.func81, Tryz.ntmps81
  try go_wp2_with (first | ((with_reducible refine gate_dst (N := 1) rfl ?_); refine be_ 1 #[.string a0_0, .slice A0_1 l0_1.length c0_1] 49 ?_; intro gb350 hg w11 hbox hb; have BK350 := am_ (hbox); have GW350 := am_ (gw_ hg bl_); have GE350 := GW350; replace HB := hs_ w hb; clear hb hbox hg))
  replace BK350 := bd_ BK350
  replace HB := am_ (below_drew1 HB.out)
  refine start_ (n := 10) (S := fun w' => w'.cell? ⟨gb350, 0, none⟩ = some (.string a0_0) ∧ w'.cell? ⟨gb350, 1, none⟩ = some (.slice A0_1 l0_1.length c0_1)) (ds := []) (bs 10 0) (by kernel_rfl) rfl rfl ⟨(blk_cell BK350.out 0).trans rfl, (blk_cell BK350.out 1).trans rfl⟩ (fun hHeld => ?_); refine with_tabW F81.tab1 F81.bits1 (fun HT_ HW_ => ?_)
  generalize w11.drew = w12 at BK350 HB hHeld ⊢
  refine tk_ 0 3 (bs 10 1) HT_ HW_ hHeld au2_16 ?_ rfl rfl
  refine one_ (i := 1) (N := some 4) (bs 10 3) rfl rfl (one_of HT_.out (by kernel_rfl)) (by decide) (fun K hK => ?_)
  refine gr_ Tryz.func105 #[.agg #[.string a0_0, .slice A0_1 l0_1.length c0_1]] (by rfl) ?_ rfl rfl rfl
  with_reducible refine (F105.calls k a0_0 _ _ l0_1 false _ ?s1 ?s2 A2.out).mono ?_
  (case s1 => exact au2_5)
  (case s2 => exact HC0_1.out)
  rintro e w13 ⟨rfl, hb⟩
  refine ⟨_, rfl, ?_⟩
  replace BK350 := bb_ BK350 hb
  replace HB := hs_ w hb
  (try clear hb)
  (try clear hb2)
  (try clear hk)
  (try clear hi)
  refine hK.out _ _ ⟨(blk_cell BK350.out 0).trans rfl, (blk_cell BK350.out 1).trans rfl⟩ (fun hHeld => ?_)
  clear hK K
  refine no_ 4 ?_
  refine pu_ 2 5 (bs 10 7) HT_ ?_ rfl rfl
  refine pv_ 3 6 (bs 10 15) HT_ ?_ rfl rfl
  refine pv_ 4 7 (bs 10 31) HT_ ?_ rfl rfl
  refine pv_ 5 8 (bs 10 63) HT_ ?_ rfl rfl
  refine pv_ 6 9 (bs 10 127) HT_ ?_ rfl rfl
  refine pv_ 7 10 (bs 10 255) HT_ ?_ rfl rfl
  refine pu_ 8 11 (bs 10 511) HT_ ?_ rfl rfl
  refine pu_ 9 2 (bs 10 1023) HT_ ?_ rfl rfl
  refine done_ (done_of HT_.out (by kernel_rfl)) ?_
  try go_wp2
  go_ret
  exact ⟨au2_0, bl_⟩

 replace H := bi_ H; rcases H with ⟨t352, A4, H⟩
 replace H := bi_ H; rcases H with ⟨t355, A5, H⟩
 obtain rfl := Option.some.inj H
 go_enter Tryz.func81, Tryz.ntmps81
 try go_wp2_with (first | ((with_reducible refine gate_dst (N := 1) rfl ?_); refine be_ 1 #[.string a0_0, .slice A0_1 l0_1.length c0_1] 49 ?_; intro gb350 hg w6 hbox hb; have BK350 := am_ (hbox); have GW350 := am_ (gw_ hg bl_); have GE350 := GW350; replace HB := hs_ w hb; clear hb hbox hg))
 replace BK350 := bd_ BK350
 replace HB := am_ (below_drew1 HB.out)
 refine start_ (n := 10) (S := fun w' => w'.cell? ⟨gb350, 0, none⟩ = some (.string a0_0) ∧ w'.cell? ⟨gb350, 1, none⟩ = some (.slice A0_1 l0_1.length c0_1)) (ds := []) (bs 10 0) (by kernel_rfl) rfl rfl ⟨(blk_cell BK350.out 0).trans rfl, (blk_cell BK350.out 1).trans rfl⟩ (fun hHeld => ?_); refine with_tabW F81.tab1 F81.bits1 (fun HT_ HW_ => ?_)
 generalize w6.drew = w7 at BK350 HB hHeld ⊢
 refine tk_ 0 3 (bs 10 1) HT_ HW_ hHeld au2_16 ?_ rfl rfl
 refine one_ (i := 1) (N := some 4) (bs 10 3) rfl rfl (one_of HT_.out (by kernel_rfl)) (by decide) (fun K hK => ?_)
 refine gr_ Tryz.func105 #[.agg #[.string a0_0, .slice A0_1 l0_1.length c0_1]] (by rfl) ?_ rfl rfl rfl
 with_reducible refine (F105.calls k a0_0 _ _ l0_1 true _ ?s1 ?s2 A2.out).mono ?_
 (case s1 => exact au2_5)
 (case s2 => exact HC0_1.out)
 rintro e w8 ⟨rfl, hb⟩
 refine ⟨_, rfl, ?_⟩
 replace BK350 := bb_ BK350 hb
 replace HB := hs_ w hb
 (try clear hb)
 (try clear hb2)
 (try clear hk)
 (try clear hi)
 refine hK.out _ _ ⟨(blk_cell BK350.out 0).trans rfl, (blk_cell BK350.out 1).trans rfl⟩ (fun hHeld => ?_)
 clear hK K
 refine no_ 4 ?_
 refine pu_ 2 5 (bs 10 7) HT_ ?_ rfl rfl
 refine pu_ 4 7 (bs 10 23) HT_ ?_ rfl rfl
 refine tk_ 5 8 (bs 10 55) HT_ HW_ hHeld au2_16 ?_ rfl rfl
 refine one_ (i := 3) (N := some 6) (bs 10 63) rfl rfl (one_of HT_.out (by kernel_rfl)) (by decide) (fun K hK => ?_)
 refine gr_ Tryz.func107 #[] (by rfl) ?_ rfl rfl rfl
 with_reducible refine (F107.calls  t352 _ A4.out).mono ?_
 rintro e w9 ⟨v353, rfl, ho0, hb⟩
 refine ⟨_, rfl, ?_⟩
 have HO354 := am_ (Kd.R_lower ho0 (below_size bl_))
 replace BK350 := bb_ BK350 hb
 replace HB := hs_ w hb
 (try clear hb)
 (try clear hb2)
 (try clear hk)
 (try clear hi)
 (try clear ho0)
 obtain ⟨Ao10, co10, eo10⟩ := Kd.R_slice HO354.out
 (first | subst eo10 | (injection eo10 with f1_ f2_ f3_; have f4_ := f1_.symm; have f5_ := f3_.symm; clear f1_ f2_ f3_; subst f4_; subst f5_))
 refine hK.out _ _ ⟨(blk_cell BK350.out 0).trans rfl, (blk_cell BK350.out 1).trans rfl⟩ (fun hHeld => ?_)
 clear hK K
 refine no_ 6 ?_
 refine one_ (i := 6) (N := some 9) (bs 10 127) rfl rfl (one_of HT_.out (by kernel_rfl)) (by decide) (fun K hK => ?_)
 refine gr_ Tryz.func106 #[.slice Ao10 t352.length co10, .string a0_0] (by rfl) ?_ rfl rfl rfl
 with_reducible refine (F106.calls k _ _ t352 a0_0 t355 _ ?s1 ?s2 A5.out).mono ?_
 (case s1 => repeat (first | exact (Kd.R_reads' HO354.out).2.2 | (with_reducible refine Kd.C_alloc ?_ _) | (with_reducible refine Kd.C_drewN ?_ _) | (with_reducible refine Kd.C_drew ?_)))
 (case s2 => exact (Kd.R_reads' HO354.out).2.1)
 rintro e w' ⟨rfl, ⟨nd, rfl⟩⟩
 refine ⟨_, rfl, ?_⟩
 refine hK.out _ _ ⟨(blk_cell BK350.out 0).trans rfl, (blk_cell BK350.out 1).trans rfl⟩ (fun hHeld => ?_)
 clear hK K
 refine no_ 9 ?_
 refine pu_ 7 10 (bs 10 255) HT_ ?_ rfl rfl
 refine pu_ 8 11 (bs 10 511) HT_ ?_ rfl rfl
 refine pu_ 9 2 (bs 10 1023) HT_ ?_ rfl rfl
 refine done_ (done_of HT_.out (by kernel_rfl)) ?_
 try go_wp2
 go_ret
 exact ⟨au2_0, bl_⟩
/-! ### F113: function 113 -/
def F113.f (k : Nat) (a0_0 : ByteArray) (l0_1 : List (S91)) : Option (Bool) := (F81.f k a0_0 l0_1).bind fun t357 => (some (!t357))
theorem F113.mono : ∀ a0 a1 k, LeO (F113.f k a0 a1) (F113.f (k + 1) a0 a1) := by
 intro a0 a1 k
 unfold F113.f
 repeat' with_reducible first | exact F81.mono _ _ _ | exact LeO.refl _ | exact LeO.none _ | refine LeO.ite ?_ ?_ | refine LeO.bind ?_ (fun _ => ?_)
theorem F113.calls (k : Nat) (a0_0 : ByteArray) (A0_1 : Option Addr) (c0_1 : Nat) (l0_1 : List (S91)) (r : Bool) (w : World) (hr0_1 : Kd.C k91 w A0_1 l0_1.length l0_1) (hc0_1 : l0_1.length ≤ c0_1) (h : F113.f k a0_0 l0_1 = some r) :
  Calls Tryz.prog 113 #[.agg #[.string a0_0, .slice A0_1 l0_1.length c0_1]] w fun e w' => e = .returned (.bool r) ∧ Below w.heap.size w w' := by
 have hu49 := Tryz.underlying49
 have HR0_1 := am_ hr0_1
 have HC0_1 := am_ hc0_1
 clear hr0_1 hc0_1
 have HB := am_ (Below.refl w.heap.size w)
 have H : ((F81.f k a0_0 l0_1).bind fun t357 => (some (!t357))) = some r := h
 clear h
 replace H := bi_ H; rcases H with ⟨t357, A2, H⟩
 obtain rfl := Option.some.inj H
 go_enter Tryz.func113, Tryz.ntmps113
 go_wp2_with (first | ((with_reducible refine gate_dst (N := 1) rfl ?_); refine be_ 1 #[.string a0_0, .slice A0_1 l0_1.length c0_1] 49 ?_; intro gb356 hg w3 hbox hb; have BK356 := am_ (hbox); have GW356 := am_ (gw_ hg bl_); have GE356 := GW356; replace HB := hs_ w hb; clear hb hbox hg; obtain ⟨hcz4_0, hcz4_1, hfz4_0, hfz4_1⟩ := cellsF2 BK356.out) | ((with_reducible refine gate_callee (f := 81) rfl ?_); refine gl_ 4 Tryz.func81 #[.agg #[.string a0_0, .slice A0_1 l0_1.length c0_1]] ?_ rfl rfl rfl rfl; (with_reducible refine (F81.calls k a0_0 _ _ l0_1 t357 _ ?s1 ?s2 A2.out).mono ?_); (case s1 => exact au2_5); (case s2 => exact HC0_1.out); rintro e w5 ⟨rfl, hb⟩; refine ⟨_, rfl, ?_⟩; replace BK356 := bb_ BK356 hb; replace HB := hs_ w hb; (try clear hb)))
 go_ret
 exact ⟨au2_0, bl_⟩

/-! ### F125: function 125 -/
def F125.l0 : Nat → List (S49) → Int → Int → Option (Int)
  | 0, _, _, _ => none
  | k + 1, x0, x7, x8 => if x8 < x7 then (if 0 ≤ x8 then (if x8 < (x0.length : Int) then ((F113.f k ((rd_T49 x0 x8).f0) ((rd_T49 x0 x8).f1)).bind fun t359 => (if t359 = true then (some x8) else (F125.l0 k x0 x7 (wrap64 (x8 + 1))))) else (none)) else (none)) else (some (-1))
def F125.f (k : Nat) (l0 : List (S49))  : Option (Int) := F125.l0 k l0 (l0.length : Int) 0
theorem F125.mono_l : ∀ k, (∀ y0 y1 y2, LeO (F125.l0 k y0 y1 y2) (F125.l0 (k + 1) y0 y1 y2))
 | 0 => fun _ _ _ r h => by simp [F125.l0] at h
 | k + 1 => by
  have ih0 := F125.mono_l k
  intro y0 y1 y2
  unfold F125.l0
  repeat' with_reducible first | exact ih0 _ _ _ | exact F113.mono _ _ _ | exact LeO.refl _ | exact LeO.none _ | refine LeO.ite ?_ ?_ | refine LeO.bind ?_ (fun _ => ?_)
theorem F125.mono : ∀ a0 k, LeO (F125.f k a0) (F125.f (k + 1) a0) := by
 intro a0 k
 have ih0 := F125.mono_l k
 unfold F125.f
 repeat' with_reducible first | exact ih0 _ _ _ | exact F113.mono _ _ _ | exact LeO.refl _ | exact LeO.none _ | refine LeO.ite ?_ ?_ | refine LeO.bind ?_ (fun _ => ?_)
theorem F125.calls (k : Nat) (A0 : Option Addr) (c0 : Nat) (l0 : List (S49))  (r : Int) (w : World) (hr0 : Kd.C k49 w A0 l0.length l0) (hc0 : l0.length ≤ c0) (h : F125.f k l0 = some r) :
  Calls Tryz.prog 125 #[.slice A0 l0.length c0, .func (.func 113) #[] #[]] w fun e w' => e = .returned (.int .i64 r) ∧ Below w.heap.size w w' := by
 have hu49 := Tryz.underlying49
 have HR0 := am_ hr0
 have HC0 := am_ hc0
 clear hr0 hc0
 have HB := am_ (Below.refl w.heap.size w)
 have H : (F125.l0 k l0 (l0.length : Int) 0) = some r := h
 clear h
 have H' := am_ H
 clear H
 go_enter Tryz.func125, Tryz.ntmps125
 go_wp2
 go_loopg [8] k (fun kq v8 w' => ∃ (x8_1 : Int), v8 = .int .i64 x8_1 ∧ Aside0 (F125.l0 kq l0 (l0.length : Int) x8_1 = some r) ∧ Aside0 (kq ≤ k) ∧ Aside0 (Below w.heap.size w w'))
 case atStart => exact ⟨(0), er_, H', ⟨Nat.le_refl _⟩, ⟨bl_⟩⟩
 case round =>
  clear H'
  obtain ⟨x8_1, rfl, HA, HK1, HB⟩ := hrel
  cases gk with
  | zero => exact absurd HA.out (by simp [F125.l0])
  | succ k1 =>
   have H := HA.out
   clear HA
   simp only [F125.l0] at H
   replace H := it_ H; rcases H with ⟨c3b0, H⟩ | ⟨c3b0, H⟩
   rotate_left
   ·obtain rfl := Option.some.inj H
    go_wp2
    go_ret
    exact ⟨au2_0, bl_⟩

   replace H := itn_ H; rcases H with ⟨c4b0, H⟩
   replace H := itn_ H; rcases H with ⟨c5b0, H⟩
   replace H := bi_ H; rcases H with ⟨t359, A6, H⟩
   replace H := ib_ H; rcases H with ⟨rfl, H⟩ | ⟨rfl, H⟩
   ·obtain rfl := Option.some.inj H
    have p358 : 0 ≤ (x8_1 : Int) := od_
    have q358 : x8_1 < (l0.length : Int) := od_
    obtain ⟨ad358, A358_1, c358_1, e358, hx358_0, hx358_1, hl358_1, hi358_1⟩ := at_T49 HR0.out x8_1 p358 q358
    cases e358
    replace hx358_0 := (HB.out.cell (World.block_lt_of_cell? _ _ hx358_0)).trans hx358_0
    replace hx358_1 := (HB.out.cell (World.block_lt_of_cell? _ _ hx358_1)).trans hx358_1
    have HR358_1 := am_ hi358_1
    have HC358_1 := am_ hl358_1
    clear hi358_1 hl358_1
    replace p358 := eq_true p358
    replace q358 := eq_true q358
    go_wp2_with (first | (go_at_call 113; (with_reducible refine (F113.calls k1 ((rd_T49 l0 x8_1).f0) _ _ ((rd_T49 l0 x8_1).f1) true _ ?s1 ?s2 A6.out).mono ?_); (case s1 => exact au2_11); (case s2 => exact HC358_1.out); rintro e w8 ⟨rfl, hb⟩; replace HB := hs_ w hb; (try clear hb)))
    go_ret
    exact ⟨au2_0, bl_⟩
   have H' := am_ H
   clear H
   have p358 : 0 ≤ (x8_1 : Int) := od_
   have q358 : x8_1 < (l0.length : Int) := od_
   obtain ⟨ad358, A358_1, c358_1, e358, hx358_0, hx358_1, hl358_1, hi358_1⟩ := at_T49 HR0.out x8_1 p358 q358
   cases e358
   replace hx358_0 := (HB.out.cell (World.block_lt_of_cell? _ _ hx358_0)).trans hx358_0
   replace hx358_1 := (HB.out.cell (World.block_lt_of_cell? _ _ hx358_1)).trans hx358_1
   have HR358_1 := am_ hi358_1
   have HC358_1 := am_ hl358_1
   clear hi358_1 hl358_1
   replace p358 := eq_true p358
   replace q358 := eq_true q358
   go_wp2_with (first | (go_at_call 113; (with_reducible refine (F113.calls k1 ((rd_T49 l0 x8_1).f0) _ _ ((rd_T49 l0 x8_1).f1) false _ ?s1 ?s2 A6.out).mono ?_); (case s1 => exact au2_11); (case s2 => exact HC358_1.out); rintro e w9 ⟨rfl, hb⟩; replace HB := hs_ w hb; (try clear hb)))
   go_roundg k1
   case measure => have := HK1.out; omega
   case rel => exact ⟨(wrap64 (x8_1 + 1)), er_, H', ⟨by have := HK1.out; omega⟩, ⟨bl_⟩⟩
/-! ### F112: function 112 -/
def F112.f (k : Nat) (l0 : List (S49))  : Option (Bool) := (F125.f k l0).bind fun t360 => (some (decide (t360 ≥ 0)))
theorem F112.mono : ∀ a0 k, LeO (F112.f k a0) (F112.f (k + 1) a0) := by
 intro a0 k
 unfold F112.f
 repeat' with_reducible first | exact F125.mono _ _ | exact LeO.refl _ | exact LeO.none _ | refine LeO.ite ?_ ?_ | refine LeO.bind ?_ (fun _ => ?_)
theorem F112.calls (k : Nat) (A0 : Option Addr) (c0 : Nat) (l0 : List (S49))  (r : Bool) (w : World) (hr0 : Kd.C k49 w A0 l0.length l0) (hc0 : l0.length ≤ c0) (h : F112.f k l0 = some r) :
  Calls Tryz.prog 112 #[.slice A0 l0.length c0, .func (.func 113) #[] #[]] w fun e w' => e = .returned (.bool r) ∧ Below w.heap.size w w' := by
 have HR0 := am_ hr0
 have HC0 := am_ hc0
 clear hr0 hc0
 have HB := am_ (Below.refl w.heap.size w)
 have H : ((F125.f k l0).bind fun t360 => (some (decide (t360 ≥ 0)))) = some r := h
 clear h
 replace H := bi_ H; rcases H with ⟨t360, A3, H⟩
 obtain rfl := Option.some.inj H
 go_enter Tryz.func112, Tryz.ntmps112
 go_wp2_with (first | ((with_reducible refine gate_callee (f := 125) rfl ?_); refine gl_ 7 Tryz.func125 #[.slice A0 l0.length c0, .func (.func 113) #[] #[]] ?_ rfl rfl rfl rfl; (with_reducible refine (F125.calls k _ _ l0  t360 _ ?s1 ?s2 A3.out).mono ?_); (case s1 => exact au2_4); (case s2 => exact HC0.out); rintro e w4 ⟨rfl, hb⟩; refine ⟨_, rfl, ?_⟩; replace HB := hs_ w hb; (try clear hb)))
 go_ret
 exact ⟨au2_0, bl_⟩

/-! ### F95: function 95 -/
def F95.f (k : Nat) (a0_0 : Int) (l0_1 : List (S49)) : Option (Bool) := (F55.f a0_0).bind fun t362 => (if t362 = true then (if (l0_1.length : Int) ≤ 40 then ((F112.f k l0_1).bind fun t363 => (some (!t363))) else (some false)) else (some false))
theorem F95.mono : ∀ a0 a1 k, LeO (F95.f k a0 a1) (F95.f (k + 1) a0 a1) := by
 intro a0 a1 k
 unfold F95.f
 repeat' with_reducible first | exact F112.mono _ _ | exact LeO.refl _ | exact LeO.none _ | refine LeO.ite ?_ ?_ | refine LeO.bind ?_ (fun _ => ?_)
theorem F95.calls (k : Nat) (a0_0 : Int) (A0_1 : Option Addr) (c0_1 : Nat) (l0_1 : List (S49)) (r : Bool) (w : World) (hr0_1 : Kd.C k49 w A0_1 l0_1.length l0_1) (hc0_1 : l0_1.length ≤ c0_1) (h : F95.f k a0_0 l0_1 = some r) :
  Calls Tryz.prog 95 #[.agg #[.int .i64 a0_0, .slice A0_1 l0_1.length c0_1]] w fun e w' => e = .returned (.bool r) ∧ Below w.heap.size w w' := by
 have hu56 := Tryz.underlying56
 have HR0_1 := am_ hr0_1
 have HC0_1 := am_ hc0_1
 clear hr0_1 hc0_1
 have HB := am_ (Below.refl w.heap.size w)
 have H : ((F55.f a0_0).bind fun t362 => (if t362 = true then (if (l0_1.length : Int) ≤ 40 then ((F112.f k l0_1).bind fun t363 => (some (!t363))) else (some false)) else (some false))) = some r := h
 clear h
 replace H := bi_ H; rcases H with ⟨t362, A2, H⟩
 replace H := ib_ H; rcases H with ⟨rfl, H⟩ | ⟨rfl, H⟩
 rotate_left
 ·obtain rfl := Option.some.inj H
  go_enter Tryz.func95, Tryz.ntmps95
  go_wp2_with (first | ((with_reducible refine gate_dst (N := 1) rfl ?_); (try (refine gate_guard (by rfl) ?_; dsimp only)); refine be_ 1 #[.int .i64 a0_0, .slice A0_1 l0_1.length c0_1] 56 ?_; intro gb361 hg w11 hbox hb; have BK361 := am_ (hbox); have GW361 := am_ (gw_ hg bl_); have GE361 := GW361; replace HB := hs_ w hb; clear hb hbox hg; obtain ⟨hcz12_0, hcz12_1, hfz12_0, hfz12_1⟩ := cellsF2 BK361.out) | ((with_reducible refine gate_callee (f := 55) rfl ?_); refine gl_ 5 Tryz.func55 #[.int .i64 a0_0] ?_ rfl rfl rfl rfl; (with_reducible refine (F55.calls a0_0 false _ A2.out).mono ?_); rintro e w' ⟨rfl, ⟨nd, rfl⟩⟩; refine ⟨_, rfl, ?_⟩))
  go_ret
  exact ⟨au2_0, bl_⟩

 replace H := it_ H; rcases H with ⟨c4b0, H⟩ | ⟨c4b0, H⟩
 rotate_left
 ·have c4b1 : decide (l0_1.length ≤ 40) = false := n2_ c4b0
  obtain rfl := Option.some.inj H
  go_enter Tryz.func95, Tryz.ntmps95
  go_wp2_with (first | ((with_reducible refine gate_dst (N := 1) rfl ?_); (try (refine gate_guard (by rfl) ?_; dsimp only)); refine be_ 1 #[.int .i64 a0_0, .slice A0_1 l0_1.length c0_1] 56 ?_; intro gb361 hg w9 hbox hb; have BK361 := am_ (hbox); have GW361 := am_ (gw_ hg bl_); have GE361 := GW361; replace HB := hs_ w hb; clear hb hbox hg; obtain ⟨hcz10_0, hcz10_1, hfz10_0, hfz10_1⟩ := cellsF2 BK361.out) | ((with_reducible refine gate_callee (f := 55) rfl ?_); refine gl_ 5 Tryz.func55 #[.int .i64 a0_0] ?_ rfl rfl rfl rfl; (with_reducible refine (F55.calls a0_0 true _ A2.out).mono ?_); rintro e w' ⟨rfl, ⟨nd, rfl⟩⟩; refine ⟨_, rfl, ?_⟩))
  go_ret
  exact ⟨au2_0, bl_⟩
 have c4b1 : decide (l0_1.length ≤ 40) = true := n2_ c4b0
 replace H := bi_ H; rcases H with ⟨t363, A5, H⟩
 obtain rfl := Option.some.inj H
 go_enter Tryz.func95, Tryz.ntmps95
 go_wp2_with (first | ((with_reducible refine gate_dst (N := 1) rfl ?_); (try (refine gate_guard (by rfl) ?_; dsimp only)); refine be_ 1 #[.int .i64 a0_0, .slice A0_1 l0_1.length c0_1] 56 ?_; intro gb361 hg w6 hbox hb; have BK361 := am_ (hbox); have GW361 := am_ (gw_ hg bl_); have GE361 := GW361; replace HB := hs_ w hb; clear hb hbox hg; obtain ⟨hcz7_0, hcz7_1, hfz7_0, hfz7_1⟩ := cellsF2 BK361.out) | ((with_reducible refine gate_callee (f := 55) rfl ?_); refine gl_ 5 Tryz.func55 #[.int .i64 a0_0] ?_ rfl rfl rfl rfl; (with_reducible refine (F55.calls a0_0 true _ A2.out).mono ?_); rintro e w' ⟨rfl, ⟨nd, rfl⟩⟩; refine ⟨_, rfl, ?_⟩) | (go_at_call 112; (with_reducible refine (F112.calls k _ _ l0_1  t363 _ ?s1 ?s2 A5.out).mono ?_); (case s1 => repeat (first | exact (Kd.C_below HR0_1.out bl_) | (with_reducible refine Kd.C_alloc ?_ _) | (with_reducible refine Kd.C_drewN ?_ _) | (with_reducible refine Kd.C_drew ?_))); (case s2 => exact HC0_1.out); rintro e w8 ⟨rfl, hb⟩; replace BK361 := bb_ BK361 hb; replace HB := hs_ w hb; (try clear hb)))
 go_ret
 exact ⟨au2_0, bl_⟩
/-! ### F94: function 94 -/
def F94.f (k : Nat) (a0_0 : Int) (l0_1 : List (S49)) : Option (Bool) := (F95.f k a0_0 l0_1).bind fun t365 => (some (!t365))
theorem F94.mono : ∀ a0 a1 k, LeO (F94.f k a0 a1) (F94.f (k + 1) a0 a1) := by
 intro a0 a1 k
 unfold F94.f
 repeat' with_reducible first | exact F95.mono _ _ _ | exact LeO.refl _ | exact LeO.none _ | refine LeO.ite ?_ ?_ | refine LeO.bind ?_ (fun _ => ?_)
theorem F94.calls (k : Nat) (a0_0 : Int) (A0_1 : Option Addr) (c0_1 : Nat) (l0_1 : List (S49)) (r : Bool) (w : World) (hr0_1 : Kd.C k49 w A0_1 l0_1.length l0_1) (hc0_1 : l0_1.length ≤ c0_1) (h : F94.f k a0_0 l0_1 = some r) :
  Calls Tryz.prog 94 #[.agg #[.int .i64 a0_0, .slice A0_1 l0_1.length c0_1]] w fun e w' => e = .returned (.bool r) ∧ Below w.heap.size w w' := by
 have hu56 := Tryz.underlying56
 have HR0_1 := am_ hr0_1
 have HC0_1 := am_ hc0_1
 clear hr0_1 hc0_1
 have HB := am_ (Below.refl w.heap.size w)
 have H : ((F95.f k a0_0 l0_1).bind fun t365 => (some (!t365))) = some r := h
 clear h
 replace H := bi_ H; rcases H with ⟨t365, A2, H⟩
 obtain rfl := Option.some.inj H
 go_enter Tryz.func94, Tryz.ntmps94
 go_wp2_with (first | ((with_reducible refine gate_dst (N := 1) rfl ?_); refine be_ 1 #[.int .i64 a0_0, .slice A0_1 l0_1.length c0_1] 56 ?_; intro gb364 hg w3 hbox hb; have BK364 := am_ (hbox); have GW364 := am_ (gw_ hg bl_); have GE364 := GW364; replace HB := hs_ w hb; clear hb hbox hg; obtain ⟨hcz4_0, hcz4_1, hfz4_0, hfz4_1⟩ := cellsF2 BK364.out) | ((with_reducible refine gate_callee (f := 95) rfl ?_); refine gl_ 4 Tryz.func95 #[.agg #[.int .i64 a0_0, .slice A0_1 l0_1.length c0_1]] ?_ rfl rfl rfl rfl; (with_reducible refine (F95.calls k a0_0 _ _ l0_1 t365 _ ?s1 ?s2 A2.out).mono ?_); (case s1 => exact au2_5); (case s2 => exact HC0_1.out); rintro e w5 ⟨rfl, hb⟩; refine ⟨_, rfl, ?_⟩; replace BK364 := bb_ BK364 hb; replace HB := hs_ w hb; (try clear hb)))
 go_ret
 exact ⟨au2_0, bl_⟩

/-! ### F111: function 111 -/
def F111.l0 : Nat → List (S56) → Int → Int → Option (Int)
  | 0, _, _, _ => none
  | k + 1, x0, x7, x8 => if x8 < x7 then (if 0 ≤ x8 then (if x8 < (x0.length : Int) then ((F94.f k ((rd_T56 x0 x8).f0) ((rd_T56 x0 x8).f1)).bind fun t367 => (if t367 = true then (some x8) else (F111.l0 k x0 x7 (wrap64 (x8 + 1))))) else (none)) else (none)) else (some (-1))
def F111.f (k : Nat) (l0 : List (S56))  : Option (Int) := F111.l0 k l0 (l0.length : Int) 0
theorem F111.mono_l : ∀ k, (∀ y0 y1 y2, LeO (F111.l0 k y0 y1 y2) (F111.l0 (k + 1) y0 y1 y2))
 | 0 => fun _ _ _ r h => by simp [F111.l0] at h
 | k + 1 => by
  have ih0 := F111.mono_l k
  intro y0 y1 y2
  unfold F111.l0
  repeat' with_reducible first | exact ih0 _ _ _ | exact F94.mono _ _ _ | exact LeO.refl _ | exact LeO.none _ | refine LeO.ite ?_ ?_ | refine LeO.bind ?_ (fun _ => ?_)
theorem F111.mono : ∀ a0 k, LeO (F111.f k a0) (F111.f (k + 1) a0) := by
 intro a0 k
 have ih0 := F111.mono_l k
 unfold F111.f
 repeat' with_reducible first | exact ih0 _ _ _ | exact F94.mono _ _ _ | exact LeO.refl _ | exact LeO.none _ | refine LeO.ite ?_ ?_ | refine LeO.bind ?_ (fun _ => ?_)
theorem F111.calls (k : Nat) (A0 : Option Addr) (c0 : Nat) (l0 : List (S56))  (r : Int) (w : World) (hr0 : Kd.C k56 w A0 l0.length l0) (hc0 : l0.length ≤ c0) (h : F111.f k l0 = some r) :
  Calls Tryz.prog 111 #[.slice A0 l0.length c0, .func (.func 94) #[] #[]] w fun e w' => e = .returned (.int .i64 r) ∧ Below w.heap.size w w' := by
 have hu56 := Tryz.underlying56
 have HR0 := am_ hr0
 have HC0 := am_ hc0
 clear hr0 hc0
 have HB := am_ (Below.refl w.heap.size w)
 have H : (F111.l0 k l0 (l0.length : Int) 0) = some r := h
 clear h
 have H' := am_ H
 clear H
 go_enter Tryz.func111, Tryz.ntmps111
 go_wp2
 go_loopg [8] k (fun kq v8 w' => ∃ (x8_1 : Int), v8 = .int .i64 x8_1 ∧ Aside0 (F111.l0 kq l0 (l0.length : Int) x8_1 = some r) ∧ Aside0 (kq ≤ k) ∧ Aside0 (Below w.heap.size w w'))
 case atStart => exact ⟨(0), er_, H', ⟨Nat.le_refl _⟩, ⟨bl_⟩⟩
 case round =>
  clear H'
  obtain ⟨x8_1, rfl, HA, HK1, HB⟩ := hrel
  cases gk with
  | zero => exact absurd HA.out (by simp [F111.l0])
  | succ k1 =>
   have H := HA.out
   clear HA
   simp only [F111.l0] at H
   replace H := it_ H; rcases H with ⟨c3b0, H⟩ | ⟨c3b0, H⟩
   rotate_left
   ·obtain rfl := Option.some.inj H
    go_wp2
    go_ret
    exact ⟨au2_0, bl_⟩

   replace H := itn_ H; rcases H with ⟨c4b0, H⟩
   replace H := itn_ H; rcases H with ⟨c5b0, H⟩
   replace H := bi_ H; rcases H with ⟨t367, A6, H⟩
   replace H := ib_ H; rcases H with ⟨rfl, H⟩ | ⟨rfl, H⟩
   ·obtain rfl := Option.some.inj H
    have p366 : 0 ≤ (x8_1 : Int) := od_
    have q366 : x8_1 < (l0.length : Int) := od_
    obtain ⟨ad366, A366_1, c366_1, e366, hx366_0, hx366_1, hl366_1, hi366_1⟩ := at_T56 HR0.out x8_1 p366 q366
    cases e366
    replace hx366_0 := (HB.out.cell (World.block_lt_of_cell? _ _ hx366_0)).trans hx366_0
    replace hx366_1 := (HB.out.cell (World.block_lt_of_cell? _ _ hx366_1)).trans hx366_1
    have HR366_1 := am_ hi366_1
    have HC366_1 := am_ hl366_1
    clear hi366_1 hl366_1
    replace p366 := eq_true p366
    replace q366 := eq_true q366
    go_wp2_with (first | (go_at_call 94; (with_reducible refine (F94.calls k1 ((rd_T56 l0 x8_1).f0) _ _ ((rd_T56 l0 x8_1).f1) true _ ?s1 ?s2 A6.out).mono ?_); (case s1 => exact au2_12); (case s2 => exact HC366_1.out); rintro e w8 ⟨rfl, hb⟩; replace HB := hs_ w hb; (try clear hb)))
    go_ret
    exact ⟨au2_0, bl_⟩
   have H' := am_ H
   clear H
   have p366 : 0 ≤ (x8_1 : Int) := od_
   have q366 : x8_1 < (l0.length : Int) := od_
   obtain ⟨ad366, A366_1, c366_1, e366, hx366_0, hx366_1, hl366_1, hi366_1⟩ := at_T56 HR0.out x8_1 p366 q366
   cases e366
   replace hx366_0 := (HB.out.cell (World.block_lt_of_cell? _ _ hx366_0)).trans hx366_0
   replace hx366_1 := (HB.out.cell (World.block_lt_of_cell? _ _ hx366_1)).trans hx366_1
   have HR366_1 := am_ hi366_1
   have HC366_1 := am_ hl366_1
   clear hi366_1 hl366_1
   replace p366 := eq_true p366
   replace q366 := eq_true q366
   go_wp2_with (first | (go_at_call 94; (with_reducible refine (F94.calls k1 ((rd_T56 l0 x8_1).f0) _ _ ((rd_T56 l0 x8_1).f1) false _ ?s1 ?s2 A6.out).mono ?_); (case s1 => exact au2_12); (case s2 => exact HC366_1.out); rintro e w9 ⟨rfl, hb⟩; replace HB := hs_ w hb; (try clear hb)))
   go_roundg k1
   case measure => have := HK1.out; omega
   case rel => exact ⟨(wrap64 (x8_1 + 1)), er_, H', ⟨by have := HK1.out; omega⟩, ⟨bl_⟩⟩
/-! ### F93: function 93 -/
def F93.f (k : Nat) (l0 : List (S56))  : Option (Bool) := (F111.f k l0).bind fun t368 => (some (decide (t368 ≥ 0)))
theorem F93.mono : ∀ a0 k, LeO (F93.f k a0) (F93.f (k + 1) a0) := by
 intro a0 k
 unfold F93.f
 repeat' with_reducible first | exact F111.mono _ _ | exact LeO.refl _ | exact LeO.none _ | refine LeO.ite ?_ ?_ | refine LeO.bind ?_ (fun _ => ?_)
theorem F93.calls (k : Nat) (A0 : Option Addr) (c0 : Nat) (l0 : List (S56))  (r : Bool) (w : World) (hr0 : Kd.C k56 w A0 l0.length l0) (hc0 : l0.length ≤ c0) (h : F93.f k l0 = some r) :
  Calls Tryz.prog 93 #[.slice A0 l0.length c0, .func (.func 94) #[] #[]] w fun e w' => e = .returned (.bool r) ∧ Below w.heap.size w w' := by
 have HR0 := am_ hr0
 have HC0 := am_ hc0
 clear hr0 hc0
 have HB := am_ (Below.refl w.heap.size w)
 have H : ((F111.f k l0).bind fun t368 => (some (decide (t368 ≥ 0)))) = some r := h
 clear h
 replace H := bi_ H; rcases H with ⟨t368, A3, H⟩
 obtain rfl := Option.some.inj H
 go_enter Tryz.func93, Tryz.ntmps93
 go_wp2_with (first | ((with_reducible refine gate_callee (f := 111) rfl ?_); refine gl_ 7 Tryz.func111 #[.slice A0 l0.length c0, .func (.func 94) #[] #[]] ?_ rfl rfl rfl rfl; (with_reducible refine (F111.calls k _ _ l0  t368 _ ?s1 ?s2 A3.out).mono ?_); (case s1 => exact au2_4); (case s2 => exact HC0.out); rintro e w4 ⟨rfl, hb⟩; refine ⟨_, rfl, ?_⟩; replace HB := hs_ w hb; (try clear hb)))
 go_ret
 exact ⟨au2_0, bl_⟩

/-! ### F59: function 59 -/
def F59.f (k : Nat) (a0_0 : Int) (a0_1 : Int) (l0_2 : List (S56)) : Option (Bool) := (F56.f a0_0 1 7).bind fun t370 => (if t370 = true then ((F55.f a0_1).bind fun t371 => (if t371 = true then ((F56.f (l0_2.length : Int) 1 10).bind fun t372 => (if t372 = true then ((F93.f k l0_2).bind fun t373 => (some (!t373))) else (some false))) else (some false))) else (some false))
theorem F59.mono : ∀ a0 a1 a2 k, LeO (F59.f k a0 a1 a2) (F59.f (k + 1) a0 a1 a2) := by
 intro a0 a1 a2 k
 unfold F59.f
 repeat' with_reducible first | exact F93.mono _ _ | exact LeO.refl _ | exact LeO.none _ | refine LeO.ite ?_ ?_ | refine LeO.bind ?_ (fun _ => ?_)
theorem F59.calls (k : Nat) (a0_0 : Int) (a0_1 : Int) (A0_2 : Option Addr) (c0_2 : Nat) (l0_2 : List (S56)) (r : Bool) (w : World) (hr0_2 : Kd.C k56 w A0_2 l0_2.length l0_2) (hc0_2 : l0_2.length ≤ c0_2) (h : F59.f k a0_0 a0_1 l0_2 = some r) :
  Calls Tryz.prog 59 #[.agg #[.int .i64 a0_0, .int .i64 a0_1, .slice A0_2 l0_2.length c0_2]] w fun e w' => e = .returned (.bool r) ∧ Below w.heap.size w w' := by
 have hu53 := Tryz.underlying53
 have HR0_2 := am_ hr0_2
 have HC0_2 := am_ hc0_2
 clear hr0_2 hc0_2
 have HB := am_ (Below.refl w.heap.size w)
 have H : ((F56.f a0_0 1 7).bind fun t370 => (if t370 = true then ((F55.f a0_1).bind fun t371 => (if t371 = true then ((F56.f (l0_2.length : Int) 1 10).bind fun t372 => (if t372 = true then ((F93.f k l0_2).bind fun t373 => (some (!t373))) else (some false))) else (some false))) else (some false))) = some r := h
 clear h
 replace H := bi_ H; rcases H with ⟨t370, A2, H⟩
 replace H := ib_ H; rcases H with ⟨rfl, H⟩ | ⟨rfl, H⟩
 rotate_left
 ·obtain rfl := Option.some.inj H
  go_enter Tryz.func59, Tryz.ntmps59
  go_wp2_with (first | ((with_reducible refine gate_dst (N := 1) rfl ?_); (try (refine gate_guard (by rfl) ?_; dsimp only)); refine be_ 1 #[.int .i64 a0_0, .int .i64 a0_1, .slice A0_2 l0_2.length c0_2] 53 ?_; intro gb369 hg w16 hbox hb; have BK369 := am_ (hbox); have GW369 := am_ (gw_ hg bl_); have GE369 := GW369; replace HB := hs_ w hb; clear hb hbox hg; obtain ⟨hcz17_0, hcz17_1, hcz17_2, hfz17_0, hfz17_1, hfz17_2⟩ := cellsF3 BK369.out) | ((with_reducible refine gate_callee (f := 56) rfl ?_); refine gl_ 5 Tryz.func56 #[.int .i64 a0_0, .int .i64 1, .int .i64 7] ?_ rfl rfl rfl rfl; (with_reducible refine (F56.calls a0_0 1 7 false _ A2.out).mono ?_); rintro e w' ⟨rfl, ⟨nd, rfl⟩⟩; refine ⟨_, rfl, ?_⟩))
  go_ret
  exact ⟨au2_0, bl_⟩

 replace H := bi_ H; rcases H with ⟨t371, A4, H⟩
 replace H := ib_ H; rcases H with ⟨rfl, H⟩ | ⟨rfl, H⟩
 rotate_left
 ·obtain rfl := Option.some.inj H
  go_enter Tryz.func59, Tryz.ntmps59
  go_wp2_with (first | ((with_reducible refine gate_dst (N := 1) rfl ?_); (try (refine gate_guard (by rfl) ?_; dsimp only)); refine be_ 1 #[.int .i64 a0_0, .int .i64 a0_1, .slice A0_2 l0_2.length c0_2] 53 ?_; intro gb369 hg w14 hbox hb; have BK369 := am_ (hbox); have GW369 := am_ (gw_ hg bl_); have GE369 := GW369; replace HB := hs_ w hb; clear hb hbox hg; obtain ⟨hcz15_0, hcz15_1, hcz15_2, hfz15_0, hfz15_1, hfz15_2⟩ := cellsF3 BK369.out) | ((with_reducible refine gate_callee (f := 56) rfl ?_); refine gl_ 5 Tryz.func56 #[.int .i64 a0_0, .int .i64 1, .int .i64 7] ?_ rfl rfl rfl rfl; (with_reducible refine (F56.calls a0_0 1 7 true _ A2.out).mono ?_); rintro e w' ⟨rfl, ⟨nd, rfl⟩⟩; refine ⟨_, rfl, ?_⟩) | (go_at_call 55; (with_reducible refine (F55.calls a0_1 false _ A4.out).mono ?_); rintro e w' ⟨rfl, ⟨nd, rfl⟩⟩))
  go_ret
  exact ⟨au2_0, bl_⟩
 replace H := bi_ H; rcases H with ⟨t372, A6, H⟩
 replace H := ib_ H; rcases H with ⟨rfl, H⟩ | ⟨rfl, H⟩
 rotate_left
 ·obtain rfl := Option.some.inj H
  go_enter Tryz.func59, Tryz.ntmps59
  go_wp2_with (first | ((with_reducible refine gate_dst (N := 1) rfl ?_); (try (refine gate_guard (by rfl) ?_; dsimp only)); refine be_ 1 #[.int .i64 a0_0, .int .i64 a0_1, .slice A0_2 l0_2.length c0_2] 53 ?_; intro gb369 hg w12 hbox hb; have BK369 := am_ (hbox); have GW369 := am_ (gw_ hg bl_); have GE369 := GW369; replace HB := hs_ w hb; clear hb hbox hg; obtain ⟨hcz13_0, hcz13_1, hcz13_2, hfz13_0, hfz13_1, hfz13_2⟩ := cellsF3 BK369.out) | ((with_reducible refine gate_callee (f := 56) rfl ?_); refine gl_ 5 Tryz.func56 #[.int .i64 a0_0, .int .i64 1, .int .i64 7] ?_ rfl rfl rfl rfl; (with_reducible refine (F56.calls a0_0 1 7 true _ A2.out).mono ?_); rintro e w' ⟨rfl, ⟨nd, rfl⟩⟩; refine ⟨_, rfl, ?_⟩) | (go_at_call 55; (with_reducible refine (F55.calls a0_1 true _ A4.out).mono ?_); rintro e w' ⟨rfl, ⟨nd, rfl⟩⟩) | (go_at_call 56; (with_reducible refine (F56.calls (l0_2.length : Int) 1 10 false _ A6.out).mono ?_); rintro e w' ⟨rfl, ⟨nd, rfl⟩⟩))
  go_ret
  exact ⟨au2_0, bl_⟩
 replace H := bi_ H; rcases H with ⟨t373, A8, H⟩
 obtain rfl := Option.some.inj H
 go_enter Tryz.func59, Tryz.ntmps59
 go_wp2_with (first | ((with_reducible refine gate_dst (N := 1) rfl ?_); (try (refine gate_guard (by rfl) ?_; dsimp only)); refine be_ 1 #[.int .i64 a0_0, .int .i64 a0_1, .slice A0_2 l0_2.length c0_2] 53 ?_; intro gb369 hg w9 hbox hb; have BK369 := am_ (hbox); have GW369 := am_ (gw_ hg bl_); have GE369 := GW369; replace HB := hs_ w hb; clear hb hbox hg; obtain ⟨hcz10_0, hcz10_1, hcz10_2, hfz10_0, hfz10_1, hfz10_2⟩ := cellsF3 BK369.out) | ((with_reducible refine gate_callee (f := 56) rfl ?_); refine gl_ 5 Tryz.func56 #[.int .i64 a0_0, .int .i64 1, .int .i64 7] ?_ rfl rfl rfl rfl; (with_reducible refine (F56.calls a0_0 1 7 true _ A2.out).mono ?_); rintro e w' ⟨rfl, ⟨nd, rfl⟩⟩; refine ⟨_, rfl, ?_⟩) | (go_at_call 55; (with_reducible refine (F55.calls a0_1 true _ A4.out).mono ?_); rintro e w' ⟨rfl, ⟨nd, rfl⟩⟩) | (go_at_call 56; (with_reducible refine (F56.calls (l0_2.length : Int) 1 10 true _ A6.out).mono ?_); rintro e w' ⟨rfl, ⟨nd, rfl⟩⟩) | (go_at_call 93; (with_reducible refine (F93.calls k _ _ l0_2  t373 _ ?s1 ?s2 A8.out).mono ?_); (case s1 => repeat (first | exact (Kd.C_below HR0_2.out bl_) | (with_reducible refine Kd.C_alloc ?_ _) | (with_reducible refine Kd.C_drewN ?_ _) | (with_reducible refine Kd.C_drew ?_))); (case s2 => exact HC0_2.out); rintro e w11 ⟨rfl, hb⟩; replace BK369 := bb_ BK369 hb; replace HB := hs_ w hb; (try clear hb)))
 go_ret
 exact ⟨au2_0, bl_⟩
/-! ### F58: function 58 -/
def F58.f (k : Nat) (a0_0 : Int) (a0_1 : Int) (l0_2 : List (S56)) : Option (Bool) := (F59.f k a0_0 a0_1 l0_2).bind fun t375 => (some (!t375))
theorem F58.mono : ∀ a0 a1 a2 k, LeO (F58.f k a0 a1 a2) (F58.f (k + 1) a0 a1 a2) := by
 intro a0 a1 a2 k
 unfold F58.f
 repeat' with_reducible first | exact F59.mono _ _ _ _ | exact LeO.refl _ | exact LeO.none _ | refine LeO.ite ?_ ?_ | refine LeO.bind ?_ (fun _ => ?_)
theorem F58.calls (k : Nat) (a0_0 : Int) (a0_1 : Int) (A0_2 : Option Addr) (c0_2 : Nat) (l0_2 : List (S56)) (r : Bool) (w : World) (hr0_2 : Kd.C k56 w A0_2 l0_2.length l0_2) (hc0_2 : l0_2.length ≤ c0_2) (h : F58.f k a0_0 a0_1 l0_2 = some r) :
  Calls Tryz.prog 58 #[.agg #[.int .i64 a0_0, .int .i64 a0_1, .slice A0_2 l0_2.length c0_2]] w fun e w' => e = .returned (.bool r) ∧ Below w.heap.size w w' := by
 have hu53 := Tryz.underlying53
 have HR0_2 := am_ hr0_2
 have HC0_2 := am_ hc0_2
 clear hr0_2 hc0_2
 have HB := am_ (Below.refl w.heap.size w)
 have H : ((F59.f k a0_0 a0_1 l0_2).bind fun t375 => (some (!t375))) = some r := h
 clear h
 replace H := bi_ H; rcases H with ⟨t375, A2, H⟩
 obtain rfl := Option.some.inj H
 go_enter Tryz.func58, Tryz.ntmps58
 go_wp2_with (first | ((with_reducible refine gate_dst (N := 1) rfl ?_); refine be_ 1 #[.int .i64 a0_0, .int .i64 a0_1, .slice A0_2 l0_2.length c0_2] 53 ?_; intro gb374 hg w3 hbox hb; have BK374 := am_ (hbox); have GW374 := am_ (gw_ hg bl_); have GE374 := GW374; replace HB := hs_ w hb; clear hb hbox hg; obtain ⟨hcz4_0, hcz4_1, hcz4_2, hfz4_0, hfz4_1, hfz4_2⟩ := cellsF3 BK374.out) | ((with_reducible refine gate_callee (f := 59) rfl ?_); refine gl_ 4 Tryz.func59 #[.agg #[.int .i64 a0_0, .int .i64 a0_1, .slice A0_2 l0_2.length c0_2]] ?_ rfl rfl rfl rfl; (with_reducible refine (F59.calls k a0_0 a0_1 _ _ l0_2 t375 _ ?s1 ?s2 A2.out).mono ?_); (case s1 => repeat (first | exact (Kd.C_below HR0_2.out HB.out) | (with_reducible refine Kd.C_alloc ?_ _) | (with_reducible refine Kd.C_drewN ?_ _) | (with_reducible refine Kd.C_drew ?_))); (case s2 => exact HC0_2.out); rintro e w5 ⟨rfl, hb⟩; refine ⟨_, rfl, ?_⟩; replace BK374 := bb_ BK374 hb; replace HB := hs_ w hb; (try clear hb)))
 go_ret
 exact ⟨au2_0, bl_⟩

/-! ### F92: function 92 -/
def F92.l0 : Nat → List (S53) → Int → Int → Option (Int)
  | 0, _, _, _ => none
  | k + 1, x0, x7, x8 => if x8 < x7 then (if 0 ≤ x8 then (if x8 < (x0.length : Int) then ((F58.f k ((rd_T53 x0 x8).f0) ((rd_T53 x0 x8).f1) ((rd_T53 x0 x8).f2)).bind fun t377 => (if t377 = true then (some x8) else (F92.l0 k x0 x7 (wrap64 (x8 + 1))))) else (none)) else (none)) else (some (-1))
def F92.f (k : Nat) (l0 : List (S53))  : Option (Int) := F92.l0 k l0 (l0.length : Int) 0
theorem F92.mono_l : ∀ k, (∀ y0 y1 y2, LeO (F92.l0 k y0 y1 y2) (F92.l0 (k + 1) y0 y1 y2))
 | 0 => fun _ _ _ r h => by simp [F92.l0] at h
 | k + 1 => by
  have ih0 := F92.mono_l k
  intro y0 y1 y2
  unfold F92.l0
  repeat' with_reducible first | exact ih0 _ _ _ | exact F58.mono _ _ _ _ | exact LeO.refl _ | exact LeO.none _ | refine LeO.ite ?_ ?_ | refine LeO.bind ?_ (fun _ => ?_)
theorem F92.mono : ∀ a0 k, LeO (F92.f k a0) (F92.f (k + 1) a0) := by
 intro a0 k
 have ih0 := F92.mono_l k
 unfold F92.f
 repeat' with_reducible first | exact ih0 _ _ _ | exact F58.mono _ _ _ _ | exact LeO.refl _ | exact LeO.none _ | refine LeO.ite ?_ ?_ | refine LeO.bind ?_ (fun _ => ?_)
theorem F92.calls (k : Nat) (A0 : Option Addr) (c0 : Nat) (l0 : List (S53))  (r : Int) (w : World) (hr0 : Kd.C k53 w A0 l0.length l0) (hc0 : l0.length ≤ c0) (h : F92.f k l0 = some r) :
  Calls Tryz.prog 92 #[.slice A0 l0.length c0, .func (.func 58) #[] #[]] w fun e w' => e = .returned (.int .i64 r) ∧ Below w.heap.size w w' := by
 have hu53 := Tryz.underlying53
 have HR0 := am_ hr0
 have HC0 := am_ hc0
 clear hr0 hc0
 have HB := am_ (Below.refl w.heap.size w)
 have H : (F92.l0 k l0 (l0.length : Int) 0) = some r := h
 clear h
 have H' := am_ H
 clear H
 go_enter Tryz.func92, Tryz.ntmps92
 go_wp2
 go_loopg [8] k (fun kq v8 w' => ∃ (x8_1 : Int), v8 = .int .i64 x8_1 ∧ Aside0 (F92.l0 kq l0 (l0.length : Int) x8_1 = some r) ∧ Aside0 (kq ≤ k) ∧ Aside0 (Below w.heap.size w w'))
 case atStart => exact ⟨(0), er_, H', ⟨Nat.le_refl _⟩, ⟨bl_⟩⟩
 case round =>
  clear H'
  obtain ⟨x8_1, rfl, HA, HK1, HB⟩ := hrel
  cases gk with
  | zero => exact absurd HA.out (by simp [F92.l0])
  | succ k1 =>
   have H := HA.out
   clear HA
   simp only [F92.l0] at H
   replace H := it_ H; rcases H with ⟨c3b0, H⟩ | ⟨c3b0, H⟩
   rotate_left
   ·obtain rfl := Option.some.inj H
    go_wp2
    go_ret
    exact ⟨au2_0, bl_⟩

   replace H := itn_ H; rcases H with ⟨c4b0, H⟩
   replace H := itn_ H; rcases H with ⟨c5b0, H⟩
   replace H := bi_ H; rcases H with ⟨t377, A6, H⟩
   replace H := ib_ H; rcases H with ⟨rfl, H⟩ | ⟨rfl, H⟩
   ·obtain rfl := Option.some.inj H
    have p376 : 0 ≤ (x8_1 : Int) := od_
    have q376 : x8_1 < (l0.length : Int) := od_
    obtain ⟨ad376, A376_2, c376_2, e376, hx376_0, hx376_1, hx376_2, hl376_2, hi376_2⟩ := at_T53 HR0.out x8_1 p376 q376
    cases e376
    replace hx376_0 := (HB.out.cell (World.block_lt_of_cell? _ _ hx376_0)).trans hx376_0
    replace hx376_1 := (HB.out.cell (World.block_lt_of_cell? _ _ hx376_1)).trans hx376_1
    replace hx376_2 := (HB.out.cell (World.block_lt_of_cell? _ _ hx376_2)).trans hx376_2
    have HR376_2 := am_ hi376_2
    have HC376_2 := am_ hl376_2
    clear hi376_2 hl376_2
    replace p376 := eq_true p376
    replace q376 := eq_true q376
    go_wp2_with (first | (go_at_call 58; (with_reducible refine (F58.calls k1 ((rd_T53 l0 x8_1).f0) ((rd_T53 l0 x8_1).f1) _ _ ((rd_T53 l0 x8_1).f2) true _ ?s1 ?s2 A6.out).mono ?_); (case s1 => exact au2_13); (case s2 => exact HC376_2.out); rintro e w8 ⟨rfl, hb⟩; replace HB := hs_ w hb; (try clear hb)))
    go_ret
    exact ⟨au2_0, bl_⟩
   have H' := am_ H
   clear H
   have p376 : 0 ≤ (x8_1 : Int) := od_
   have q376 : x8_1 < (l0.length : Int) := od_
   obtain ⟨ad376, A376_2, c376_2, e376, hx376_0, hx376_1, hx376_2, hl376_2, hi376_2⟩ := at_T53 HR0.out x8_1 p376 q376
   cases e376
   replace hx376_0 := (HB.out.cell (World.block_lt_of_cell? _ _ hx376_0)).trans hx376_0
   replace hx376_1 := (HB.out.cell (World.block_lt_of_cell? _ _ hx376_1)).trans hx376_1
   replace hx376_2 := (HB.out.cell (World.block_lt_of_cell? _ _ hx376_2)).trans hx376_2
   have HR376_2 := am_ hi376_2
   have HC376_2 := am_ hl376_2
   clear hi376_2 hl376_2
   replace p376 := eq_true p376
   replace q376 := eq_true q376
   go_wp2_with (first | (go_at_call 58; (with_reducible refine (F58.calls k1 ((rd_T53 l0 x8_1).f0) ((rd_T53 l0 x8_1).f1) _ _ ((rd_T53 l0 x8_1).f2) false _ ?s1 ?s2 A6.out).mono ?_); (case s1 => exact au2_13); (case s2 => exact HC376_2.out); rintro e w9 ⟨rfl, hb⟩; replace HB := hs_ w hb; (try clear hb)))
   go_roundg k1
   case measure => have := HK1.out; omega
   case rel => exact ⟨(wrap64 (x8_1 + 1)), er_, H', ⟨by have := HK1.out; omega⟩, ⟨bl_⟩⟩
/-! ### F57: function 57 -/
def F57.f (k : Nat) (l0 : List (S53))  : Option (Bool) := (F92.f k l0).bind fun t378 => (some (decide (t378 ≥ 0)))
theorem F57.mono : ∀ a0 k, LeO (F57.f k a0) (F57.f (k + 1) a0) := by
 intro a0 k
 unfold F57.f
 repeat' with_reducible first | exact F92.mono _ _ | exact LeO.refl _ | exact LeO.none _ | refine LeO.ite ?_ ?_ | refine LeO.bind ?_ (fun _ => ?_)
theorem F57.calls (k : Nat) (A0 : Option Addr) (c0 : Nat) (l0 : List (S53))  (r : Bool) (w : World) (hr0 : Kd.C k53 w A0 l0.length l0) (hc0 : l0.length ≤ c0) (h : F57.f k l0 = some r) :
  Calls Tryz.prog 57 #[.slice A0 l0.length c0, .func (.func 58) #[] #[]] w fun e w' => e = .returned (.bool r) ∧ Below w.heap.size w w' := by
 have HR0 := am_ hr0
 have HC0 := am_ hc0
 clear hr0 hc0
 have HB := am_ (Below.refl w.heap.size w)
 have H : ((F92.f k l0).bind fun t378 => (some (decide (t378 ≥ 0)))) = some r := h
 clear h
 replace H := bi_ H; rcases H with ⟨t378, A3, H⟩
 obtain rfl := Option.some.inj H
 go_enter Tryz.func57, Tryz.ntmps57
 go_wp2_with (first | ((with_reducible refine gate_callee (f := 92) rfl ?_); refine gl_ 7 Tryz.func92 #[.slice A0 l0.length c0, .func (.func 58) #[] #[]] ?_ rfl rfl rfl rfl; (with_reducible refine (F92.calls k _ _ l0  t378 _ ?s1 ?s2 A3.out).mono ?_); (case s1 => exact au2_4); (case s2 => exact HC0.out); rintro e w4 ⟨rfl, hb⟩; refine ⟨_, rfl, ?_⟩; replace HB := hs_ w hb; (try clear hb)))
 go_ret
 exact ⟨au2_0, bl_⟩

/-! ### F29: function 29 -/
def F29.f (k : Nat) (a0_0 : ByteArray) (a0_1 : ByteArray) (a0_2 : Int) (l0_3 : List (S53)) : Option (Bool) := (F54.f k a0_0).bind fun t380 => (if t380 = true then ((F54.f k a0_1).bind fun t381 => (if t381 = true then ((F55.f a0_2).bind fun t382 => (if t382 = true then ((F56.f (l0_3.length : Int) 1 5).bind fun t383 => (if t383 = true then ((F57.f k l0_3).bind fun t384 => (some (!t384))) else (some false))) else (some false))) else (some false))) else (some false))
theorem F29.mono : ∀ a0 a1 a2 a3 k, LeO (F29.f k a0 a1 a2 a3) (F29.f (k + 1) a0 a1 a2 a3) := by
 intro a0 a1 a2 a3 k
 unfold F29.f
 repeat' with_reducible first | exact F57.mono _ _ | exact F54.mono _ _ | exact LeO.refl _ | exact LeO.none _ | refine LeO.ite ?_ ?_ | refine LeO.bind ?_ (fun _ => ?_)
theorem F29.calls (k : Nat) (a0_0 : ByteArray) (a0_1 : ByteArray) (a0_2 : Int) (A0_3 : Option Addr) (c0_3 : Nat) (l0_3 : List (S53)) (r : Bool) (w : World) (hr0_3 : Kd.C k53 w A0_3 l0_3.length l0_3) (hc0_3 : l0_3.length ≤ c0_3) (h : F29.f k a0_0 a0_1 a0_2 l0_3 = some r) :
  Calls Tryz.prog 29 #[.agg #[.string a0_0, .string a0_1, .int .i64 a0_2, .slice A0_3 l0_3.length c0_3]] w fun e w' => e = .returned (.bool r) ∧ Below w.heap.size w w' := by
 have hu30 := Tryz.underlying30
 have HR0_3 := am_ hr0_3
 have HC0_3 := am_ hc0_3
 clear hr0_3 hc0_3
 have HB := am_ (Below.refl w.heap.size w)
 have H : ((F54.f k a0_0).bind fun t380 => (if t380 = true then ((F54.f k a0_1).bind fun t381 => (if t381 = true then ((F55.f a0_2).bind fun t382 => (if t382 = true then ((F56.f (l0_3.length : Int) 1 5).bind fun t383 => (if t383 = true then ((F57.f k l0_3).bind fun t384 => (some (!t384))) else (some false))) else (some false))) else (some false))) else (some false))) = some r := h
 clear h
 replace H := bi_ H; rcases H with ⟨t380, A2, H⟩
 replace H := ib_ H; rcases H with ⟨rfl, H⟩ | ⟨rfl, H⟩
 rotate_left
 ·obtain rfl := Option.some.inj H
  go_enter Tryz.func29, Tryz.ntmps29
  go_wp2_with (first | ((with_reducible refine gate_dst (N := 1) rfl ?_); (try (refine gate_guard (by rfl) ?_; dsimp only)); refine be_ 1 #[.string a0_0, .string a0_1, .int .i64 a0_2, .slice A0_3 l0_3.length c0_3] 30 ?_; intro gb379 hg w20 hbox hb; have BK379 := am_ (hbox); have GW379 := am_ (gw_ hg bl_); have GE379 := GW379; replace HB := hs_ w hb; clear hb hbox hg; obtain ⟨hcz21_0, hcz21_1, hcz21_2, hcz21_3, hfz21_0, hfz21_1, hfz21_2, hfz21_3⟩ := cellsF4 BK379.out) | ((with_reducible refine gate_callee (f := 54) rfl ?_); refine gl_ 5 Tryz.func54 #[.string a0_0] ?_ rfl rfl rfl rfl; (with_reducible refine (F54.calls k a0_0 false _ A2.out).mono ?_); rintro e w' ⟨rfl, ⟨nd, rfl⟩⟩; refine ⟨_, rfl, ?_⟩))
  go_ret
  exact ⟨au2_0, bl_⟩
 replace H := bi_ H; rcases H with ⟨t381, A4, H⟩
 replace H := ib_ H; rcases H with ⟨rfl, H⟩ | ⟨rfl, H⟩
 rotate_left
 ·obtain rfl := Option.some.inj H
  go_enter Tryz.func29, Tryz.ntmps29
  go_wp2_with (first | ((with_reducible refine gate_dst (N := 1) rfl ?_); (try (refine gate_guard (by rfl) ?_; dsimp only)); refine be_ 1 #[.string a0_0, .string a0_1, .int .i64 a0_2, .slice A0_3 l0_3.length c0_3] 30 ?_; intro gb379 hg w18 hbox hb; have BK379 := am_ (hbox); have GW379 := am_ (gw_ hg bl_); have GE379 := GW379; replace HB := hs_ w hb; clear hb hbox hg; obtain ⟨hcz19_0, hcz19_1, hcz19_2, hcz19_3, hfz19_0, hfz19_1, hfz19_2, hfz19_3⟩ := cellsF4 BK379.out) | ((with_reducible refine gate_callee (f := 54) rfl ?_); refine gl_ 5 Tryz.func54 #[.string a0_0] ?_ rfl rfl rfl rfl; (with_reducible refine (F54.calls k a0_0 true _ A2.out).mono ?_); rintro e w' ⟨rfl, ⟨nd, rfl⟩⟩; refine ⟨_, rfl, ?_⟩) | (go_at_call 54; (with_reducible refine (F54.calls k a0_1 false _ A4.out).mono ?_); rintro e w' ⟨rfl, ⟨nd, rfl⟩⟩))
  go_ret
  exact ⟨au2_0, bl_⟩
 replace H := bi_ H; rcases H with ⟨t382, A6, H⟩
 replace H := ib_ H; rcases H with ⟨rfl, H⟩ | ⟨rfl, H⟩
 rotate_left
 ·obtain rfl := Option.some.inj H
  go_enter Tryz.func29, Tryz.ntmps29
  go_wp2_with (first | ((with_reducible refine gate_dst (N := 1) rfl ?_); (try (refine gate_guard (by rfl) ?_; dsimp only)); refine be_ 1 #[.string a0_0, .string a0_1, .int .i64 a0_2, .slice A0_3 l0_3.length c0_3] 30 ?_; intro gb379 hg w16 hbox hb; have BK379 := am_ (hbox); have GW379 := am_ (gw_ hg bl_); have GE379 := GW379; replace HB := hs_ w hb; clear hb hbox hg; obtain ⟨hcz17_0, hcz17_1, hcz17_2, hcz17_3, hfz17_0, hfz17_1, hfz17_2, hfz17_3⟩ := cellsF4 BK379.out) | ((with_reducible refine gate_callee (f := 54) rfl ?_); refine gl_ 5 Tryz.func54 #[.string a0_0] ?_ rfl rfl rfl rfl; (with_reducible refine (F54.calls k a0_0 true _ A2.out).mono ?_); rintro e w' ⟨rfl, ⟨nd, rfl⟩⟩; refine ⟨_, rfl, ?_⟩) | (go_at_call 54; (with_reducible refine (F54.calls k a0_1 true _ A4.out).mono ?_); rintro e w' ⟨rfl, ⟨nd, rfl⟩⟩) | (go_at_call 55; (with_reducible refine (F55.calls a0_2 false _ A6.out).mono ?_); rintro e w' ⟨rfl, ⟨nd, rfl⟩⟩))
  go_ret
  exact ⟨au2_0, bl_⟩
 replace H := bi_ H; rcases H with ⟨t383, A8, H⟩
 replace H := ib_ H; rcases H with ⟨rfl, H⟩ | ⟨rfl, H⟩
 rotate_left
 ·obtain rfl := Option.some.inj H
  go_enter Tryz.func29, Tryz.ntmps29
  go_wp2_with (first | ((with_reducible refine gate_dst (N := 1) rfl ?_); (try (refine gate_guard (by rfl) ?_; dsimp only)); refine be_ 1 #[.string a0_0, .string a0_1, .int .i64 a0_2, .slice A0_3 l0_3.length c0_3] 30 ?_; intro gb379 hg w14 hbox hb; have BK379 := am_ (hbox); have GW379 := am_ (gw_ hg bl_); have GE379 := GW379; replace HB := hs_ w hb; clear hb hbox hg; obtain ⟨hcz15_0, hcz15_1, hcz15_2, hcz15_3, hfz15_0, hfz15_1, hfz15_2, hfz15_3⟩ := cellsF4 BK379.out) | ((with_reducible refine gate_callee (f := 54) rfl ?_); refine gl_ 5 Tryz.func54 #[.string a0_0] ?_ rfl rfl rfl rfl; (with_reducible refine (F54.calls k a0_0 true _ A2.out).mono ?_); rintro e w' ⟨rfl, ⟨nd, rfl⟩⟩; refine ⟨_, rfl, ?_⟩) | (go_at_call 54; (with_reducible refine (F54.calls k a0_1 true _ A4.out).mono ?_); rintro e w' ⟨rfl, ⟨nd, rfl⟩⟩) | (go_at_call 55; (with_reducible refine (F55.calls a0_2 true _ A6.out).mono ?_); rintro e w' ⟨rfl, ⟨nd, rfl⟩⟩) | (go_at_call 56; (with_reducible refine (F56.calls (l0_3.length : Int) 1 5 false _ A8.out).mono ?_); rintro e w' ⟨rfl, ⟨nd, rfl⟩⟩))
  go_ret
  exact ⟨au2_0, bl_⟩
 replace H := bi_ H; rcases H with ⟨t384, A10, H⟩
 obtain rfl := Option.some.inj H
 go_enter Tryz.func29, Tryz.ntmps29
 go_wp2_with (first | ((with_reducible refine gate_dst (N := 1) rfl ?_); (try (refine gate_guard (by rfl) ?_; dsimp only)); refine be_ 1 #[.string a0_0, .string a0_1, .int .i64 a0_2, .slice A0_3 l0_3.length c0_3] 30 ?_; intro gb379 hg w11 hbox hb; have BK379 := am_ (hbox); have GW379 := am_ (gw_ hg bl_); have GE379 := GW379; replace HB := hs_ w hb; clear hb hbox hg; obtain ⟨hcz12_0, hcz12_1, hcz12_2, hcz12_3, hfz12_0, hfz12_1, hfz12_2, hfz12_3⟩ := cellsF4 BK379.out) | ((with_reducible refine gate_callee (f := 54) rfl ?_); refine gl_ 5 Tryz.func54 #[.string a0_0] ?_ rfl rfl rfl rfl; (with_reducible refine (F54.calls k a0_0 true _ A2.out).mono ?_); rintro e w' ⟨rfl, ⟨nd, rfl⟩⟩; refine ⟨_, rfl, ?_⟩) | (go_at_call 54; (with_reducible refine (F54.calls k a0_1 true _ A4.out).mono ?_); rintro e w' ⟨rfl, ⟨nd, rfl⟩⟩) | (go_at_call 55; (with_reducible refine (F55.calls a0_2 true _ A6.out).mono ?_); rintro e w' ⟨rfl, ⟨nd, rfl⟩⟩) | (go_at_call 56; (with_reducible refine (F56.calls (l0_3.length : Int) 1 5 true _ A8.out).mono ?_); rintro e w' ⟨rfl, ⟨nd, rfl⟩⟩) | (go_at_call 57; (with_reducible refine (F57.calls k _ _ l0_3  t384 _ ?s1 ?s2 A10.out).mono ?_); (case s1 => repeat (first | exact (Kd.C_below HR0_3.out bl_) | (with_reducible refine Kd.C_alloc ?_ _) | (with_reducible refine Kd.C_drewN ?_ _) | (with_reducible refine Kd.C_drew ?_))); (case s2 => exact HC0_3.out); rintro e w13 ⟨rfl, hb⟩; replace BK379 := bb_ BK379 hb; replace HB := hs_ w hb; (try clear hb)))
 go_ret
 exact ⟨au2_0, bl_⟩
end Go.Proofs.YtlghcbmkhdibdaaGreatDoor.PFnExactIxSegments
