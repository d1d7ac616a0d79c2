-- printed by a program of this session (wip/xp/xprint.py) out of the translation; Lean checks it
import Derived.Test.YtlghcbmkhdibdaaDoorPFnExactIxCountx0
import Derived.Test.YtlghcbmkhdibdaaDoorPFnExactIxCountx1
namespace Go.Proofs.YtlghcbmkhdibdaaDoor.PFnExactIxCount
open Go.RowKit Go.Proofs.YtlghcbmkhdibdaaDoorW.PrintWords Go.Proofs.YtlghcbmkhdibdaaDoorW.PrintLast Go.Proofs.YtlghcbmkhdibdaaDoorW.PrintMore
attribute [local go_sem] max2_int min2_int max_two min_two max_three min_three max_four min_four   -- for this text's walks alone
set_option linter.unusedVariables false
set_option linter.unusedSimpArgs false
set_option maxHeartbeats 8000000
set_option maxRecDepth 100000

theorem au2_0 {p : Prop} (h : p := by first | rfl | (simp [errW_none, errW_some] <;> rfl) | (simp [*, errW_none, errW_some] <;> rfl)) : p := h
theorem au2_1 {p : Prop} (h : p := by (with_reducible repeat (first | apply Kd.R_alloc | apply Kd.R_drewN | apply Kd.R_drew)); exact Kd.R_mono HO_3.out (fun _ hk => trivial)) : p := h
theorem au2_2 {p : Prop} (h : p := by repeat (first | exact HR0.out | (with_reducible refine Kd.C_alloc ?_ _) | (with_reducible refine Kd.C_drewN ?_ _) | (with_reducible refine Kd.C_drew ?_))) : p := h
theorem au2_3 {p : Prop} (h : p := by repeat (first | exact (Kd.C_below HR0_3.out HB.out) | (with_reducible refine Kd.C_alloc ?_ _) | (with_reducible refine Kd.C_drewN ?_ _) | (with_reducible refine Kd.C_drew ?_))) : p := h
theorem au2_4 {p : Prop} (h : p := by repeat (first | exact (Kd.C_below HR0_1.out HB.out) | (with_reducible refine Kd.C_alloc ?_ _) | (with_reducible refine Kd.C_drewN ?_ _) | (with_reducible refine Kd.C_drew ?_))) : p := h
theorem au2_5 {p : Prop} (h : p := by repeat (first | exact (Kd.C_below HR362_1.out HB.out) | (with_reducible refine Kd.C_alloc ?_ _) | (with_reducible refine Kd.C_drewN ?_ _) | (with_reducible refine Kd.C_drew ?_))) : p := h
theorem au2_6 {p : Prop} (h : p := by repeat (first | exact (Kd.C_below HR370_1.out HB.out) | (with_reducible refine Kd.C_alloc ?_ _) | (with_reducible refine Kd.C_drewN ?_ _) | (with_reducible refine Kd.C_drew ?_))) : p := h
theorem au2_7 {p : Prop} (h : p := by repeat (first | exact (Kd.C_below HR380_2.out HB.out) | (with_reducible refine Kd.C_alloc ?_ _) | (with_reducible refine Kd.C_drewN ?_ _) | (with_reducible refine Kd.C_drew ?_))) : p := h
theorem au2_8 {p : Prop} (h : p := by first | rfl | (simp [errW_none, errW_some] <;> rfl) | (simp only [← hji17]; first | rfl | (simp [errW_none, errW_some] <;> rfl)) | (simp [*, errW_none, errW_some] <;> rfl)) : p := h
theorem au2_9 {p : Prop} (h : p := by (with_reducible repeat (first | apply Kd.S_alloc | apply Kd.S_drewN | apply Kd.S_drew)); exact HO_3.out) : p := h
theorem au2_10 {p : Prop} (h : p := by rintro w' ⟨s0, s1⟩; go_simp; with_reducible rfl) : p := h

/-! ### F22: function 22 -/
mutual
def F22.l0 : Nat → List (S52) → Int → ByteArray → ByteArray → Int → List (S83) → Option ((List (S52)))
  | 0, _, _, _, _, _, _ => none
  | k + 1, x3, x4, x193000, x193001, x193002, x193003 => if x4 < (x193003.length : Int) then (if 0 ≤ x4 then ((F48.f k (⟨#[71, 82, 72]⟩ : ByteArray) ((rd_T83 x193003 x4).f0) ((rd_T83 x193003 x4).f1)).bind fun bt213 => (if x3.length < 3518437208883 then (F22.l1 k (x3 ++ [(⟨bt213.1, bt213.2⟩ : S52)]) x4 0 x193000 x193001 x193002 x193003 ((rd_T83 x193003 x4).f0) ((rd_T83 x193003 x4).f1) ((rd_T83 x193003 x4).f2)) else (none))) else (none)) else ((F48.f k (⟨#[73, 88, 84]⟩ : ByteArray) (x193003.length : Int) x193002).bind fun bt204 => (if x3.length < 3518437208883 then (some (x3 ++ [(⟨bt204.1, bt204.2⟩ : S52)])) else (none)))
def F22.l1 : Nat → List (S52) → Int → Int → ByteArray → ByteArray → Int → List (S83) → Int → Int → List (S85) → Option ((List (S52)))
  | 0, _, _, _, _, _, _, _, _, _, _ => none
  | k + 1, x3, x4, x6, x193000, x193001, x193002, x193003, x213000, x213001, x213002 => if x6 < (x213002.length : Int) then (if 0 ≤ x6 then ((F50.f k ((rd_T85 x213002 x6).f0)).bind fun t229 => ((F49.f k (⟨#[77, 83, 72]⟩ : ByteArray) (([t229] : List ByteArray))).bind fun bt233 => (if x3.length < 3518437208883 then (F22.l2 k (x3 ++ [(⟨bt233.1, bt233.2⟩ : S52)]) x4 x6 0 x193000 x193001 x193002 x193003 x213000 x213001 x213002 ((rd_T85 x213002 x6).f0) ((rd_T85 x213002 x6).f1)) else (none)))) else (none)) else ((F48.f k (⟨#[71, 82, 84]⟩ : ByteArray) (x213002.length : Int) x213001).bind fun bt220 => (if x3.length < 3518437208883 then (F22.l0 k (x3 ++ [(⟨bt220.1, bt220.2⟩ : S52)]) (wrap64 (x4 + 1)) x193000 x193001 x193002 x193003) else (none)))
def F22.l2 : Nat → List (S52) → Int → Int → Int → ByteArray → ByteArray → Int → List (S83) → Int → Int → List (S85) → Int → List (S52) → Option ((List (S52)))
  | 0, _, _, _, _, _, _, _, _, _, _, _, _, _ => none
  | k + 1, x3, x4, x6, x8, x193000, x193001, x193002, x193003, x213000, x213001, x213002, x229000, x229001 => if x8 < (x229001.length : Int) then (if 0 ≤ x8 then ((F51.f k ((rd_T52 x229001 x8).f0) ((rd_T52 x229001 x8).f1)).bind fun bt241 => (if x3.length < 3518437208883 then (F22.l2 k (x3 ++ [(⟨bt241.1, bt241.2⟩ : S52)]) x4 x6 (wrap64 (x8 + 1)) x193000 x193001 x193002 x193003 x213000 x213001 x213002 x229000 x229001) else (none))) else (none)) else ((F48.f k (⟨#[77, 83, 84]⟩ : ByteArray) (x229001.length : Int) x229000).bind fun bt248 => (if x3.length < 3518437208883 then (F22.l1 k (x3 ++ [(⟨bt248.1, bt248.2⟩ : S52)]) x4 (wrap64 (x6 + 1)) x193000 x193001 x193002 x193003 x213000 x213001 x213002) else (none)))
end
def F22.f (k : Nat) (a0_0 : ByteArray) (a0_1 : ByteArray) (a0_2 : Int) (l0_3 : List (S83)) : Option ((List (S52))) := (some (([] : List (S52)) : List (S52))).bind fun y193 => ((F21.f k a0_0 a0_1 a0_2 l0_3).bind fun t196 => (if t196 = true then ((F35.f k a0_0 a0_1 a0_2 l0_3).bind fun bt197 => (if y193.length < 3518437208883 then (F22.l0 k (y193 ++ [(⟨bt197.1, bt197.2⟩ : S52)]) 0 a0_0 a0_1 a0_2 l0_3) else (none))) else (some y193)))
theorem F22.mono_l : ∀ k, (∀ y0 y1 y2 y3 y4 y5, LeO (F22.l0 k y0 y1 y2 y3 y4 y5) (F22.l0 (k + 1) y0 y1 y2 y3 y4 y5)) ∧ (∀ y0 y1 y2 y3 y4 y5 y6 y7 y8 y9, LeO (F22.l1 k y0 y1 y2 y3 y4 y5 y6 y7 y8 y9) (F22.l1 (k + 1) y0 y1 y2 y3 y4 y5 y6 y7 y8 y9)) ∧ (∀ y0 y1 y2 y3 y4 y5 y6 y7 y8 y9 y10 y11 y12, LeO (F22.l2 k y0 y1 y2 y3 y4 y5 y6 y7 y8 y9 y10 y11 y12) (F22.l2 (k + 1) y0 y1 y2 y3 y4 y5 y6 y7 y8 y9 y10 y11 y12))
 | 0 => ⟨fun _ _ _ _ _ _ r h => by simp [F22.l0] at h, fun _ _ _ _ _ _ _ _ _ _ r h => by simp [F22.l1] at h, fun _ _ _ _ _ _ _ _ _ _ _ _ _ r h => by simp [F22.l2] at h⟩
 | k + 1 => by
  obtain ⟨ih0, ih1, ih2⟩ := F22.mono_l k
  refine ⟨?_, ?_, ?_⟩
  rotate_left
  ·intro y0 y1 y2 y3 y4 y5 y6 y7 y8 y9
   unfold F22.l1
   repeat' with_reducible first | exact ih0 _ _ _ _ _ _ | exact ih1 _ _ _ _ _ _ _ _ _ _ | exact ih2 _ _ _ _ _ _ _ _ _ _ _ _ _ | exact F21.mono _ _ _ _ _ | exact F50.mono _ _ | exact F51.mono _ _ _ | exact F35.mono _ _ _ _ _ | exact F49.mono _ _ _ | exact F48.mono _ _ _ _ | exact LeO.refl _ | exact LeO.none _ | refine LeO.ite ?_ ?_ | refine LeO.bind ?_ (fun _ => ?_)
  ·intro y0 y1 y2 y3 y4 y5 y6 y7 y8 y9 y10 y11 y12
   unfold F22.l2
   repeat' with_reducible first | exact ih0 _ _ _ _ _ _ | exact ih1 _ _ _ _ _ _ _ _ _ _ | exact ih2 _ _ _ _ _ _ _ _ _ _ _ _ _ | exact F21.mono _ _ _ _ _ | exact F50.mono _ _ | exact F51.mono _ _ _ | exact F35.mono _ _ _ _ _ | exact F49.mono _ _ _ | exact F48.mono _ _ _ _ | exact LeO.refl _ | exact LeO.none _ | refine LeO.ite ?_ ?_ | refine LeO.bind ?_ (fun _ => ?_)
  intro y0 y1 y2 y3 y4 y5
  unfold F22.l0
  repeat' with_reducible first | exact ih0 _ _ _ _ _ _ | exact ih1 _ _ _ _ _ _ _ _ _ _ | exact ih2 _ _ _ _ _ _ _ _ _ _ _ _ _ | exact F21.mono _ _ _ _ _ | exact F50.mono _ _ | exact F51.mono _ _ _ | exact F35.mono _ _ _ _ _ | exact F49.mono _ _ _ | exact F48.mono _ _ _ _ | exact LeO.refl _ | exact LeO.none _ | refine LeO.ite ?_ ?_ | refine LeO.bind ?_ (fun _ => ?_)
theorem F22.mono : ∀ a0 a1 a2 a3 k, LeO (F22.f k a0 a1 a2 a3) (F22.f (k + 1) a0 a1 a2 a3) := by
 intro a0 a1 a2 a3 k
 obtain ⟨ih0, ih1, ih2⟩ := F22.mono_l k
 unfold F22.f
 repeat' with_reducible first | exact ih0 _ _ _ _ _ _ | exact ih1 _ _ _ _ _ _ _ _ _ _ | exact ih2 _ _ _ _ _ _ _ _ _ _ _ _ _ | exact F21.mono _ _ _ _ _ | exact F50.mono _ _ | exact F51.mono _ _ _ | exact F35.mono _ _ _ _ _ | exact F49.mono _ _ _ | exact F48.mono _ _ _ _ | exact LeO.refl _ | exact LeO.none _ | refine LeO.ite ?_ ?_ | refine LeO.bind ?_ (fun _ => ?_)
theorem F22.calls (k : Nat) (a0_0 : ByteArray) (a0_1 : ByteArray) (a0_2 : Int) (A0_3 : Option Addr) (c0_3 : Nat) (l0_3 : List (S83)) (r : List (S52)) (w : World) (hr0_3 : Kd.C k83 w A0_3 l0_3.length l0_3) (hc0_3 : l0_3.length ≤ c0_3) (h : F22.f k a0_0 a0_1 a0_2 l0_3 = some r) :
  Calls Tryd.prog 22 #[.agg #[.string a0_0, .string a0_1, .int .i64 a0_2, .slice A0_3 l0_3.length c0_3]] w fun e w' => ∃ v0_ : Value, e = .returned (v0_) ∧ Kd.R k52 52 w' w.heap.size (fun _ => True) v0_ r ∧ Below w.heap.size w w' := by
 have hu29 := Tryd.underlying29
 have hu83 := Tryd.underlying83
 have hu85 := Tryd.underlying85
 have hu52 := Tryd.underlying52
 have HR0_3 := am_ hr0_3
 have HC0_3 := am_ hc0_3
 clear hr0_3 hc0_3
 have HB := am_ (Below.refl w.heap.size w)
 have H : ((some (([] : List (S52)) : List (S52))).bind fun y193 => ((F21.f k a0_0 a0_1 a0_2 l0_3).bind fun t196 => (if t196 = true then ((F35.f k a0_0 a0_1 a0_2 l0_3).bind fun bt197 => (if y193.length < 3518437208883 then (F22.l0 k (y193 ++ [(⟨bt197.1, bt197.2⟩ : S52)]) 0 a0_0 a0_1 a0_2 l0_3) else (none))) else (some y193)))) = some r := h
 clear h
 obtain ⟨y193, hy193⟩ : ∃ y_ : List (S52), y_ = (([] : List (S52))) := ⟨_, rfl⟩
 replace H : ((F21.f k a0_0 a0_1 a0_2 l0_3).bind fun t196 => (if t196 = true then ((F35.f k a0_0 a0_1 a0_2 l0_3).bind fun bt197 => (if y193.length < 3518437208883 then (F22.l0 k (y193 ++ [(⟨bt197.1, bt197.2⟩ : S52)]) 0 a0_0 a0_1 a0_2 l0_3) else (none))) else (some y193))) = some r := by first | (rw [hy193]; exact H) | exact H
 have Ny193 := am_ hy193
 clear hy193
 replace H := bi_ H; rcases H with ⟨t196, A2, H⟩
 replace H := ib_ H; rcases H with ⟨rfl, H⟩ | ⟨rfl, H⟩
 rotate_left
 ·obtain rfl := Option.some.inj H
  go_enter Tryd.func22, Tryd.ntmps22
  go_wp2_with (first | ((with_reducible refine gate_dst (N := 1) rfl ?_); refine be_ 1 #[.string a0_0, .string a0_1, .int .i64 a0_2, .slice A0_3 l0_3.length c0_3] 29 ?_; intro gb192 hg w75 hbox hb; have BK192 := am_ (hbox); have GW192 := am_ (gw_ hg bl_); have GE192 := GW192; replace HB := hs_ w hb; clear hb hbox hg) | ((with_reducible refine gate_dst (N := 9) rfl ?_); refine Kd.R_lit k52 _ 52 ?hg (N := 9) ?hd (xs := ([] : List (S52))) (inner := []) (ok := fun _ => True) (okp := fun _ => True) ?hr ?hp (fun _ hk => hk) trivial (Below.refl _ _) (Nat.le_refl _) (by simp) ?_; (case hd => rfl); (case hg => rfl); (case hr => exact hr_); (case hp => exact (Reps.none _ _)); intro v194 w76 ho77 hb hg_ hnew_; clear hg_ hnew_; (first | rw [← Ny193.out] at ho77 | (simp only [Int.reduceToNat] at ho77; rw [← Ny193.out] at ho77)); have HO195 := am_ (Kd.R_lower ho77 (below_size bl_)); replace BK192 := bb_ BK192 hb; replace HB := hs_ w hb; clear hb ho77; obtain ⟨hcz78_0, hcz78_1, hcz78_2, hcz78_3, hfz78_0, hfz78_1, hfz78_2, hfz78_3⟩ := cellsF4 BK192.out) | (go_at_call 21; (with_reducible refine (F21.calls k a0_0 a0_1 a0_2 _ _ l0_3 false _ ?s1 ?s2 A2.out).mono ?_); (case s1 => exact au2_3); (case s2 => exact HC0_3.out); rintro e w79 ⟨rfl, hb⟩; (try clear A2); replace HO195 := am_ (Kd.R_below (rk_ HO195) hb); replace BK192 := bb_ BK192 hb; replace HB := hs_ w hb; (try clear hb)))
  go_ret
  exact ⟨_, au2_0, rk_ HO195, bl_⟩

 replace H := bi_ H; rcases H with ⟨⟨t197, t198⟩, A4, H⟩
 replace H := iln_ H; rcases H with ⟨LMc5, H⟩
 obtain ⟨y201, hy201⟩ : ∃ y_ : List (S52), y_ = (y193 ++ [(⟨t197, t198⟩ : S52)]) := ⟨_, rfl⟩
 replace H : (F22.l0 k y201 0 a0_0 a0_1 a0_2 l0_3) = some r := by first | (rw [hy201]; exact H) | exact H
 have Ny201 := am_ hy201
 clear hy201
 have H' := am_ H
 clear H
 go_enter Tryd.func22, Tryd.ntmps22
 go_wp2_with (first | ((with_reducible refine gate_dst (N := 1) rfl ?_); refine be_ 1 #[.string a0_0, .string a0_1, .int .i64 a0_2, .slice A0_3 l0_3.length c0_3] 29 ?_; intro gb192 hg w6 hbox hb; have BK192 := am_ (hbox); have GW192 := am_ (gw_ hg bl_); have GE192 := GW192; replace HB := hs_ w hb; clear hb hbox hg) | ((with_reducible refine gate_dst (N := 9) rfl ?_); refine Kd.R_lit k52 _ 52 ?hg (N := 9) ?hd (xs := ([] : List (S52))) (inner := []) (ok := fun _ => True) (okp := fun _ => True) ?hr ?hp (fun _ hk => hk) trivial (Below.refl _ _) (Nat.le_refl _) (by simp) ?_; (case hd => rfl); (case hg => rfl); (case hr => exact hr_); (case hp => exact (Reps.none _ _)); intro v194 w7 ho8 hb hg_ hnew_; clear hg_ hnew_; (first | rw [← Ny193.out] at ho8 | (simp only [Int.reduceToNat] at ho8; rw [← Ny193.out] at ho8)); have HO195 := am_ (Kd.R_lower ho8 (below_size bl_)); replace BK192 := bb_ BK192 hb; replace HB := hs_ w hb; clear hb ho8; obtain ⟨hcz9_0, hcz9_1, hcz9_2, hcz9_3, hfz9_0, hfz9_1, hfz9_2, hfz9_3⟩ := cellsF4 BK192.out) | (go_at_call 21; (with_reducible refine (F21.calls k a0_0 a0_1 a0_2 _ _ l0_3 true _ ?s1 ?s2 A2.out).mono ?_); (case s1 => exact au2_3); (case s2 => exact HC0_3.out); rintro e w10 ⟨rfl, hb⟩; (try clear A2); replace HO195 := am_ (Kd.R_below (rk_ HO195) hb); replace BK192 := bb_ BK192 hb; replace HB := hs_ w hb; (try clear hb); obtain ⟨hcz11_0, hcz11_1, hcz11_2, hcz11_3, hfz11_0, hfz11_1, hfz11_2, hfz11_3⟩ := cellsF4 BK192.out) | (go_at_call 35; (with_reducible refine (F35.calls k a0_0 a0_1 a0_2 _ _ l0_3 t197 t198 _ ?s1 ?s2 A4.out).mono ?_); (case s1 => exact au2_3); (case s2 => exact HC0_3.out); rintro e w12 ⟨v199, rfl, ho0, hb⟩; (try clear A4); replace HO195 := am_ (Kd.R_elder' (rk_ HO195) (Kd.S_base ho0) hb); have HO200 := am_ (Kd.S_lower ho0 (below_size bl_)); replace BK192 := bb_ BK192 hb; replace HB := hs_ w hb; (try clear hb); (try clear ho0); obtain ⟨Ao14, co14, eo14⟩ := Kd.S_slice HO200.out; subst eo14) | ((with_reducible refine gate_builtin (b := .append) (xs := #[.tmp 14, .tmp 17]) rfl ?_); at_builtin; refine Kd.R_append k52 (w0 := w) w.heap.size rfl (.tmp 14) (.tmp 17) 38 52 (.agg #[(.string ⟨#[]⟩), (.slice none 0 0)]) 40 rfl Tryd.underlying38 info52 rfl (by decide) (by omega) v194 y193 (⟨t197, t198⟩ : S52) [.string t197, .slice Ao14 t198.length co14] (fun _ => True) (fun k_ => ((fun _ => True)) k_ ∧ some k_ ≠ (v194 : Value).ownBlock) rfl rfl ?aP (fun _ hk => hk) ?aF ?aO ?aB ?aS ?aL ?_; (case aP => exact k52_mkM _ _ _ (⟨t197, t198⟩ : S52) (Kd.R_mono (Kd.R_apart' ((Kd.S_R HO200.out)) (Kd.R_typed HO195.out) (by decide)) (fun k_ hk => ⟨trivial, hk.2⟩))); (case aB => exact bl_); (case aF => exact (fun _ _ => trivial)); (case aO => exact (by (with_reducible repeat (first | apply Kd.R_alloc | apply Kd.R_drewN | apply Kd.R_drew)); exact Kd.R_mono HO195.out (fun _ hk => trivial))); (case aS => exact (below_size bl_)); (case aL => have := LMc5.out; omega); intro v202 w13 ho hb hg hat; rw [← Ny201.out] at ho; have n0_ := am_ (bg_ BK192 hg (Kd.R_ne HO195.out BK192.out (by decide))); have n1_ := am_ (hb); have n2_ := am_ (ho); clear BK192; clear HB; clear HO195; clear HO200; have BK192 := n0_; have HB := n1_; have HO203 := n2_; clear n0_ n1_ n2_; clear ho hb hg hat))
 go_loopg [3, 4] k (fun kq v3 v4 w' => ∃ (x3_1 : List (S52)) (x4_1 : Int), v4 = .int .i64 x4_1 ∧ Aside0 (F22.l0 kq x3_1 x4_1 a0_0 a0_1 a0_2 l0_3 = some r) ∧ Aside0 (kq ≤ k) ∧ Aside0 (Kd.R k52 52 w' w.heap.size (fun _ => True) v3 x3_1) ∧ Aside0 (w'.heap[gb192]? = some (.cells #[.string a0_0, .string a0_1, .int .i64 a0_2, (.slice A0_3 l0_3.length c0_3)] 29 (0, 0))) ∧ Aside0 (Below w.heap.size w w'))
 case atStart => exact ⟨(y201), (0), er_, H', ⟨Nat.le_refl _⟩, ⟨rk_ HO203⟩, ⟨bk_ BK192⟩, ⟨bl_⟩⟩
 case round =>
  clear H'
  try clear hcz11_0 hcz11_1 hcz11_2 hcz11_3
  try clear hcz9_0 hcz9_1 hcz9_2 hcz9_3
  try clear hfz11_0 hfz11_1 hfz11_2 hfz11_3
  try clear hfz9_0 hfz9_1 hfz9_2 hfz9_3
  obtain ⟨x3_1, x4_1, rfl, HA, HK1, HO_3, BK192, HB⟩ := hrel
  cases gk with
  | zero => exact absurd HA.out (by simp [F22.l0])
  | succ k1 =>
   have H := HA.out
   clear HA
   simp only [F22.l0] at H
   replace H := it_ H; rcases H with ⟨c15b0, H⟩ | ⟨c15b0, H⟩
   rotate_left
   ·replace H := bi_ H; rcases H with ⟨⟨t204, t205⟩, A69, H⟩
    replace H := iln_ H; rcases H with ⟨LMc70, H⟩
    obtain ⟨y208, hy208⟩ : ∃ y_ : List (S52), y_ = (x3_1 ++ [(⟨t204, t205⟩ : S52)]) := ⟨_, rfl⟩
    replace H : (some y208) = some r := by first | (rw [hy208]; exact H) | exact H
    have Ny208 := am_ hy208
    clear hy208
    obtain rfl := Option.some.inj H
    obtain ⟨hcz71_0, hcz71_1, hcz71_2, hcz71_3, hfz71_0, hfz71_1, hfz71_2, hfz71_3⟩ := cellsF4 BK192.out
    go_wp2_with (first | (go_at_call 48; (with_reducible refine (F48.calls k1 (⟨#[73, 88, 84]⟩ : ByteArray) (l0_3.length : Int) a0_2 t204 t205 _ A69.out).mono ?_); rintro e w72 ⟨v206, rfl, ho0, hb⟩; (try clear A69); replace HO_3 := am_ (Kd.R_elder' (rk_ HO_3) (Kd.S_base ho0) hb); have HO207 := am_ (Kd.S_lower ho0 (below_size bl_)); replace BK192 := bb_ BK192 hb; replace HB := hs_ w hb; (try clear hb); (try clear ho0); obtain ⟨Ao74, co74, eo74⟩ := Kd.S_slice HO207.out; subst eo74) | ((with_reducible refine gate_builtin (b := .append) (xs := #[.tmp 93, .tmp 100]) rfl ?_); at_builtin; refine Kd.R_append k52 (w0 := w) w.heap.size rfl (.tmp 93) (.tmp 100) 38 52 (.agg #[(.string ⟨#[]⟩), (.slice none 0 0)]) 40 rfl Tryd.underlying38 info52 rfl (by decide) (by omega) u3 x3_1 (⟨t204, t205⟩ : S52) [.string t204, .slice Ao74 t205.length co74] (fun _ => True) (fun k_ => ((fun _ => True)) k_ ∧ some k_ ≠ (u3 : Value).ownBlock) rfl rfl ?aP (fun _ hk => hk) ?aF ?aO ?aB ?aS ?aL ?_; (case aP => exact k52_mkM _ _ _ (⟨t204, t205⟩ : S52) (Kd.R_mono (Kd.R_apart' ((Kd.S_R HO207.out)) (Kd.R_typed HO_3.out) (by decide)) (fun k_ hk => ⟨trivial, hk.2⟩))); (case aB => exact bl_); (case aF => exact (fun _ _ => trivial)); (case aO => exact au2_1); (case aS => exact (below_size bl_)); (case aL => have := LMc70.out; omega); intro v209 w73 ho hb hg hat; rw [← Ny208.out] at ho; have n0_ := am_ (bg_ BK192 hg (Kd.R_ne HO_3.out BK192.out (by decide))); have n1_ := am_ (hb); have n2_ := am_ (ho); clear BK192; clear HB; clear HO_3; clear HO207; have BK192 := n0_; have HB := n1_; have HO210 := n2_; clear n0_ n1_ n2_; clear ho hb hg hat))
    go_ret
    exact ⟨_, au2_0, rk_ HO210, bl_⟩
   replace H := itn_ H; rcases H with ⟨c16b0, H⟩
   replace H := bi_ H; rcases H with ⟨⟨t213, t214⟩, A17, H⟩
   replace H := iln_ H; rcases H with ⟨LMc18, H⟩
   obtain ⟨y217, hy217⟩ : ∃ y_ : List (S52), y_ = (x3_1 ++ [(⟨t213, t214⟩ : S52)]) := ⟨_, rfl⟩
   replace H : (F22.l1 k1 y217 x4_1 0 a0_0 a0_1 a0_2 l0_3 ((rd_T83 l0_3 x4_1).f0) ((rd_T83 l0_3 x4_1).f1) ((rd_T83 l0_3 x4_1).f2)) = some r := by first | (rw [hy217]; exact H) | exact H
   have Ny217 := am_ hy217
   clear hy217
   have H' := am_ H
   clear H
   obtain ⟨hcz19_0, hcz19_1, hcz19_2, hcz19_3, hfz19_0, hfz19_1, hfz19_2, hfz19_3⟩ := cellsF4 BK192.out
   have p211 : 0 ≤ (x4_1 : Int) := od_
   have q211 : x4_1 < (l0_3.length : Int) := od_
   obtain ⟨ad211, A211_2, c211_2, e211, hx211_0, hx211_1, hx211_2, hl211_2, hi211_2⟩ := at_T83 HR0_3.out x4_1 p211 q211
   cases e211
   replace hx211_0 := (HB.out.cell (World.block_lt_of_cell? _ _ hx211_0)).trans hx211_0
   replace hx211_1 := (HB.out.cell (World.block_lt_of_cell? _ _ hx211_1)).trans hx211_1
   replace hx211_2 := (HB.out.cell (World.block_lt_of_cell? _ _ hx211_2)).trans hx211_2
   have HR211_2 := am_ hi211_2
   have HC211_2 := am_ hl211_2
   clear hi211_2 hl211_2
   replace p211 := eq_true p211
   replace q211 := eq_true q211
   go_wp2_with (first | ((with_reducible refine gate_dst (N := 5) rfl ?_); refine be_ 5 #[.int .i64 0, .int .i64 0, .slice none 0 0] 83 ?_; intro gb212 hg w20 hbox hb; replace HO_3 := am_ (Kd.R_below (rk_ HO_3) hb); have BK212 := am_ (hbox); have GW212 := am_ (gw_ hg bl_); have GE212 := GW212; replace HB := hs_ w hb; have NB192_212 := am_ (gn_ hg (blkl_ BK192)); have NB212_192 := am_ (gm_ hg (blkl_ BK192)); replace BK192 := bb_ BK192 hb; clear hb hbox hg; have hnb21 := NB212_192.out; have hnc21 := NB192_212.out; obtain ⟨hcz22_0, hcz22_1, hcz22_2, hfz22_0, hfz22_1, hfz22_2⟩ := cellsF3 BK212.out) | (go_at_call 48; (with_reducible refine (F48.calls k1 (⟨#[71, 82, 72]⟩ : ByteArray) ((rd_T83 l0_3 x4_1).f0) ((rd_T83 l0_3 x4_1).f1) t213 t214 _ A17.out).mono ?_); rintro e w23 ⟨v215, rfl, ho0, hb⟩; (try clear A17); replace HO_3 := am_ (Kd.R_elder' (by (with_reducible repeat (first | apply Kd.R_alloc | apply Kd.R_drewN | apply Kd.R_drew)); exact (Kd.R_mono (Kd.R_far (p := ⟨gb212, 2, none⟩) (Kd.R_far (p := ⟨gb212, 1, none⟩) (Kd.R_far (p := ⟨gb212, 0, none⟩) (Kd.R_types HO_3.out BK212.out (by decide)) (fun _ hk => hk.2) (.int .i64 ((rd_T83 l0_3 x4_1).f0))) (fun _ hk => hk.2) (.int .i64 ((rd_T83 l0_3 x4_1).f1))) (fun _ hk => hk.2) (.slice A211_2 ((rd_T83 l0_3 x4_1).f2).length c211_2)) (fun _ h_ => h_.1))) (Kd.S_base ho0) hb); have HO216 := am_ (Kd.S_lower ho0 (below_size bl_)); replace BK192 := am_ (blk_below (g := gb192) (o := .cells #[.string a0_0, .string a0_1, .int .i64 a0_2, .slice (some ad211) l0_3.length c0_3] 29 (0, 0)) (bf_ BK192) hb); replace BK212 := am_ (blk_below (g := gb212) (o := .cells #[.int .i64 ((rd_T83 l0_3 x4_1).f0), .int .i64 ((rd_T83 l0_3 x4_1).f1), .slice A211_2 ((rd_T83 l0_3 x4_1).f2).length c211_2] 83 (0, 0)) (bq_ BK212) hb); replace HB := hs_ w hb; (try clear hb); (try clear hb2); (try clear hk); (try clear hi); (try clear ho0); obtain ⟨Ao25, co25, eo25⟩ := Kd.S_slice HO216.out; subst eo25) | ((with_reducible refine gate_builtin (b := .append) (xs := #[.tmp 31, .tmp 37]) rfl ?_); at_builtin; refine Kd.R_append k52 (w0 := w) w.heap.size rfl (.tmp 31) (.tmp 37) 38 52 (.agg #[(.string ⟨#[]⟩), (.slice none 0 0)]) 40 rfl Tryd.underlying38 info52 rfl (by decide) (by omega) u3 x3_1 (⟨t213, t214⟩ : S52) [.string t213, .slice Ao25 t214.length co25] (fun _ => True) (fun k_ => ((fun _ => True)) k_ ∧ some k_ ≠ (u3 : Value).ownBlock) rfl rfl ?aP (fun _ hk => hk) ?aF ?aO ?aB ?aS ?aL ?_; (case aP => exact k52_mkM _ _ _ (⟨t213, t214⟩ : S52) (Kd.R_mono (Kd.R_apart' ((Kd.S_R HO216.out)) (Kd.R_typed HO_3.out) (by decide)) (fun k_ hk => ⟨trivial, hk.2⟩))); (case aB => exact bl_); (case aF => exact (fun _ _ => trivial)); (case aO => exact au2_1); (case aS => exact (below_size bl_)); (case aL => have := LMc18.out; omega); intro v218 w24 ho hb hg hat; rw [← Ny217.out] at ho; have n0_ := am_ (bg_ BK192 hg (Kd.R_ne HO_3.out BK192.out (by decide))); have n1_ := am_ (bg_ BK212 hg (Kd.R_ne HO_3.out BK212.out (by decide))); have n2_ := am_ (hb); have n3_ := am_ (ho); clear BK192; clear BK212; clear HB; clear HO_3; clear HO216; have BK192 := n0_; have BK212 := n1_; have HB := n2_; have HO219 := n3_; clear n0_ n1_ n2_ n3_; clear ho hb hg hat))
   go_loopg [3, 6] k1 (fun kq v3 v6 w' => ∃ (x3_2 : List (S52)) (x6_2 : Int), v6 = .int .i64 x6_2 ∧ Aside0 (F22.l1 kq x3_2 x4_1 x6_2 a0_0 a0_1 a0_2 l0_3 ((rd_T83 l0_3 x4_1).f0) ((rd_T83 l0_3 x4_1).f1) ((rd_T83 l0_3 x4_1).f2) = some r) ∧ Aside0 (kq ≤ k1) ∧ Aside0 (Kd.R k52 52 w' w.heap.size (fun _ => True) v3 x3_2) ∧ Aside0 (w'.heap[gb192]? = some (.cells #[.string a0_0, .string a0_1, .int .i64 a0_2, (.slice (some ad211) l0_3.length c0_3)] 29 (0, 0))) ∧ Aside0 (w'.heap[gb212]? = some (.cells #[.int .i64 ((rd_T83 l0_3 x4_1).f0), .int .i64 ((rd_T83 l0_3 x4_1).f1), (.slice A211_2 ((rd_T83 l0_3 x4_1).f2).length c211_2)] 83 (0, 0))) ∧ Aside0 (Below w.heap.size w w'))
   case atStart => exact ⟨(y217), (0), er_, H', ⟨Nat.le_refl _⟩, ⟨rk_ HO219⟩, ⟨bk_ BK192⟩, ⟨bk_ BK212⟩, ⟨bl_⟩⟩
   case round =>
    clear H'
    try clear c15b0
    try clear c16b0
    try clear hcz11_0 hcz11_1 hcz11_2 hcz11_3
    try clear hcz19_0 hcz19_1 hcz19_2 hcz19_3
    try clear hcz22_0 hcz22_1 hcz22_2
    try clear hcz9_0 hcz9_1 hcz9_2 hcz9_3
    try clear hfz11_0 hfz11_1 hfz11_2 hfz11_3
    try clear hfz19_0 hfz19_1 hfz19_2 hfz19_3
    try clear hfz22_0 hfz22_1 hfz22_2
    try clear hfz9_0 hfz9_1 hfz9_2 hfz9_3
    try clear hx211_0
    try clear hx211_1
    try clear hx211_2
    try clear p211
    try clear q211
    obtain ⟨x3_2, x6_2, rfl, HA, HK2, HO_3, BK192, BK212, HB⟩ := hrel
    cases gk with
    | zero => exact absurd HA.out (by simp [F22.l1])
    | succ k2 =>
     have H := HA.out
     clear HA
     simp only [F22.l1] at H
     replace H := it_ H; rcases H with ⟨c26b0, H⟩ | ⟨c26b0, H⟩
     rotate_left
     ·replace H := bi_ H; rcases H with ⟨⟨t220, t221⟩, A62, H⟩
      replace H := iln_ H; rcases H with ⟨LMc63, H⟩
      obtain ⟨y224, hy224⟩ : ∃ y_ : List (S52), y_ = (x3_2 ++ [(⟨t220, t221⟩ : S52)]) := ⟨_, rfl⟩
      replace H : (F22.l0 k2 y224 (wrap64 (x4_1 + 1)) a0_0 a0_1 a0_2 l0_3) = some r := by first | (rw [hy224]; exact H) | exact H
      have Ny224 := am_ hy224
      clear hy224
      have H' := am_ H
      clear H
      have hnb64 := NB212_192.out
      have hnc64 := NB192_212.out
      obtain ⟨hcz65_0, hcz65_1, hcz65_2, hfz65_0, hfz65_1, hfz65_2⟩ := cellsF3 BK212.out
      go_wp2_with (first | (go_at_call 48; (with_reducible refine (F48.calls k2 (⟨#[71, 82, 84]⟩ : ByteArray) (((rd_T83 l0_3 x4_1).f2).length : Int) ((rd_T83 l0_3 x4_1).f1) t220 t221 _ A62.out).mono ?_); rintro e w66 ⟨v222, rfl, ho0, hb⟩; (try clear A62); replace HO_3 := am_ (Kd.R_elder' (rk_ HO_3) (Kd.S_base ho0) hb); have HO223 := am_ (Kd.S_lower ho0 (below_size bl_)); replace BK192 := bb_ BK192 hb; replace BK212 := bb_ BK212 hb; replace HB := hs_ w hb; (try clear hb); (try clear ho0); obtain ⟨Ao68, co68, eo68⟩ := Kd.S_slice HO223.out; subst eo68) | ((with_reducible refine gate_builtin (b := .append) (xs := #[.tmp 84, .tmp 91]) rfl ?_); at_builtin; refine Kd.R_append k52 (w0 := w) w.heap.size rfl (.tmp 84) (.tmp 91) 38 52 (.agg #[(.string ⟨#[]⟩), (.slice none 0 0)]) 40 rfl Tryd.underlying38 info52 rfl (by decide) (by omega) u3 x3_2 (⟨t220, t221⟩ : S52) [.string t220, .slice Ao68 t221.length co68] (fun _ => True) (fun k_ => ((fun _ => True)) k_ ∧ some k_ ≠ (u3 : Value).ownBlock) rfl rfl ?aP (fun _ hk => hk) ?aF ?aO ?aB ?aS ?aL ?_; (case aP => exact k52_mkM _ _ _ (⟨t220, t221⟩ : S52) (Kd.R_mono (Kd.R_apart' ((Kd.S_R HO223.out)) (Kd.R_typed HO_3.out) (by decide)) (fun k_ hk => ⟨trivial, hk.2⟩))); (case aB => exact bl_); (case aF => exact (fun _ _ => trivial)); (case aO => exact au2_1); (case aS => exact (below_size bl_)); (case aL => have := LMc63.out; omega); intro v225 w67 ho hb hg hat; rw [← Ny224.out] at ho; have n0_ := am_ (bg_ BK192 hg (Kd.R_ne HO_3.out BK192.out (by decide))); have n1_ := am_ (bg_ BK212 hg (Kd.R_ne HO_3.out BK212.out (by decide))); have n2_ := am_ (hb); have n3_ := am_ (ho); clear BK192; clear BK212; clear HB; clear HO_3; clear HO223; have BK192 := n0_; have BK212 := n1_; have HB := n2_; have HO226 := n3_; clear n0_ n1_ n2_ n3_; clear ho hb hg hat))
      go_roundg k2
      case measure => have := HK1.out; have := HK2.out; omega
      case rel => exact ⟨(y224), (wrap64 (x4_1 + 1)), er_, H', ⟨by have := HK1.out; have := HK2.out; omega⟩, ⟨rk_ HO226⟩, ⟨bk_ BK192⟩, ⟨bl_⟩⟩
     replace H := itn_ H; rcases H with ⟨c27b0, H⟩
     replace H := bi_ H; rcases H with ⟨t229, A28, H⟩
     obtain ⟨y230, hy230⟩ : ∃ y_ : List ByteArray, y_ = (([t229] : List ByteArray)) := ⟨_, rfl⟩
     replace H : ((F49.f k2 (⟨#[77, 83, 72]⟩ : ByteArray) y230).bind fun bt233 => (if x3_2.length < 3518437208883 then (F22.l2 k2 (x3_2 ++ [(⟨bt233.1, bt233.2⟩ : S52)]) x4_1 x6_2 0 a0_0 a0_1 a0_2 l0_3 ((rd_T83 l0_3 x4_1).f0) ((rd_T83 l0_3 x4_1).f1) ((rd_T83 l0_3 x4_1).f2) ((rd_T85 ((rd_T83 l0_3 x4_1).f2) x6_2).f0) ((rd_T85 ((rd_T83 l0_3 x4_1).f2) x6_2).f1)) else (none))) = some r := by first | (rw [hy230]; exact H) | exact H
     have Ny230 := am_ hy230
     clear hy230
     replace H := bi_ H; rcases H with ⟨⟨t233, t234⟩, A29, H⟩
     replace H := iln_ H; rcases H with ⟨LMc30, H⟩
     obtain ⟨y237, hy237⟩ : ∃ y_ : List (S52), y_ = (x3_2 ++ [(⟨t233, t234⟩ : S52)]) := ⟨_, rfl⟩
     replace H : (F22.l2 k2 y237 x4_1 x6_2 0 a0_0 a0_1 a0_2 l0_3 ((rd_T83 l0_3 x4_1).f0) ((rd_T83 l0_3 x4_1).f1) ((rd_T83 l0_3 x4_1).f2) ((rd_T85 ((rd_T83 l0_3 x4_1).f2) x6_2).f0) ((rd_T85 ((rd_T83 l0_3 x4_1).f2) x6_2).f1)) = some r := by first | (rw [hy237]; exact H) | exact H
     have Ny237 := am_ hy237
     clear hy237
     have H' := am_ H
     clear H
     have hnb31 := NB212_192.out
     have hnc31 := NB192_212.out
     obtain ⟨hcz32_0, hcz32_1, hcz32_2, hfz32_0, hfz32_1, hfz32_2⟩ := cellsF3 BK212.out
     have p227 : 0 ≤ (x6_2 : Int) := od_
     have q227 : x6_2 < (((rd_T83 l0_3 x4_1).f2).length : Int) := od_
     obtain ⟨ad227, A227_1, c227_1, e227, hx227_0, hx227_1, hl227_1, hi227_1⟩ := at_T85 HR211_2.out x6_2 p227 q227
     cases e227
     replace hx227_0 := (HB.out.cell (World.block_lt_of_cell? _ _ hx227_0)).trans hx227_0
     replace hx227_1 := (HB.out.cell (World.block_lt_of_cell? _ _ hx227_1)).trans hx227_1
     have HR227_1 := am_ hi227_1
     have HC227_1 := am_ hl227_1
     clear hi227_1 hl227_1
     replace p227 := eq_true p227
     replace q227 := eq_true q227
     go_wp2_with (first | ((with_reducible refine gate_dst (N := 7) rfl ?_); refine be_ 7 #[.int .i64 0, .slice none 0 0] 85 ?_; intro gb228 hg w33 hbox hb; replace HO_3 := am_ (Kd.R_below (rk_ HO_3) hb); have BK228 := am_ (hbox); have GW228 := am_ (gw_ hg bl_); have GE228 := GW228; replace HB := hs_ w hb; have NB192_228 := am_ (gn_ hg (blkl_ BK192)); have NB228_192 := am_ (gm_ hg (blkl_ BK192)); replace BK192 := bb_ BK192 hb; have NB212_228 := am_ (gn_ hg (blkl_ BK212)); have NB228_212 := am_ (gm_ hg (blkl_ BK212)); replace BK212 := bb_ BK212 hb; clear hb hbox hg; have hnb34 := NB228_192.out; have hnc34 := NB192_228.out; have hnb35 := NB228_212.out; have hnc35 := NB212_228.out; obtain ⟨hcz36_0, hcz36_1, hfz36_0, hfz36_1⟩ := cellsF2 BK228.out) | (go_at_call 50; (with_reducible refine (F50.calls k2 ((rd_T85 ((rd_T83 l0_3 x4_1).f2) x6_2).f0) t229 _ A28.out).mono ?_); rintro e w37 ⟨rfl, hb⟩; (try clear A28); replace HO_3 := am_ (Kd.R_below (by (with_reducible repeat (first | apply Kd.R_alloc | apply Kd.R_drewN | apply Kd.R_drew)); exact (Kd.R_mono (Kd.R_far (p := ⟨gb228, 1, none⟩) (Kd.R_far (p := ⟨gb228, 0, none⟩) (Kd.R_types HO_3.out BK228.out (by decide)) (fun _ hk => hk.2) (.int .i64 ((rd_T85 ((rd_T83 l0_3 x4_1).f2) x6_2).f0))) (fun _ hk => hk.2) (.slice A227_1 ((rd_T85 ((rd_T83 l0_3 x4_1).f2) x6_2).f1).length c227_1)) (fun _ h_ => h_.1))) hb); replace BK192 := am_ (blk_below (g := gb192) (o := .cells #[.string a0_0, .string a0_1, .int .i64 a0_2, .slice (some ad211) l0_3.length c0_3] 29 (0, 0)) (bf_ BK192) hb); replace BK212 := am_ (blk_below (g := gb212) (o := .cells #[.int .i64 ((rd_T83 l0_3 x4_1).f0), .int .i64 ((rd_T83 l0_3 x4_1).f1), .slice (some ad227) ((rd_T83 l0_3 x4_1).f2).length c211_2] 83 (0, 0)) (bf_ BK212) hb); replace BK228 := am_ (blk_below (g := gb228) (o := .cells #[.int .i64 ((rd_T85 ((rd_T83 l0_3 x4_1).f2) x6_2).f0), .slice A227_1 ((rd_T85 ((rd_T83 l0_3 x4_1).f2) x6_2).f1).length c227_1] 85 (0, 0)) (bq_ BK228) hb); replace HB := hs_ w hb; (try clear hb); (try clear hb2); (try clear hk); (try clear hi)) | ((with_reducible refine gate_dst (N := 55) rfl ?_); refine Kd.R_lit Kd.string _ 9 ?hg (N := 55) ?hd (xs := ([t229] : List ByteArray)) (inner := [.string t229]) (ok := fun _ => True) (okp := fun _ => True) ?hr ?hp (fun _ hk => hk) trivial (Below.refl _ _) (Nat.le_refl _) (by simp) ?_; (case hd => rfl); (case hg => rfl); (case hr => exact hr_); (case hp => exact (Reps.one (show Kd.M Kd.string _ _ _ t229 [.string t229] from rfl) (Reps.none _ _))); intro v231 w38 ho39 hb hg_ hnew_; clear hg_ hnew_; (first | rw [← Ny230.out] at ho39 | (simp only [Int.reduceToNat] at ho39; rw [← Ny230.out] at ho39)); replace HO_3 := am_ (Kd.R_elder' (rk_ HO_3) (Kd.R_base ho39) hb); have HO232 := am_ (Kd.R_lower ho39 (below_size bl_)); replace BK192 := bb_ BK192 hb; replace BK212 := bb_ BK212 hb; replace BK228 := bb_ BK228 hb; replace HB := hs_ w hb; clear hb ho39; obtain ⟨Ao40, co40, eo40⟩ := Kd.R_slice HO232.out; subst eo40) | (go_at_call 49; (with_reducible refine (F49.calls k2 (⟨#[77, 83, 72]⟩ : ByteArray) _ _ y230 t233 t234 _ ?s1 ?s2 A29.out).mono ?_); (case s1 => repeat (first | exact (Kd.R_reads' HO232.out).2.2 | (with_reducible refine Kd.C_alloc ?_ _) | (with_reducible refine Kd.C_drewN ?_ _) | (with_reducible refine Kd.C_drew ?_))); (case s2 => exact (Kd.R_reads' HO232.out).2.1); rintro e w41 ⟨v235, rfl, ho0, hb⟩; (try clear A29); replace HO_3 := am_ (Kd.R_elder' (rk_ HO_3) (Kd.S_base ho0) hb); have HO236 := am_ (Kd.S_lower (Kd.S_new' ho0 (Kd.R_lt (rk_ HO232))) (below_size bl_)); replace HO232 := am_ (Kd.R_below (rk_ HO232) hb); replace BK192 := bb_ BK192 hb; replace BK212 := bb_ BK212 hb; replace BK228 := bb_ BK228 hb; replace HB := hs_ w hb; (try clear hb); (try clear ho0); obtain ⟨Ao43, co43, eo43⟩ := Kd.S_slice HO236.out; subst eo43) | ((with_reducible refine gate_builtin (b := .append) (xs := #[.tmp 51, .tmp 57]) rfl ?_); at_builtin; refine Kd.R_append k52 (w0 := w) w.heap.size rfl (.tmp 51) (.tmp 57) 38 52 (.agg #[(.string ⟨#[]⟩), (.slice none 0 0)]) 40 rfl Tryd.underlying38 info52 rfl (by decide) (by omega) u3 x3_2 (⟨t233, t234⟩ : S52) [.string t233, .slice Ao43 t234.length co43] (fun k_ => some k_ ≠ (.slice Ao40 y230.length co40 : Value).ownBlock) (fun k_ => ((fun k_ => some k_ ≠ (.slice Ao40 y230.length co40 : Value).ownBlock)) k_ ∧ some k_ ≠ (u3 : Value).ownBlock) rfl rfl ?aP (fun _ hk => hk) ?aF ?aO ?aB ?aS ?aL ?_; (case aP => exact k52_mkM _ _ _ (⟨t233, t234⟩ : S52) (Kd.R_mono (Kd.R_apart' ((Kd.S_R HO236.out)) (Kd.R_typed HO_3.out) (by decide)) (fun k_ hk => ⟨hk.1.2, hk.2⟩))); (case aB => exact bl_); (case aF => exact (fun k_ hk => Kd.fresh' (Kd.R_lt (rk_ HO232)) k_ hk)); (case aO => exact (by (with_reducible repeat (first | apply Kd.R_alloc | apply Kd.R_drewN | apply Kd.R_drew)); exact Kd.R_mono HO_3.out (fun _ hk => hk.1.2))); (case aS => exact (below_size bl_)); (case aL => have := LMc30.out; omega); intro v238 w42 ho hb hg hat; rw [← Ny237.out] at ho; have n0_ := am_ (bg_ BK192 hg (Kd.R_ne HO_3.out BK192.out (by decide))); have n1_ := am_ (bg_ BK212 hg (Kd.R_ne HO_3.out BK212.out (by decide))); have n2_ := am_ (bg_ BK228 hg (Kd.R_ne HO_3.out BK228.out (by decide))); have n3_ := am_ (Kd.R_over' (rk_ HO232) (Kd.R_typed (rk_ HO_3)) (by decide) hg); have n4_ := am_ (hb); have n5_ := am_ (ho); clear BK192; clear BK212; clear BK228; clear HO232; clear HB; clear HO_3; clear HO236; have BK192 := n0_; have BK212 := n1_; have BK228 := n2_; have HO232 := n3_; have HB := n4_; have HO239 := n5_; clear n0_ n1_ n2_ n3_ n4_ n5_; clear ho hb hg hat))
     go_loopg [3, 8] k2 (fun kq v3 v8 w' => ∃ (x3_3 : List (S52)) (x8_3 : Int), v8 = .int .i64 x8_3 ∧ Aside0 (F22.l2 kq x3_3 x4_1 x6_2 x8_3 a0_0 a0_1 a0_2 l0_3 ((rd_T83 l0_3 x4_1).f0) ((rd_T83 l0_3 x4_1).f1) ((rd_T83 l0_3 x4_1).f2) ((rd_T85 ((rd_T83 l0_3 x4_1).f2) x6_2).f0) ((rd_T85 ((rd_T83 l0_3 x4_1).f2) x6_2).f1) = some r) ∧ Aside0 (kq ≤ k2) ∧ Aside0 (Kd.R k52 52 w' w.heap.size (fun _ => True) v3 x3_3) ∧ Aside0 (w'.heap[gb192]? = some (.cells #[.string a0_0, .string a0_1, .int .i64 a0_2, (.slice (some ad211) l0_3.length c0_3)] 29 (0, 0))) ∧ Aside0 (w'.heap[gb212]? = some (.cells #[.int .i64 ((rd_T83 l0_3 x4_1).f0), .int .i64 ((rd_T83 l0_3 x4_1).f1), (.slice (some ad227) ((rd_T83 l0_3 x4_1).f2).length c211_2)] 83 (0, 0))) ∧ Aside0 (w'.heap[gb228]? = some (.cells #[.int .i64 ((rd_T85 ((rd_T83 l0_3 x4_1).f2) x6_2).f0), (.slice A227_1 ((rd_T85 ((rd_T83 l0_3 x4_1).f2) x6_2).f1).length c227_1)] 85 (0, 0))) ∧ Aside0 (Below w.heap.size w w'))
     case atStart => exact ⟨(y237), (0), er_, H', ⟨Nat.le_refl _⟩, ⟨by (with_reducible repeat (first | apply Kd.R_alloc | apply Kd.R_drewN | apply Kd.R_drew)); exact Kd.R_mono HO239.out (fun _ hk => trivial)⟩, ⟨bk_ BK192⟩, ⟨bk_ BK212⟩, ⟨bk_ BK228⟩, ⟨bl_⟩⟩
     case round =>
      clear H'
      try clear c15b0
      try clear c16b0
      try clear c26b0
      try clear c27b0
      try clear hcz11_0 hcz11_1 hcz11_2 hcz11_3
      try clear hcz19_0 hcz19_1 hcz19_2 hcz19_3
      try clear hcz22_0 hcz22_1 hcz22_2
      try clear hcz32_0 hcz32_1 hcz32_2
      try clear hcz36_0 hcz36_1
      try clear hcz9_0 hcz9_1 hcz9_2 hcz9_3
      try clear hfz11_0 hfz11_1 hfz11_2 hfz11_3
      try clear hfz19_0 hfz19_1 hfz19_2 hfz19_3
      try clear hfz22_0 hfz22_1 hfz22_2
      try clear hfz32_0 hfz32_1 hfz32_2
      try clear hfz36_0 hfz36_1
      try clear hfz9_0 hfz9_1 hfz9_2 hfz9_3
      try clear hx211_0
      try clear hx211_1
      try clear hx211_2
      try clear hx227_0
      try clear hx227_1
      try clear p211
      try clear p227
      try clear q211
      try clear q227
      obtain ⟨x3_3, x8_3, rfl, HA, HK3, HO_3, BK192, BK212, BK228, HB⟩ := hrel
      cases gk with
      | zero => exact absurd HA.out (by simp [F22.l2])
      | succ k3 =>
       have H := HA.out
       clear HA
       simp only [F22.l2] at H
       replace H := it_ H; rcases H with ⟨c44b0, H⟩ | ⟨c44b0, H⟩
       rotate_left
       ·replace H := bi_ H; rcases H with ⟨⟨t248, t249⟩, A54, H⟩
        replace H := iln_ H; rcases H with ⟨LMc55, H⟩
        obtain ⟨y252, hy252⟩ : ∃ y_ : List (S52), y_ = (x3_3 ++ [(⟨t248, t249⟩ : S52)]) := ⟨_, rfl⟩
        replace H : (F22.l1 k3 y252 x4_1 (wrap64 (x6_2 + 1)) a0_0 a0_1 a0_2 l0_3 ((rd_T83 l0_3 x4_1).f0) ((rd_T83 l0_3 x4_1).f1) ((rd_T83 l0_3 x4_1).f2)) = some r := by first | (rw [hy252]; exact H) | exact H
        have Ny252 := am_ hy252
        clear hy252
        have H' := am_ H
        clear H
        have hnb56 := NB228_192.out
        have hnc56 := NB192_228.out
        have hnb57 := NB228_212.out
        have hnc57 := NB212_228.out
        obtain ⟨hcz58_0, hcz58_1, hfz58_0, hfz58_1⟩ := cellsF2 BK228.out
        go_wp2_with (first | (go_at_call 48; (with_reducible refine (F48.calls k3 (⟨#[77, 83, 84]⟩ : ByteArray) (((rd_T85 ((rd_T83 l0_3 x4_1).f2) x6_2).f1).length : Int) ((rd_T85 ((rd_T83 l0_3 x4_1).f2) x6_2).f0) t248 t249 _ A54.out).mono ?_); rintro e w59 ⟨v250, rfl, ho0, hb⟩; (try clear A54); replace HO_3 := am_ (Kd.R_elder' (rk_ HO_3) (Kd.S_base ho0) hb); have HO251 := am_ (Kd.S_lower ho0 (below_size bl_)); replace BK192 := bb_ BK192 hb; replace BK212 := bb_ BK212 hb; replace BK228 := bb_ BK228 hb; replace HB := hs_ w hb; (try clear hb); (try clear ho0); obtain ⟨Ao61, co61, eo61⟩ := Kd.S_slice HO251.out; subst eo61) | ((with_reducible refine gate_builtin (b := .append) (xs := #[.tmp 75, .tmp 82]) rfl ?_); at_builtin; refine Kd.R_append k52 (w0 := w) w.heap.size rfl (.tmp 75) (.tmp 82) 38 52 (.agg #[(.string ⟨#[]⟩), (.slice none 0 0)]) 40 rfl Tryd.underlying38 info52 rfl (by decide) (by omega) u3 x3_3 (⟨t248, t249⟩ : S52) [.string t248, .slice Ao61 t249.length co61] (fun _ => True) (fun k_ => ((fun _ => True)) k_ ∧ some k_ ≠ (u3 : Value).ownBlock) rfl rfl ?aP (fun _ hk => hk) ?aF ?aO ?aB ?aS ?aL ?_; (case aP => exact k52_mkM _ _ _ (⟨t248, t249⟩ : S52) (Kd.R_mono (Kd.R_apart' ((Kd.S_R HO251.out)) (Kd.R_typed HO_3.out) (by decide)) (fun k_ hk => ⟨trivial, hk.2⟩))); (case aB => exact bl_); (case aF => exact (fun _ _ => trivial)); (case aO => exact au2_1); (case aS => exact (below_size bl_)); (case aL => have := LMc55.out; omega); intro v253 w60 ho hb hg hat; rw [← Ny252.out] at ho; have n0_ := am_ (bg_ BK192 hg (Kd.R_ne HO_3.out BK192.out (by decide))); have n1_ := am_ (bg_ BK212 hg (Kd.R_ne HO_3.out BK212.out (by decide))); have n2_ := am_ (bg_ BK228 hg (Kd.R_ne HO_3.out BK228.out (by decide))); have n3_ := am_ (hb); have n4_ := am_ (ho); clear BK192; clear BK212; clear BK228; clear HB; clear HO_3; clear HO251; have BK192 := n0_; have BK212 := n1_; have BK228 := n2_; have HB := n3_; have HO254 := n4_; clear n0_ n1_ n2_ n3_ n4_; clear ho hb hg hat))
        go_roundg k3
        case measure => have := HK1.out; have := HK2.out; have := HK3.out; omega
        case rel => exact ⟨(y252), (wrap64 (x6_2 + 1)), er_, H', ⟨by have := HK1.out; have := HK2.out; have := HK3.out; omega⟩, ⟨rk_ HO254⟩, ⟨bk_ BK192⟩, ⟨bk_ BK212⟩, ⟨bl_⟩⟩
       replace H := itn_ H; rcases H with ⟨c45b0, H⟩
       replace H := bi_ H; rcases H with ⟨⟨t241, t242⟩, A46, H⟩
       replace H := iln_ H; rcases H with ⟨LMc47, H⟩
       obtain ⟨y245, hy245⟩ : ∃ y_ : List (S52), y_ = (x3_3 ++ [(⟨t241, t242⟩ : S52)]) := ⟨_, rfl⟩
       replace H : (F22.l2 k3 y245 x4_1 x6_2 (wrap64 (x8_3 + 1)) a0_0 a0_1 a0_2 l0_3 ((rd_T83 l0_3 x4_1).f0) ((rd_T83 l0_3 x4_1).f1) ((rd_T83 l0_3 x4_1).f2) ((rd_T85 ((rd_T83 l0_3 x4_1).f2) x6_2).f0) ((rd_T85 ((rd_T83 l0_3 x4_1).f2) x6_2).f1)) = some r := by first | (rw [hy245]; exact H) | exact H
       have Ny245 := am_ hy245
       clear hy245
       have H' := am_ H
       clear H
       have hnb48 := NB228_192.out
       have hnc48 := NB192_228.out
       have hnb49 := NB228_212.out
       have hnc49 := NB212_228.out
       obtain ⟨hcz50_0, hcz50_1, hfz50_0, hfz50_1⟩ := cellsF2 BK228.out
       have p240 : 0 ≤ (x8_3 : Int) := od_
       have q240 : x8_3 < (((rd_T85 ((rd_T83 l0_3 x4_1).f2) x6_2).f1).length : Int) := od_
       obtain ⟨ad240, A240_1, c240_1, e240, hx240_0, hx240_1, hl240_1, hi240_1⟩ := at_T52 HR227_1.out x8_3 p240 q240
       cases e240
       replace hx240_0 := (HB.out.cell (World.block_lt_of_cell? _ _ hx240_0)).trans hx240_0
       replace hx240_1 := (HB.out.cell (World.block_lt_of_cell? _ _ hx240_1)).trans hx240_1
       have HR240_1 := am_ hi240_1
       have HC240_1 := am_ hl240_1
       clear hi240_1 hl240_1
       replace p240 := eq_true p240
       replace q240 := eq_true q240
       go_wp2_with (first | (go_at_call 51; (with_reducible refine (F51.calls k3 ((rd_T52 ((rd_T85 ((rd_T83 l0_3 x4_1).f2) x6_2).f1) x8_3).f0) _ _ ((rd_T52 ((rd_T85 ((rd_T83 l0_3 x4_1).f2) x6_2).f1) x8_3).f1) t241 t242 _ ?s1 ?s2 A46.out).mono ?_); (case s1 => repeat (first | exact (Kd.C_below HR240_1.out HB.out) | (with_reducible refine Kd.C_alloc ?_ _) | (with_reducible refine Kd.C_drewN ?_ _) | (with_reducible refine Kd.C_drew ?_))); (case s2 => exact HC240_1.out); rintro e w51 ⟨v243, rfl, ho0, hb⟩; (try clear A46); replace HO_3 := am_ (Kd.R_elder' (rk_ HO_3) (Kd.S_base ho0) hb); have HO244 := am_ (Kd.S_lower ho0 (below_size bl_)); replace BK192 := bb_ BK192 hb; replace BK212 := bb_ BK212 hb; replace BK228 := bb_ BK228 hb; replace HB := hs_ w hb; (try clear hb); (try clear ho0); obtain ⟨Ao53, co53, eo53⟩ := Kd.S_slice HO244.out; subst eo53) | ((with_reducible refine gate_builtin (b := .append) (xs := #[.tmp 66, .tmp 73]) rfl ?_); at_builtin; refine Kd.R_append k52 (w0 := w) w.heap.size rfl (.tmp 66) (.tmp 73) 38 52 (.agg #[(.string ⟨#[]⟩), (.slice none 0 0)]) 40 rfl Tryd.underlying38 info52 rfl (by decide) (by omega) u3 x3_3 (⟨t241, t242⟩ : S52) [.string t241, .slice Ao53 t242.length co53] (fun _ => True) (fun k_ => ((fun _ => True)) k_ ∧ some k_ ≠ (u3 : Value).ownBlock) rfl rfl ?aP (fun _ hk => hk) ?aF ?aO ?aB ?aS ?aL ?_; (case aP => exact k52_mkM _ _ _ (⟨t241, t242⟩ : S52) (Kd.R_mono (Kd.R_apart' ((Kd.S_R HO244.out)) (Kd.R_typed HO_3.out) (by decide)) (fun k_ hk => ⟨trivial, hk.2⟩))); (case aB => exact bl_); (case aF => exact (fun _ _ => trivial)); (case aO => exact au2_1); (case aS => exact (below_size bl_)); (case aL => have := LMc47.out; omega); intro v246 w52 ho hb hg hat; rw [← Ny245.out] at ho; have n0_ := am_ (bg_ BK192 hg (Kd.R_ne HO_3.out BK192.out (by decide))); have n1_ := am_ (bg_ BK212 hg (Kd.R_ne HO_3.out BK212.out (by decide))); have n2_ := am_ (bg_ BK228 hg (Kd.R_ne HO_3.out BK228.out (by decide))); have n3_ := am_ (hb); have n4_ := am_ (ho); clear BK192; clear BK212; clear BK228; clear HB; clear HO_3; clear HO244; have BK192 := n0_; have BK212 := n1_; have BK228 := n2_; have HB := n3_; have HO247 := n4_; clear n0_ n1_ n2_ n3_ n4_; clear ho hb hg hat))
       go_roundg k3
       case measure => have := HK1.out; have := HK2.out; have := HK3.out; omega
       case rel => exact ⟨(y245), (wrap64 (x8_3 + 1)), er_, H', ⟨by have := HK1.out; have := HK2.out; have := HK3.out; omega⟩, ⟨rk_ HO247⟩, ⟨bk_ BK192⟩, ⟨bk_ BK212⟩, ⟨bk_ BK228⟩, ⟨bl_⟩⟩
/-! ### F7: function 7 -/
def F7.f (k : Nat) (a0_0 : ByteArray) (a0_1 : ByteArray) (a0_2 : Int) (l0_3 : List (S83)) : Option (Int) := (F22.f k a0_0 a0_1 a0_2 l0_3).bind fun t256 => (some (t256.length : Int))
theorem F7.mono : ∀ a0 a1 a2 a3 k, LeO (F7.f k a0 a1 a2 a3) (F7.f (k + 1) a0 a1 a2 a3) := by
 intro a0 a1 a2 a3 k
 unfold F7.f
 repeat' with_reducible first | exact F22.mono _ _ _ _ _ | exact LeO.refl _ | exact LeO.none _ | refine LeO.ite ?_ ?_ | refine LeO.bind ?_ (fun _ => ?_)
theorem F7.calls (k : Nat) (a0_0 : ByteArray) (a0_1 : ByteArray) (a0_2 : Int) (A0_3 : Option Addr) (c0_3 : Nat) (l0_3 : List (S83)) (r : Int) (w : World) (hr0_3 : Kd.C k83 w A0_3 l0_3.length l0_3) (hc0_3 : l0_3.length ≤ c0_3) (h : F7.f k a0_0 a0_1 a0_2 l0_3 = some r) :
  Calls Tryd.prog 7 #[.agg #[.string a0_0, .string a0_1, .int .i64 a0_2, .slice A0_3 l0_3.length c0_3]] w fun e w' => e = .returned (.int .i64 r) ∧ Below w.heap.size w w' := by
 have hu29 := Tryd.underlying29
 have HR0_3 := am_ hr0_3
 have HC0_3 := am_ hc0_3
 clear hr0_3 hc0_3
 have HB := am_ (Below.refl w.heap.size w)
 have H : ((F22.f k a0_0 a0_1 a0_2 l0_3).bind fun t256 => (some (t256.length : Int))) = some r := h
 clear h
 replace H := bi_ H; rcases H with ⟨t256, A2, H⟩
 obtain rfl := Option.some.inj H
 go_enter Tryd.func7, Tryd.ntmps7
 go_wp2_with (first | ((with_reducible refine gate_dst (N := 1) rfl ?_); refine be_ 1 #[.string a0_0, .string a0_1, .int .i64 a0_2, .slice A0_3 l0_3.length c0_3] 29 ?_; intro gb255 hg w3 hbox hb; have BK255 := am_ (hbox); have GW255 := am_ (gw_ hg bl_); have GE255 := GW255; replace HB := hs_ w hb; clear hb hbox hg; obtain ⟨hcz4_0, hcz4_1, hcz4_2, hcz4_3, hfz4_0, hfz4_1, hfz4_2, hfz4_3⟩ := cellsF4 BK255.out) | ((with_reducible refine gate_callee (f := 22) rfl ?_); refine gl_ 4 Tryd.func22 #[.agg #[.string a0_0, .string a0_1, .int .i64 a0_2, .slice A0_3 l0_3.length c0_3]] ?_ rfl rfl rfl rfl; (with_reducible refine (F22.calls k a0_0 a0_1 a0_2 _ _ l0_3 t256 _ ?s1 ?s2 A2.out).mono ?_); (case s1 => exact au2_3); (case s2 => exact HC0_3.out); rintro e w5 ⟨v257, rfl, ho0, hb⟩; refine ⟨_, rfl, ?_⟩; have HO258 := am_ (Kd.R_lower ho0 (below_size bl_)); replace BK255 := bb_ BK255 hb; replace HB := hs_ w hb; (try clear hb); (try clear ho0); obtain ⟨Ao6, co6, eo6⟩ := Kd.R_slice HO258.out; subst eo6))
 go_ret
 exact ⟨au2_0, bl_⟩

/-! ### F116: function 116 -/
def F116.l0 : Nat → List ByteArray → List ByteArray → Int → Option (List ByteArray)
  | 0, _, _, _ => none
  | k + 1, x0, x3, x4 => if x4 < (x0.length : Int) then (if 0 ≤ x4 then (if x4 < (x3.length : Int) then (F116.l0 k x0 (x3.set (x4 : Int).toNat (rdOf ByteArray.empty x0 x4)) (wrap64 (x4 + 1))) else (none)) else (none)) else (some x3)
def F116.f (k : Nat) (l0 : List ByteArray) : Option (List ByteArray) := if 0 ≤ (l0.length : Int) then (if ((l0.length : Int) : Int).toNat ≤ 17592186044416 then (F116.l0 k l0 (List.replicate ((l0.length : Int) : Int).toNat (⟨#[]⟩ : ByteArray)) 0) else (none)) else (none)
theorem F116.mono_l : ∀ k, (∀ y0 y1 y2, LeO (F116.l0 k y0 y1 y2) (F116.l0 (k + 1) y0 y1 y2))
 | 0 => fun _ _ _ r h => by simp [F116.l0] at h
 | k + 1 => by
  have ih0 := F116.mono_l k
  intro y0 y1 y2
  unfold F116.l0
  repeat' with_reducible first | exact ih0 _ _ _ | exact LeO.refl _ | exact LeO.none _ | refine LeO.ite ?_ ?_ | refine LeO.bind ?_ (fun _ => ?_)
theorem F116.mono : ∀ a0 k, LeO (F116.f k a0) (F116.f (k + 1) a0) := by
 intro a0 k
 have ih0 := F116.mono_l k
 unfold F116.f
 repeat' with_reducible first | exact ih0 _ _ _ | exact LeO.refl _ | exact LeO.none _ | refine LeO.ite ?_ ?_ | refine LeO.bind ?_ (fun _ => ?_)
theorem F116.calls (k : Nat) (A0 : Option Addr) (c0 : Nat) (l0 : List ByteArray) (r : List ByteArray) (w : World) (hr0 : Kd.C Kd.string w A0 l0.length l0) (hc0 : l0.length ≤ c0) (h : F116.f k l0 = some r) :
  Calls Tryd.prog 116 #[.slice A0 l0.length c0] w fun e w' => ∃ v0_ : Value, e = .returned (v0_) ∧ Kd.R Kd.string 9 w' w.heap.size (fun _ => True) v0_ r ∧ Below w.heap.size w w' := by
 have HR0 := am_ hr0
 have HC0 := am_ hc0
 clear hr0 hc0
 have HB := am_ (Below.refl w.heap.size w)
 have H : (if 0 ≤ (l0.length : Int) then (if ((l0.length : Int) : Int).toNat ≤ 17592186044416 then (F116.l0 k l0 (List.replicate ((l0.length : Int) : Int).toNat (⟨#[]⟩ : ByteArray)) 0) else (none)) else (none)) = some r := h
 clear h
 by_cases c2 : 0 ≤ (l0.length : Int)
 rotate_left
 ·rw [if_neg c2] at H
  exact absurd H (by simp)

 rw [if_pos c2] at H
 have c2b0 := eq_true c2
 have c2b1 : decide (0 ≤ (l0.length : Int)) = true := decide_eq_true c2
 clear c2
 by_cases c3 : ((l0.length : Int) : Int).toNat ≤ 17592186044416
 rotate_left
 ·rw [if_neg c3] at H
  exact absurd H (by simp)
 rw [if_pos c3] at H
 have c3b0 := eq_true c3
 have c3b1 : decide (((l0.length : Int) : Int).toNat ≤ 17592186044416) = true := decide_eq_true c3
 clear c3
 obtain ⟨y259, hy259⟩ : ∃ y_ : List ByteArray, y_ = (List.replicate ((l0.length : Int) : Int).toNat (⟨#[]⟩ : ByteArray)) := ⟨_, rfl⟩
 replace H : (F116.l0 k l0 y259 0) = some r := by first | (rw [hy259]; exact H) | exact H
 have Ny259 := am_ hy259
 clear hy259
 have H' := am_ H
 clear H
 go_enter Tryd.func116, Tryd.ntmps116
 go_wp2_with (first | ((with_reducible refine gate_dst (N := 7) rfl ?_); refine Kd.R_make Kd.string _ 9 rfl (N := 7) rfl 53 _ _ rfl (l0.length : Int) rfl rfl Tryd.underlying53 (.string ⟨#[]⟩) 16 info9 rfl (by decide) (by omega) (⟨#[]⟩ : ByteArray) (ok := fun _ => True) (okp := fun _ => True) rfl (fun _ hk => hk) trivial (of_decide_eq_true as_) (Nat.le_trans (Nat.mul_le_mul_right _ (of_decide_eq_true as_ : (l0.length : Int).toNat ≤ 17592186044416)) (by omega)) (Below.refl _ _) (Nat.le_refl _) ?_; intro v260 w4 ho5 hb hg_ hnew_; clear hg_ hnew_; (first | rw [← Ny259.out] at ho5 | (simp only [Int.reduceToNat] at ho5; rw [← Ny259.out] at ho5)); have HO261 := am_ (Kd.R_lower ho5 (below_size bl_)); replace HB := hs_ w hb; clear hb ho5))
 go_loopg [4] k (fun kq v4 w' => ∃ (x3_1 : List ByteArray) (x4_1 : Int), v4 = .int .i64 x4_1 ∧ Aside0 (F116.l0 kq l0 x3_1 x4_1 = some r) ∧ Aside0 (kq ≤ k) ∧ Aside0 (Kd.R Kd.string 9 w' w.heap.size (fun _ => True) v260 x3_1) ∧ Aside0 (Below w.heap.size w w'))
 case atStart => exact ⟨(y259), (0), er_, H', ⟨Nat.le_refl _⟩, ⟨rk_ HO261⟩, ⟨bl_⟩⟩
 case round =>
  clear H'
  try clear c2
  try clear c2b0
  try clear c2b1
  try clear c3
  try clear c3b0
  try clear c3b1
  obtain ⟨x3_1, x4_1, rfl, HA, HK1, HO_3, HB⟩ := hrel
  cases gk with
  | zero => exact absurd HA.out (by simp [F116.l0])
  | succ k1 =>
   have H := HA.out
   clear HA
   simp only [F116.l0] at H
   replace H := it_ H; rcases H with ⟨c6b0, H⟩ | ⟨c6b0, H⟩
   rotate_left
   ·obtain rfl := Option.some.inj H
    go_wp2
    go_ret
    exact ⟨_, au2_0, rk_ HO_3, bl_⟩
   replace H := itn_ H; rcases H with ⟨c7b0, H⟩
   replace H := itn_ H; rcases H with ⟨c8b0, H⟩
   obtain ⟨y263, hy263⟩ : ∃ y_ : List ByteArray, y_ = (x3_1.set (x4_1 : Int).toNat (rdOf ByteArray.empty l0 x4_1)) := ⟨_, rfl⟩
   replace H : (F116.l0 k1 l0 y263 (wrap64 (x4_1 + 1))) = some r := by first | (rw [hy263]; exact H) | exact H
   have Ny263 := am_ hy263
   clear hy263
   have H' := am_ H
   clear H
   have p262 : 0 ≤ (x4_1 : Int) := od_
   have q262 : x4_1 < (l0.length : Int) := od_
   obtain ⟨ad262, e262, hx262_0⟩ := Kd.at_string HR0.out x4_1 p262 q262
   cases e262
   replace hx262_0 := (HB.out.cell (World.block_lt_of_cell? _ _ hx262_0)).trans hx262_0
   replace p262 := eq_true p262
   replace q262 := eq_true q262
   have p9 : 0 ≤ (x4_1 : Int) := od_
   have q9 : (x4_1 : Int) < ((x3_1.length : Int) : Int) := od_
   obtain ⟨go9, co9, eo9, gb9, gl9, cl9, HG9⟩ := Kd.R_form HO_3.out (by omega)
   (first | cases eo9 | (injection eo9 with ea_ en_ ec_; (first | subst ea_ | (injection ea_ with ea_; subst ea_)); subst ec_; clear en_))
   have GB9 := am_ gb9
   have GG9 := am_ HG9
   clear gb9 gl9 HG9
   obtain ⟨hx9_0, hf9_0⟩ := Kd.R_celln (⟨#[]⟩ : ByteArray) HO_3.out (x4_1 : Int) p9 q9
   replace p9 := eq_true p9
   replace q9 := eq_true q9
   have HP10 := Kd.R_putg HO_3.out (x4_1 : Int) (rdOf ByteArray.empty l0 x4_1)
   go_wp2_with (first | ((with_reducible refine gate_store (t := 9) (p := 20) rfl ?_); refine store_event (t := 9) (p := 20) (v := ?vo_w11) (w1 := (wr.setCell ⟨go9, (x4_1 : Int).toNat, none⟩ (.string (rdOf ByteArray.empty l0 x4_1)))) ?hg ?ho ?hn ?hr ?_; (case ho => rfl); (case hg => rfl); (case hn => rfl); (case hr => exact hr_); intro w11 hw; have hg : wr.grownBy w11 (some go9) := (by rw [hw]; exact HP10.2); have hp_ : Kd.R Kd.string 9 w11 w.heap.size (fun _ => True) (.slice (some ⟨go9, 0, none⟩) x3_1.length co9) y263 := (by rw [hw, Ny263.out]; exact HP10.1); clear HP10; replace HO_3 := am_ (hp_); replace HB := am_ ((by rw [hw]; exact below_set (HB.out) GB9.out : Below w.heap.size w w11)); clear hg hw hp_))
   go_roundg k1
   case measure => have := HK1.out; omega
   case rel => exact ⟨(y263), (wrap64 (x4_1 + 1)), er_, H', ⟨by have := HK1.out; omega⟩, ⟨rk_ HO_3⟩, ⟨bl_⟩⟩
/-! ### F92: function 92 -/
def F92.f (k : Nat) (l0_0 : List ByteArray) : Option (List ByteArray) := (F116.f k l0_0).bind fun t267 => (some t267)
theorem F92.mono : ∀ a0 k, LeO (F92.f k a0) (F92.f (k + 1) a0) := by
 intro a0 k
 unfold F92.f
 repeat' with_reducible first | exact F116.mono _ _ | exact LeO.refl _ | exact LeO.none _ | refine LeO.ite ?_ ?_ | refine LeO.bind ?_ (fun _ => ?_)
theorem F92.calls (k : Nat) (A0_0 : Option Addr) (c0_0 : Nat) (l0_0 : List ByteArray) (r : List ByteArray) (w : World) (hr0_0 : Kd.C Kd.string w A0_0 l0_0.length l0_0) (hc0_0 : l0_0.length ≤ c0_0) (h : F92.f k l0_0 = some r) :
  Calls Tryd.prog 92 #[.agg #[.slice A0_0 l0_0.length c0_0]] w fun e w' => ∃ v0_ : Value, e = .returned (.agg #[v0_]) ∧ Kd.R Kd.string 9 w' w.heap.size (fun _ => True) v0_ r ∧ Below w.heap.size w w' := by
 have hu129 := Tryd.underlying129
 have hu55 := Tryd.underlying55
 have HR0_0 := am_ hr0_0
 have HC0_0 := am_ hc0_0
 clear hr0_0 hc0_0
 have HB := am_ (Below.refl w.heap.size w)
 have H : ((F116.f k l0_0).bind fun t267 => (some t267)) = some r := h
 clear h
 replace H := bi_ H; rcases H with ⟨t267, A2, H⟩
 obtain rfl := Option.some.inj H
 go_enter Tryd.func92, Tryd.ntmps92
 go_wp2_with (first | ((with_reducible refine gate_dst (N := 1) rfl ?_); refine be_ 1 #[.slice A0_0 l0_0.length c0_0] 129 ?_; intro gb264 hg w3 hbox hb; have BK264 := am_ (hbox); have GW264 := am_ (gw_ hg bl_); have GE264 := GW264; replace HB := hs_ w hb; clear hb hbox hg) | ((with_reducible refine gate_dst (N := 2) rfl ?_); refine be_ 2 #[.slice none 0 0] 55 ?_; intro gb265 hg w4 hbox hb; have BK265 := am_ (hbox); have GW265 := am_ (gw_ hg bl_); have GE265 := GW265; replace HB := hs_ w hb; have NB264_265 := am_ (gn_ hg (blkl_ BK264)); have NB265_264 := am_ (gm_ hg (blkl_ BK264)); replace BK264 := bb_ BK264 hb; clear hb hbox hg) | ((with_reducible refine gate_dst (N := 3) rfl ?_); refine be_ 3 #[.slice none 0 0] 55 ?_; intro gb266 hg w5 hbox hb; have BK266 := am_ (hbox); have GW266 := am_ (gw_ hg bl_); have GE266 := GW266; replace HB := hs_ w hb; have NB264_266 := am_ (gn_ hg (blkl_ BK264)); have NB266_264 := am_ (gm_ hg (blkl_ BK264)); replace BK264 := bb_ BK264 hb; have NB265_266 := am_ (gn_ hg (blkl_ BK265)); have NB266_265 := am_ (gm_ hg (blkl_ BK265)); replace BK265 := bb_ BK265 hb; clear hb hbox hg; have hnb6 := NB264_265.out; have hnc6 := NB265_264.out; have hnb7 := NB264_266.out; have hnc7 := NB266_264.out; have hcz8_0 : w5.cell? ⟨gb264, 0, none⟩ = some (.slice A0_0 l0_0.length c0_0) := (blk_cell BK264.out 0).trans rfl; have hfz8_0 := blk_frozen BK264.out 0) | ((with_reducible refine gate_callee (f := 116) rfl ?_); refine gl_ 6 Tryd.func116 #[.slice A0_0 l0_0.length c0_0] ?_ rfl rfl rfl rfl; (with_reducible refine (F116.calls k _ _ l0_0 t267 _ ?s1 ?s2 A2.out).mono ?_); (case s1 => repeat (first | exact (Kd.C_below HR0_0.out HB.out) | (with_reducible refine Kd.C_alloc ?_ _) | (with_reducible refine Kd.C_drewN ?_ _) | (with_reducible refine Kd.C_drew ?_))); (case s2 => exact HC0_0.out); rintro e w9 ⟨v268, rfl, ho0, hb⟩; refine ⟨_, rfl, ?_⟩; have HO269 := am_ (Kd.R_lower ho0 (below_size bl_)); replace BK264 := bb_ BK264 hb; replace BK265 := bb_ BK265 hb; replace BK266 := bb_ BK266 hb; replace HB := hs_ w hb; (try clear hb); (try clear ho0); obtain ⟨Ao10, co10, eo10⟩ := Kd.R_slice HO269.out; subst eo10; have hnb11 := NB266_265.out; have hnc11 := NB265_266.out; have hcz12_0 : w9.cell? ⟨gb266, 0, none⟩ = some (.slice none 0 0) := (blk_cell BK266.out 0).trans rfl; have hfz12_0 := blk_frozen BK266.out 0; have hcz13_0 : w9.cell? ⟨gb265, 0, none⟩ = some (.slice none 0 0) := (blk_cell BK265.out 0).trans rfl; have hfz13_0 := blk_frozen BK265.out 0))
 refine bodyPost_ret (results_cell_row rfl _ _ gb265 55 #[.slice Ao10 t267.length co10] (0, 0) _ rfl (bq_ BK265) Tryd.underlying55 rfl (by kernel_rfl)) rfl ?_
 exact ⟨_, au2_0, by (with_reducible repeat (first | apply Kd.R_alloc | apply Kd.R_drewN | apply Kd.R_drew)); exact Kd.R_mono (Kd.R_far (p := ⟨gb265, 0, none⟩) (Kd.R_far (p := ⟨gb266, 0, none⟩) (Kd.R_types (Kd.R_types HO269.out BK266.out (by decide)) BK265.out (by decide)) (fun _ hk => hk.1.2) (.slice Ao10 t267.length co10)) (fun _ hk => hk.2) (.slice Ao10 t267.length co10)) (fun _ hk => trivial), bl_⟩

/-! ### F59: function 59 -/
def F59.l0 : Nat → List (S129) → List (S55) → Int → Option ((List (S55)))
  | 0, _, _, _ => none
  | k + 1, x0, x3, x4 => if x4 < (x0.length : Int) then (if 0 ≤ x4 then ((F92.f k ((rd_T129 x0 x4).f0)).bind fun t274 => (if x4 < (x3.length : Int) then (F59.l0 k x0 (x3.set (x4 : Int).toNat (⟨t274⟩ : S55)) (wrap64 (x4 + 1))) else (none))) else (none)) else (some x3)
def F59.f (k : Nat) (l0 : List (S129)) : Option ((List (S55))) := if 0 ≤ (l0.length : Int) then (if ((l0.length : Int) : Int).toNat ≤ 11728124029610 then (F59.l0 k l0 (List.replicate ((l0.length : Int) : Int).toNat z55) 0) else (none)) else (none)
theorem F59.mono_l : ∀ k, (∀ y0 y1 y2, LeO (F59.l0 k y0 y1 y2) (F59.l0 (k + 1) y0 y1 y2))
 | 0 => fun _ _ _ r h => by simp [F59.l0] at h
 | k + 1 => by
  have ih0 := F59.mono_l k
  intro y0 y1 y2
  unfold F59.l0
  repeat' with_reducible first | exact ih0 _ _ _ | exact F92.mono _ _ | exact LeO.refl _ | exact LeO.none _ | refine LeO.ite ?_ ?_ | refine LeO.bind ?_ (fun _ => ?_)
theorem F59.mono : ∀ a0 k, LeO (F59.f k a0) (F59.f (k + 1) a0) := by
 intro a0 k
 have ih0 := F59.mono_l k
 unfold F59.f
 repeat' with_reducible first | exact ih0 _ _ _ | exact F92.mono _ _ | exact LeO.refl _ | exact LeO.none _ | refine LeO.ite ?_ ?_ | refine LeO.bind ?_ (fun _ => ?_)
theorem F59.calls (k : Nat) (A0 : Option Addr) (c0 : Nat) (l0 : List (S129)) (r : List (S55)) (w : World) (hr0 : Kd.C k129 w A0 l0.length l0) (hc0 : l0.length ≤ c0) (h : F59.f k l0 = some r) :
  Calls Tryd.prog 59 #[.slice A0 l0.length c0] w fun e w' => ∃ v0_ : Value, e = .returned (v0_) ∧ Kd.S k55 55 w' w.heap.size (fun _ => True) v0_ r ∧ Below w.heap.size w w' := by
 have hu129 := Tryd.underlying129
 have hu55 := Tryd.underlying55
 have HR0 := am_ hr0
 have HC0 := am_ hc0
 clear hr0 hc0
 have HB := am_ (Below.refl w.heap.size w)
 have H : (if 0 ≤ (l0.length : Int) then (if ((l0.length : Int) : Int).toNat ≤ 11728124029610 then (F59.l0 k l0 (List.replicate ((l0.length : Int) : Int).toNat z55) 0) else (none)) else (none)) = some r := h
 clear h
 by_cases c2 : 0 ≤ (l0.length : Int)
 rotate_left
 ·rw [if_neg c2] at H
  exact absurd H (by simp)

 rw [if_pos c2] at H
 have c2b0 := eq_true c2
 have c2b1 : decide (0 ≤ (l0.length : Int)) = true := decide_eq_true c2
 clear c2
 by_cases c3 : ((l0.length : Int) : Int).toNat ≤ 11728124029610
 rotate_left
 ·rw [if_neg c3] at H
  exact absurd H (by simp)
 rw [if_pos c3] at H
 have c3b0 := eq_true c3
 have c3b1 : decide (((l0.length : Int) : Int).toNat ≤ 11728124029610) = true := decide_eq_true c3
 clear c3
 obtain ⟨y270, hy270⟩ : ∃ y_ : List (S55), y_ = (List.replicate ((l0.length : Int) : Int).toNat z55) := ⟨_, rfl⟩
 replace H : (F59.l0 k l0 y270 0) = some r := by first | (rw [hy270]; exact H) | exact H
 have Ny270 := am_ hy270
 clear hy270
 have H' := am_ H
 clear H
 go_enter Tryd.func59, Tryd.ntmps59
 go_wp2_with (first | ((with_reducible refine gate_dst (N := 7) rfl ?_); refine Kd.S_make k55 _ 55 rfl (N := 7) rfl 50 _ _ rfl (l0.length : Int) rfl rfl Tryd.underlying50 (.agg #[(.slice none 0 0)]) 24 info55 rfl (by decide) (by omega) z55 (ok := fun _ => True) (okp := fun _ => True) (k55_mkM _ _ _ z55 (Kd.R_nil _ _ _ _ _)) (fun _ hk => hk) trivial (of_decide_eq_true as_) (Nat.le_trans (Nat.mul_le_mul_right _ (of_decide_eq_true as_ : (l0.length : Int).toNat ≤ 11728124029610)) (by omega)) (Below.refl _ _) (Nat.le_refl _) ?_; intro v271 w4 ho5 hb hg_ hnew_; clear hg_ hnew_; (first | rw [← Ny270.out] at ho5 | (simp only [Int.reduceToNat] at ho5; rw [← Ny270.out] at ho5)); have HO272 := am_ (Kd.S_lower ho5 (below_size bl_)); replace HB := hs_ w hb; clear hb ho5))
 go_loopg [4] k (fun kq v4 w' => ∃ (x3_1 : List (S55)) (x4_1 : Int), v4 = .int .i64 x4_1 ∧ Aside0 (F59.l0 kq l0 x3_1 x4_1 = some r) ∧ Aside0 (kq ≤ k) ∧ Aside0 (Kd.S k55 55 w' w.heap.size (fun _ => True) v271 x3_1) ∧ Aside0 (Below w.heap.size w w'))
 case atStart => exact ⟨(y270), (0), er_, H', ⟨Nat.le_refl _⟩, ⟨by (with_reducible repeat (first | apply Kd.S_alloc | apply Kd.S_drewN | apply Kd.S_drew)); exact HO272.out⟩, ⟨bl_⟩⟩
 case round =>
  clear H'
  try clear c2
  try clear c2b0
  try clear c2b1
  try clear c3
  try clear c3b0
  try clear c3b1
  obtain ⟨x3_1, x4_1, rfl, HA, HK1, HO_3, HB⟩ := hrel
  cases gk with
  | zero => exact absurd HA.out (by simp [F59.l0])
  | succ k1 =>
   have H := HA.out
   clear HA
   simp only [F59.l0] at H
   replace H := it_ H; rcases H with ⟨c6b0, H⟩ | ⟨c6b0, H⟩
   rotate_left
   ·obtain rfl := Option.some.inj H
    go_wp2
    go_ret
    exact ⟨_, au2_0, au2_9, bl_⟩
   replace H := itn_ H; rcases H with ⟨c7b0, H⟩
   replace H := bi_ H; rcases H with ⟨t274, A8, H⟩
   replace H := itn_ H; rcases H with ⟨c9b0, H⟩
   obtain ⟨y277, hy277⟩ : ∃ y_ : List (S55), y_ = (x3_1.set (x4_1 : Int).toNat (⟨t274⟩ : S55)) := ⟨_, rfl⟩
   replace H : (F59.l0 k1 l0 y277 (wrap64 (x4_1 + 1))) = some r := by first | (rw [hy277]; exact H) | exact H
   have Ny277 := am_ hy277
   clear hy277
   have H' := am_ H
   clear H
   have p273 : 0 ≤ (x4_1 : Int) := od_
   have q273 : x4_1 < (l0.length : Int) := od_
   obtain ⟨ad273, A273_0, c273_0, e273, hx273_0, hl273_0, hi273_0⟩ := at_T129 HR0.out x4_1 p273 q273
   cases e273
   replace hx273_0 := (HB.out.cell (World.block_lt_of_cell? _ _ hx273_0)).trans hx273_0
   have HR273_0 := am_ hi273_0
   have HC273_0 := am_ hl273_0
   clear hi273_0 hl273_0
   replace p273 := eq_true p273
   replace q273 := eq_true q273
   go_wp2_with (first | ((with_reducible refine gate_callee (f := 92) rfl ?_); refine gl_ 20 Tryd.func92 #[.agg #[.slice A273_0 ((rd_T129 l0 x4_1).f0).length c273_0]] ?_ rfl rfl rfl rfl; (with_reducible refine (F92.calls k1 _ _ ((rd_T129 l0 x4_1).f0) t274 _ ?s1 ?s2 A8.out).mono ?_); (case s1 => repeat (first | exact (Kd.C_below HR273_0.out HB.out) | (with_reducible refine Kd.C_alloc ?_ _) | (with_reducible refine Kd.C_drewN ?_ _) | (with_reducible refine Kd.C_drew ?_))); (case s2 => exact HC273_0.out); rintro e w11 ⟨v275, rfl, ho0, hb⟩; refine ⟨_, rfl, ?_⟩; replace HO_3 := am_ (Kd.S_elder' (by (with_reducible repeat (first | apply Kd.S_alloc | apply Kd.S_drewN | apply Kd.S_drew)); exact HO_3.out) (Kd.R_base ho0) hb); have HO276 := am_ (Kd.R_lower ho0 (below_size bl_)); replace HB := hs_ w hb; (try clear hb); (try clear hb2); (try clear hk); (try clear hi); (try clear ho0); have p10 : 0 ≤ (x4_1 : Int) := od_; have q10 : (x4_1 : Int) < ((x3_1.length : Int) : Int) := od_; obtain ⟨go10, co10, eo10, gb10, gl10, cl10, HG10⟩ := Kd.S_form HO_3.out (by omega); (first | cases eo10 | (injection eo10 with ea_ en_ ec_; (first | subst ea_ | (injection ea_ with ea_; subst ea_)); subst ec_; clear en_)); have GB10 := am_ gb10; have GG10 := am_ HG10; clear gb10 gl10 HG10; obtain ⟨_, ce10, hcl10, hM10, hcc10, hfr10, _, _⟩ := Kd.S_elem HO_3.out z55 (x4_1 : Int) p10 q10; obtain ⟨ve10_0, rfl, ge10_0⟩ := k55_openM hM10; have hx10_0 := hcc10 0 _ rfl; have hf10_0 := hfr10 0; (try simp only [show (k55).sz = 1 from rfl, Nat.mul_one, Nat.add_zero] at hx10_0); (try simp only [show (k55).sz = 1 from rfl, Nat.mul_one, Nat.add_zero] at hf10_0); clear hcl10 hcc10 hfr10 hM10; replace p10 := eq_true p10; replace q10 := eq_true q10; obtain ⟨Ao12, co12, eo12⟩ := Kd.R_slice HO276.out; subst eo12; have n_ := am_ (Kd.S_mono (ok' := (fun k_ => some k_ ≠ (.slice Ao12 t274.length co12 : Value).ownBlock)) HO_3.out (fun k_ hk => hk.2)); clear HO_3; have HO_3 := n_; clear n_; have HX13 := am_ (show Kd.S k55 55 w11 w.heap.size (fun k_ => ((fun _ => True)) k_ ∧ ¬ ((fun k_ => some k_ = (.slice Ao12 t274.length co12 : Value).ownBlock)) k_) (.slice (some ⟨go10, 0, none⟩) x3_1.length co10) x3_1 from (by (with_reducible repeat (first | apply Kd.S_alloc | apply Kd.S_drewN | apply Kd.S_drew)); exact Kd.S_mono HO_3.out (fun k_ hk => ⟨trivial, fun e_ => hk e_⟩))); obtain ⟨oki13, ce13, hcl13, hM13, hcc13, hfr13, hoki13, hH13⟩ := Kd.S_elem HX13.out z55 (x4_1 : Int) (of_decide_eq_true as_) (by have h_ : (x4_1 : Int) < ((x3_1.length : Int) : Int) := od_; first | exact h_ | (have e_ := (Kd.S_reads' HO_3.out).1; omega) | simpa using h_); obtain ⟨ve13_0, rfl, ge13_0⟩ := k55_openM hM13; have HP13 := Kd.S_seg hH13 (of_decide_eq_true as_) (by have h_ : (x4_1 : Int) < ((x3_1.length : Int) : Int) := od_; first | exact h_ | (have e_ := (Kd.S_reads' HO_3.out).1; omega) | simpa using h_) (seg := [.slice Ao12 t274.length co12]) (j := 0) (show 1 ≤ 1 from by decide) (x' := (⟨t274⟩ : S55)) (k55_mkM _ _ _ (⟨t274⟩ : S55) (Kd.R_mono (Kd.R_tight rfl (Kd.R_mono (ok' := fun k_ => ((fun _ => True)) k_ ∧ k_ ≠ go10) (Kd.R_apart' (HO276.out) (Kd.S_typed HO_3.out) (by decide)) (fun k_ hk => ⟨trivial, fun e_ => (hk.2) (by rw [e_]; rfl)⟩))) (fun _ h_ => Or.inr (h_)))) (fun _ hk => hk) (fun k_ hk_ => ((Kd.R_mono (ok' := fun k_ => ((fun _ => True)) k_ ∧ k_ ≠ go10) (Kd.R_apart' (HO276.out) (Kd.S_typed HO_3.out) (by decide)) (fun k_ hk => ⟨trivial, fun e_ => (hk.2) (by rw [e_]; rfl)⟩))).1 k_ hk_.symm); have hx13_0 := hcc13 0 _ rfl; (try simp only [show (k55).sz = 1 from rfl, Nat.mul_one, Nat.add_zero] at hx13_0); have hf13_0 := hfr13 0; (try simp only [show (k55).sz = 1 from rfl, Nat.mul_one, Nat.add_zero] at hf13_0); clear hcl13 hcc13 hfr13 hM13 hoki13 hH13; (try simp only [show (k55).sz = 1 from rfl, Nat.mul_one, Nat.add_zero] at HP13)) | ((with_reducible refine gate_store (t := 55) (p := 21) rfl ?_); refine store_event (t := 55) (p := 21) (v := ?vo_w14) (w1 := (w11.setCell ⟨go10, (x4_1 : Int).toNat, none⟩ (.slice Ao12 t274.length co12))) ?hg ?ho ?hn ?hr ?_; (case ho => rfl); (case hg => rfl); (case hn => rfl); (case hr => exact hr_); intro w14 hw; have hg : w11.grownBy w14 (some go10) := (by rw [hw]; exact HP13.2); have hp_ : Kd.S k55 55 w14 w.heap.size (fun _ => True) (.slice (some ⟨go10, 0, none⟩) x3_1.length co10) y277 := (by rw [hw, Ny277.out]; exact HP13.1); clear HP13; have n0_ := am_ (hp_); have n1_ := am_ ((by rw [hw]; exact below_set (HB.out) GB10.out : Below w.heap.size w w14)); clear HO_3; clear HB; clear HO276; have HO_3 := n0_; have HB := n1_; clear n0_ n1_; clear hg hw hp_))
   go_roundg k1
   case measure => have := HK1.out; omega
   case rel => exact ⟨(y277), (wrap64 (x4_1 + 1)), er_, H', ⟨by have := HK1.out; omega⟩, ⟨au2_9⟩, ⟨bl_⟩⟩
/-! ### F36: function 36 -/
def F36.f (k : Nat) (a0_0 : ByteArray) (l0_1 : List (S129)) : Option (ByteArray × (List (S55))) := (F59.f k l0_1).bind fun t281 => (some (a0_0, t281))
theorem F36.mono : ∀ a0 a1 k, LeO (F36.f k a0 a1) (F36.f (k + 1) a0 a1) := by
 intro a0 a1 k
 unfold F36.f
 repeat' with_reducible first | exact F59.mono _ _ | exact LeO.refl _ | exact LeO.none _ | refine LeO.ite ?_ ?_ | refine LeO.bind ?_ (fun _ => ?_)
theorem F36.calls (k : Nat) (a0_0 : ByteArray) (A0_1 : Option Addr) (c0_1 : Nat) (l0_1 : List (S129)) (r1 : ByteArray) (r2 : List (S55)) (w : World) (hr0_1 : Kd.C k129 w A0_1 l0_1.length l0_1) (hc0_1 : l0_1.length ≤ c0_1) (h : F36.f k a0_0 l0_1 = some (r1, r2)) :
  Calls Tryd.prog 36 #[.agg #[.string a0_0, .slice A0_1 l0_1.length c0_1]] w fun e w' => ∃ v1_ : Value, e = .returned (.agg #[.string r1, v1_]) ∧ Kd.S k55 55 w' w.heap.size (fun _ => True) v1_ r2 ∧ Below w.heap.size w w' := by
 have hu63 := Tryd.underlying63
 have hu52 := Tryd.underlying52
 have HR0_1 := am_ hr0_1
 have HC0_1 := am_ hc0_1
 clear hr0_1 hc0_1
 have HB := am_ (Below.refl w.heap.size w)
 have H : ((F59.f k l0_1).bind fun t281 => (some (a0_0, t281))) = some (r1, r2) := h
 clear h
 replace H := bi_ H; rcases H with ⟨t281, A2, H⟩
 simp only [Option.some.injEq, Prod.mk.injEq] at H
 obtain ⟨rfl, rfl⟩ := H
 go_enter Tryd.func36, Tryd.ntmps36
 go_wp2_with (first | ((with_reducible refine gate_dst (N := 1) rfl ?_); refine be_ 1 #[.string a0_0, .slice A0_1 l0_1.length c0_1] 63 ?_; intro gb278 hg w3 hbox hb; have BK278 := am_ (hbox); have GW278 := am_ (gw_ hg bl_); have GE278 := GW278; replace HB := hs_ w hb; clear hb hbox hg) | ((with_reducible refine gate_dst (N := 2) rfl ?_); refine be_ 2 #[.string (⟨#[]⟩ : ByteArray), .slice none 0 0] 52 ?_; intro gb279 hg w4 hbox hb; have BK279 := am_ (hbox); have GW279 := am_ (gw_ hg bl_); have GE279 := GW279; replace HB := hs_ w hb; have NB278_279 := am_ (gn_ hg (blkl_ BK278)); have NB279_278 := am_ (gm_ hg (blkl_ BK278)); replace BK278 := bb_ BK278 hb; clear hb hbox hg) | ((with_reducible refine gate_dst (N := 3) rfl ?_); refine be_ 3 #[.string (⟨#[]⟩ : ByteArray), .slice none 0 0] 52 ?_; intro gb280 hg w5 hbox hb; have BK280 := am_ (hbox); have GW280 := am_ (gw_ hg bl_); have GE280 := GW280; replace HB := hs_ w hb; have NB278_280 := am_ (gn_ hg (blkl_ BK278)); have NB280_278 := am_ (gm_ hg (blkl_ BK278)); replace BK278 := bb_ BK278 hb; have NB279_280 := am_ (gn_ hg (blkl_ BK279)); have NB280_279 := am_ (gm_ hg (blkl_ BK279)); replace BK279 := bb_ BK279 hb; clear hb hbox hg; have hnb6 := NB278_279.out; have hnc6 := NB279_278.out; have hnb7 := NB278_280.out; have hnc7 := NB280_278.out; obtain ⟨hcz8_0, hcz8_1, hfz8_0, hfz8_1⟩ := cellsF2 BK278.out; have hnb9 := NB280_279.out; have hnc9 := NB279_280.out; obtain ⟨hcz10_0, hcz10_1, hfz10_0, hfz10_1⟩ := cellsF2 BK280.out) | ((with_reducible refine gate_callee (f := 59) rfl ?_); refine gl_ 9 Tryd.func59 #[.slice A0_1 l0_1.length c0_1] ?_ rfl rfl rfl rfl; (with_reducible refine (F59.calls k _ _ l0_1 t281 _ ?s1 ?s2 A2.out).mono ?_); (case s1 => exact Kd.C_below HR0_1.out bl_); (case s2 => exact HC0_1.out); rintro e w11 ⟨v282, rfl, ho0, hb⟩; refine ⟨_, rfl, ?_⟩; have HO283 := am_ (Kd.S_lower ho0 (below_size bl_)); replace BK278 := am_ (blk_below (g := gb278) (o := .cells #[.string a0_0, .slice A0_1 l0_1.length c0_1] 63 (0, 0)) (bf_ BK278) hb); replace BK279 := am_ (blk_below (g := gb279) (o := .cells #[.string (⟨#[]⟩ : ByteArray), .slice none 0 0] 52 (0, 0)) (bf_ BK279) hb); replace BK280 := am_ (blk_below (g := gb280) (o := .cells #[.string a0_0, .slice none 0 0] 52 (0, 0)) (bq_ BK280) hb); replace HB := hs_ w hb; (try clear hb); (try clear ho0); obtain ⟨Ao12, co12, eo12⟩ := Kd.S_slice HO283.out; subst eo12; obtain ⟨hcz13_0, hcz13_1, hfz13_0, hfz13_1⟩ := cellsF2 BK280.out; obtain ⟨hcz14_0, hcz14_1, hfz14_0, hfz14_1⟩ := cellsF2 BK279.out))
 refine bodyPost_ret (results_cell_row rfl _ _ gb279 52 #[.string a0_0, .slice Ao12 t281.length co12] (0, 0) _ rfl (bq_ BK279) Tryd.underlying52 rfl (by kernel_rfl)) rfl ?_
 exact ⟨_, au2_0, by (with_reducible repeat (first | apply Kd.S_alloc | apply Kd.S_drewN | apply Kd.S_drew)); exact Kd.S_mono (Kd.S_far (p := ⟨gb279, 1, none⟩) (Kd.S_far (p := ⟨gb279, 0, none⟩) (Kd.S_far (p := ⟨gb280, 1, none⟩) (Kd.S_types (Kd.S_types HO283.out BK280.out (by decide)) BK279.out (by decide)) (fun _ hk => hk.1.2) (.slice Ao12 t281.length co12)) (fun _ hk => hk.2) (.string a0_0)) (fun _ hk => hk.2) (.slice Ao12 t281.length co12)) (fun _ hk => trivial), bl_⟩

/-! ### F13: function 13 -/
def F13.l0 : Nat → List (S63) → List (S52) → Int → Option ((List (S52)))
  | 0, _, _, _ => none
  | k + 1, x0, x3, x4 => if x4 < (x0.length : Int) then (if 0 ≤ x4 then ((F36.f k ((rd_T63 x0 x4).f0) ((rd_T63 x0 x4).f1)).bind fun bt288 => (if x4 < (x3.length : Int) then (F13.l0 k x0 (x3.set (x4 : Int).toNat (⟨bt288.1, bt288.2⟩ : S52)) (wrap64 (x4 + 1))) else (none))) else (none)) else (some x3)
def F13.f (k : Nat) (l0 : List (S63)) : Option ((List (S52))) := if 0 ≤ (l0.length : Int) then (if ((l0.length : Int) : Int).toNat ≤ 7036874417766 then (F13.l0 k l0 (List.replicate ((l0.length : Int) : Int).toNat z52) 0) else (none)) else (none)
theorem F13.mono_l : ∀ k, (∀ y0 y1 y2, LeO (F13.l0 k y0 y1 y2) (F13.l0 (k + 1) y0 y1 y2))
 | 0 => fun _ _ _ r h => by simp [F13.l0] at h
 | k + 1 => by
  have ih0 := F13.mono_l k
  intro y0 y1 y2
  unfold F13.l0
  repeat' with_reducible first | exact ih0 _ _ _ | exact F36.mono _ _ _ | exact LeO.refl _ | exact LeO.none _ | refine LeO.ite ?_ ?_ | refine LeO.bind ?_ (fun _ => ?_)
theorem F13.mono : ∀ a0 k, LeO (F13.f k a0) (F13.f (k + 1) a0) := by
 intro a0 k
 have ih0 := F13.mono_l k
 unfold F13.f
 repeat' with_reducible first | exact ih0 _ _ _ | exact F36.mono _ _ _ | exact LeO.refl _ | exact LeO.none _ | refine LeO.ite ?_ ?_ | refine LeO.bind ?_ (fun _ => ?_)
theorem F13.calls (k : Nat) (A0 : Option Addr) (c0 : Nat) (l0 : List (S63)) (r : List (S52)) (w : World) (hr0 : Kd.C k63 w A0 l0.length l0) (hc0 : l0.length ≤ c0) (h : F13.f k l0 = some r) :
  Calls Tryd.prog 13 #[.slice A0 l0.length c0] w fun e w' => ∃ v0_ : Value, e = .returned (v0_) ∧ Kd.R k52 52 w' w.heap.size (fun _ => True) v0_ r ∧ Below w.heap.size w w' := by
 have hu63 := Tryd.underlying63
 have hu52 := Tryd.underlying52
 have HR0 := am_ hr0
 have HC0 := am_ hc0
 clear hr0 hc0
 have HB := am_ (Below.refl w.heap.size w)
 have H : (if 0 ≤ (l0.length : Int) then (if ((l0.length : Int) : Int).toNat ≤ 7036874417766 then (F13.l0 k l0 (List.replicate ((l0.length : Int) : Int).toNat z52) 0) else (none)) else (none)) = some r := h
 clear h
 by_cases c2 : 0 ≤ (l0.length : Int)
 rotate_left
 ·rw [if_neg c2] at H
  exact absurd H (by simp)

 rw [if_pos c2] at H
 have c2b0 := eq_true c2
 have c2b1 : decide (0 ≤ (l0.length : Int)) = true := decide_eq_true c2
 clear c2
 by_cases c3 : ((l0.length : Int) : Int).toNat ≤ 7036874417766
 rotate_left
 ·rw [if_neg c3] at H
  exact absurd H (by simp)
 rw [if_pos c3] at H
 have c3b0 := eq_true c3
 have c3b1 : decide (((l0.length : Int) : Int).toNat ≤ 7036874417766) = true := decide_eq_true c3
 clear c3
 obtain ⟨y284, hy284⟩ : ∃ y_ : List (S52), y_ = (List.replicate ((l0.length : Int) : Int).toNat z52) := ⟨_, rfl⟩
 replace H : (F13.l0 k l0 y284 0) = some r := by first | (rw [hy284]; exact H) | exact H
 have Ny284 := am_ hy284
 clear hy284
 have H' := am_ H
 clear H
 go_enter Tryd.func13, Tryd.ntmps13
 go_wp2_with (first | ((with_reducible refine gate_dst (N := 7) rfl ?_); refine Kd.R_make k52 _ 52 rfl (N := 7) rfl 38 _ _ rfl (l0.length : Int) rfl rfl Tryd.underlying38 (.agg #[(.string ⟨#[]⟩), (.slice none 0 0)]) 40 info52 rfl (by decide) (by omega) z52 (ok := fun _ => True) (okp := fun _ => True) (k52_mkM _ _ _ z52 (Kd.R_nil _ _ _ _ _)) (fun _ hk => hk) trivial (of_decide_eq_true as_) (Nat.le_trans (Nat.mul_le_mul_right _ (of_decide_eq_true as_ : (l0.length : Int).toNat ≤ 7036874417766)) (by omega)) (Below.refl _ _) (Nat.le_refl _) ?_; intro v285 w4 ho5 hb hg_ hnew_; clear hg_ hnew_; (first | rw [← Ny284.out] at ho5 | (simp only [Int.reduceToNat] at ho5; rw [← Ny284.out] at ho5)); have HO286 := am_ (Kd.R_lower ho5 (below_size bl_)); replace HB := hs_ w hb; clear hb ho5))
 go_loopg [4] k (fun kq v4 w' => ∃ (x3_1 : List (S52)) (x4_1 : Int), v4 = .int .i64 x4_1 ∧ Aside0 (F13.l0 kq l0 x3_1 x4_1 = some r) ∧ Aside0 (kq ≤ k) ∧ Aside0 (Kd.R k52 52 w' w.heap.size (fun _ => True) v285 x3_1) ∧ Aside0 (Below w.heap.size w w'))
 case atStart => exact ⟨(y284), (0), er_, H', ⟨Nat.le_refl _⟩, ⟨rk_ HO286⟩, ⟨bl_⟩⟩
 case round =>
  clear H'
  try clear c2
  try clear c2b0
  try clear c2b1
  try clear c3
  try clear c3b0
  try clear c3b1
  obtain ⟨x3_1, x4_1, rfl, HA, HK1, HO_3, HB⟩ := hrel
  cases gk with
  | zero => exact absurd HA.out (by simp [F13.l0])
  | succ k1 =>
   have H := HA.out
   clear HA
   simp only [F13.l0] at H
   replace H := it_ H; rcases H with ⟨c6b0, H⟩ | ⟨c6b0, H⟩
   rotate_left
   ·obtain rfl := Option.some.inj H
    go_wp2
    go_ret
    exact ⟨_, au2_0, rk_ HO_3, bl_⟩
   replace H := itn_ H; rcases H with ⟨c7b0, H⟩
   replace H := bi_ H; rcases H with ⟨⟨t288, t289⟩, A8, H⟩
   replace H := itn_ H; rcases H with ⟨c9b0, H⟩
   obtain ⟨y292, hy292⟩ : ∃ y_ : List (S52), y_ = (x3_1.set (x4_1 : Int).toNat (⟨t288, t289⟩ : S52)) := ⟨_, rfl⟩
   replace H : (F13.l0 k1 l0 y292 (wrap64 (x4_1 + 1))) = some r := by first | (rw [hy292]; exact H) | exact H
   have Ny292 := am_ hy292
   clear hy292
   have H' := am_ H
   clear H
   have p287 : 0 ≤ (x4_1 : Int) := od_
   have q287 : x4_1 < (l0.length : Int) := od_
   obtain ⟨ad287, A287_1, c287_1, e287, hx287_0, hx287_1, hl287_1, hi287_1⟩ := at_T63 HR0.out x4_1 p287 q287
   cases e287
   replace hx287_0 := (HB.out.cell (World.block_lt_of_cell? _ _ hx287_0)).trans hx287_0
   replace hx287_1 := (HB.out.cell (World.block_lt_of_cell? _ _ hx287_1)).trans hx287_1
   have HR287_1 := am_ hi287_1
   have HC287_1 := am_ hl287_1
   clear hi287_1 hl287_1
   replace p287 := eq_true p287
   replace q287 := eq_true q287
   go_wp2_with (first | ((with_reducible refine gate_callee (f := 36) rfl ?_); refine gl_ 20 Tryd.func36 #[.agg #[.string ((rd_T63 l0 x4_1).f0), .slice A287_1 ((rd_T63 l0 x4_1).f1).length c287_1]] ?_ rfl rfl rfl rfl; (with_reducible refine (F36.calls k1 ((rd_T63 l0 x4_1).f0) _ _ ((rd_T63 l0 x4_1).f1) t288 t289 _ ?s1 ?s2 A8.out).mono ?_); (case s1 => repeat (first | exact (Kd.C_below HR287_1.out HB.out) | (with_reducible refine Kd.C_alloc ?_ _) | (with_reducible refine Kd.C_drewN ?_ _) | (with_reducible refine Kd.C_drew ?_))); (case s2 => exact HC287_1.out); rintro e w11 ⟨v290, rfl, ho0, hb⟩; refine ⟨_, rfl, ?_⟩; replace HO_3 := am_ (Kd.R_elder' (rk_ HO_3) (Kd.S_base ho0) hb); have HO291 := am_ (Kd.S_lower ho0 (below_size bl_)); replace HB := hs_ w hb; (try clear hb); (try clear ho0); have p10 : 0 ≤ (x4_1 : Int) := od_; have q10 : (x4_1 : Int) < ((x3_1.length : Int) : Int) := od_; obtain ⟨go10, co10, eo10, gb10, gl10, cl10, HG10⟩ := Kd.R_form HO_3.out (by omega); (first | cases eo10 | (injection eo10 with ea_ en_ ec_; (first | subst ea_ | (injection ea_ with ea_; subst ea_)); subst ec_; clear en_)); have GB10 := am_ gb10; have GG10 := am_ HG10; clear gb10 gl10 HG10; obtain ⟨ce10, hcl10, hM10, hcc10, hfr10⟩ := Kd.R_elem HO_3.out z52 (x4_1 : Int) p10 q10; obtain ⟨ve10_1, rfl, ge10_1⟩ := k52_openM hM10; have hx10_0 : w11.cell? ⟨go10, (x4_1 : Int).toNat * 2, none⟩ = some (.string ((rd_T52 x3_1 x4_1).f0)) := hcc10 0 _ rfl; have hx10_1 : w11.cell? ⟨go10, (x4_1 : Int).toNat * 2 + 1, none⟩ = some (ve10_1) := hcc10 1 _ rfl; have hf10_0 : w11.frozen? ⟨go10, (x4_1 : Int).toNat * 2, none⟩ = false := hfr10 0; have hf10_1 : w11.frozen? ⟨go10, (x4_1 : Int).toNat * 2 + 1, none⟩ = false := hfr10 1; clear hcl10 hcc10 hfr10 hM10; replace p10 := eq_true p10; replace q10 := eq_true q10; obtain ⟨Ao12, co12, eo12⟩ := Kd.S_slice HO291.out; subst eo12; have n_ := am_ (Kd.R_mono (ok' := (fun k_ => some k_ ≠ (.slice Ao12 t289.length co12 : Value).ownBlock)) HO_3.out (fun k_ hk => hk.2)); clear HO_3; have HO_3 := n_; clear n_; have HX13 := am_ (show Kd.R k52 52 w11 w.heap.size (fun _ => True) (.slice (some ⟨go10, 0, none⟩) x3_1.length co10) x3_1 from au2_1); obtain ⟨ce13, hcl13, hM13, hcc13, hfr13⟩ := Kd.R_elem HX13.out z52 (x4_1 : Int) (of_decide_eq_true as_) (by have h_ : (x4_1 : Int) < ((x3_1.length : Int) : Int) := od_; first | exact h_ | (have e_ := (Kd.R_reads' HO_3.out).1; omega) | simpa using h_); obtain ⟨ve13_1, rfl, ge13_1⟩ := k52_openM hM13; have HP13 := Kd.R_seg HX13.out (x4_1 : Int) (of_decide_eq_true as_) (by have h_ : (x4_1 : Int) < ((x3_1.length : Int) : Int) := od_; first | exact h_ | (have e_ := (Kd.R_reads' HO_3.out).1; omega) | simpa using h_) (seg := [.string t288, .slice Ao12 t289.length co12]) (j := 0) hcl13 hcc13 (show 2 ≤ 2 from by decide) (x' := (⟨t288, t289⟩ : S52)) (k52_mkM _ _ _ (⟨t288, t289⟩ : S52) (Kd.R_mono (Kd.R_apart' ((Kd.S_R HO291.out)) (Kd.R_typed HO_3.out) (by decide)) (fun k_ hk => ⟨trivial, fun e_ => (hk.2) (by rw [e_]; rfl)⟩))) (fun _ hk => hk); have hx13_0 := hcc13 0 _ rfl; (try simp only [show (k52).sz = 2 from rfl, Nat.mul_one, Nat.add_zero] at hx13_0); have hf13_0 := hfr13 0; (try simp only [show (k52).sz = 2 from rfl, Nat.mul_one, Nat.add_zero] at hf13_0); have hx13_1 := hcc13 1 _ rfl; (try simp only [show (k52).sz = 2 from rfl, Nat.mul_one, Nat.add_zero] at hx13_1); have hf13_1 := hfr13 1; (try simp only [show (k52).sz = 2 from rfl, Nat.mul_one, Nat.add_zero] at hf13_1); clear hcl13 hcc13 hfr13 hM13) | ((with_reducible refine gate_store (t := 52) (p := 21) rfl ?_); refine store_event (t := 52) (p := 21) (v := ?vo_w14) (w1 := ((w11.setCell ⟨go10, (x4_1 : Int).toNat * 2, none⟩ (.string t288)).setCell ⟨go10, (x4_1 : Int).toNat * 2 + 1, none⟩ (.slice Ao12 t289.length co12))) ?hg ?ho ?hn ?hr ?_; (case ho => rfl); (case hg => rfl); (case hn => rfl); (case hr => exact hr_); intro w14 hw; have hg : w11.grownBy w14 (some go10) := (by rw [hw]; exact HP13.2); have hp_ : Kd.R k52 52 w14 w.heap.size (fun _ => True) (.slice (some ⟨go10, 0, none⟩) x3_1.length co10) y292 := (by rw [hw, Ny292.out]; exact HP13.1); clear HP13; have n0_ := am_ (hp_); have n1_ := am_ ((by rw [hw]; exact below_set (below_set (HB.out) GB10.out) GB10.out : Below w.heap.size w w14)); clear HO_3; clear HB; clear HO291; have HO_3 := n0_; have HB := n1_; clear n0_ n1_; clear hg hw hp_))
   go_roundg k1
   case measure => have := HK1.out; omega
   case rel => exact ⟨(y292), (wrap64 (x4_1 + 1)), er_, H', ⟨by have := HK1.out; omega⟩, ⟨rk_ HO_3⟩, ⟨bl_⟩⟩
/-! ### F108: function 108 -/
def F108.f (k : Nat) (a0_0 : Int) (l0_1 : List (S63)) : Option (Int × (List (S52))) := (F13.f k l0_1).bind fun t296 => (some (a0_0, t296))
theorem F108.mono : ∀ a0 a1 k, LeO (F108.f k a0 a1) (F108.f (k + 1) a0 a1) := by
 intro a0 a1 k
 unfold F108.f
 repeat' with_reducible first | exact F13.mono _ _ | exact LeO.refl _ | exact LeO.none _ | refine LeO.ite ?_ ?_ | refine LeO.bind ?_ (fun _ => ?_)
theorem F108.calls (k : Nat) (a0_0 : Int) (A0_1 : Option Addr) (c0_1 : Nat) (l0_1 : List (S63)) (r1 : Int) (r2 : List (S52)) (w : World) (hr0_1 : Kd.C k63 w A0_1 l0_1.length l0_1) (hc0_1 : l0_1.length ≤ c0_1) (h : F108.f k a0_0 l0_1 = some (r1, r2)) :
  Calls Tryd.prog 108 #[.agg #[.int .i64 a0_0, .slice A0_1 l0_1.length c0_1]] w fun e w' => ∃ v1_ : Value, e = .returned (.agg #[.int .i64 r1, v1_]) ∧ Kd.R k52 52 w' w.heap.size (fun _ => True) v1_ r2 ∧ Below w.heap.size w w' := by
 have hu150 := Tryd.underlying150
 have hu85 := Tryd.underlying85
 have HR0_1 := am_ hr0_1
 have HC0_1 := am_ hc0_1
 clear hr0_1 hc0_1
 have HB := am_ (Below.refl w.heap.size w)
 have H : ((F13.f k l0_1).bind fun t296 => (some (a0_0, t296))) = some (r1, r2) := h
 clear h
 replace H := bi_ H; rcases H with ⟨t296, A2, H⟩
 simp only [Option.some.injEq, Prod.mk.injEq] at H
 obtain ⟨rfl, rfl⟩ := H
 go_enter Tryd.func108, Tryd.ntmps108
 go_wp2_with (first | ((with_reducible refine gate_dst (N := 1) rfl ?_); refine be_ 1 #[.int .i64 a0_0, .slice A0_1 l0_1.length c0_1] 150 ?_; intro gb293 hg w3 hbox hb; have BK293 := am_ (hbox); have GW293 := am_ (gw_ hg bl_); have GE293 := GW293; replace HB := hs_ w hb; clear hb hbox hg) | ((with_reducible refine gate_dst (N := 2) rfl ?_); refine be_ 2 #[.int .i64 0, .slice none 0 0] 85 ?_; intro gb294 hg w4 hbox hb; have BK294 := am_ (hbox); have GW294 := am_ (gw_ hg bl_); have GE294 := GW294; replace HB := hs_ w hb; have NB293_294 := am_ (gn_ hg (blkl_ BK293)); have NB294_293 := am_ (gm_ hg (blkl_ BK293)); replace BK293 := bb_ BK293 hb; clear hb hbox hg) | ((with_reducible refine gate_dst (N := 3) rfl ?_); refine be_ 3 #[.int .i64 0, .slice none 0 0] 85 ?_; intro gb295 hg w5 hbox hb; have BK295 := am_ (hbox); have GW295 := am_ (gw_ hg bl_); have GE295 := GW295; replace HB := hs_ w hb; have NB293_295 := am_ (gn_ hg (blkl_ BK293)); have NB295_293 := am_ (gm_ hg (blkl_ BK293)); replace BK293 := bb_ BK293 hb; have NB294_295 := am_ (gn_ hg (blkl_ BK294)); have NB295_294 := am_ (gm_ hg (blkl_ BK294)); replace BK294 := bb_ BK294 hb; clear hb hbox hg; have hnb6 := NB293_294.out; have hnc6 := NB294_293.out; have hnb7 := NB293_295.out; have hnc7 := NB295_293.out; obtain ⟨hcz8_0, hcz8_1, hfz8_0, hfz8_1⟩ := cellsF2 BK293.out; have hnb9 := NB295_294.out; have hnc9 := NB294_295.out; obtain ⟨hcz10_0, hcz10_1, hfz10_0, hfz10_1⟩ := cellsF2 BK295.out) | ((with_reducible refine gate_callee (f := 13) rfl ?_); refine gl_ 9 Tryd.func13 #[.slice A0_1 l0_1.length c0_1] ?_ rfl rfl rfl rfl; (with_reducible refine (F13.calls k _ _ l0_1 t296 _ ?s1 ?s2 A2.out).mono ?_); (case s1 => exact Kd.C_below HR0_1.out bl_); (case s2 => exact HC0_1.out); rintro e w11 ⟨v297, rfl, ho0, hb⟩; refine ⟨_, rfl, ?_⟩; have HO298 := am_ (Kd.R_lower ho0 (below_size bl_)); replace BK293 := am_ (blk_below (g := gb293) (o := .cells #[.int .i64 a0_0, .slice A0_1 l0_1.length c0_1] 150 (0, 0)) (bf_ BK293) hb); replace BK294 := am_ (blk_below (g := gb294) (o := .cells #[.int .i64 0, .slice none 0 0] 85 (0, 0)) (bf_ BK294) hb); replace BK295 := am_ (blk_below (g := gb295) (o := .cells #[.int .i64 a0_0, .slice none 0 0] 85 (0, 0)) (bq_ BK295) hb); replace HB := hs_ w hb; (try clear hb); (try clear ho0); obtain ⟨Ao12, co12, eo12⟩ := Kd.R_slice HO298.out; subst eo12; obtain ⟨hcz13_0, hcz13_1, hfz13_0, hfz13_1⟩ := cellsF2 BK295.out; obtain ⟨hcz14_0, hcz14_1, hfz14_0, hfz14_1⟩ := cellsF2 BK294.out))
 refine bodyPost_ret (results_cell_row rfl _ _ gb294 85 #[.int .i64 a0_0, .slice Ao12 t296.length co12] (0, 0) _ rfl (bq_ BK294) Tryd.underlying85 rfl (by kernel_rfl)) rfl ?_
 exact ⟨_, au2_0, by (with_reducible repeat (first | apply Kd.R_alloc | apply Kd.R_drewN | apply Kd.R_drew)); exact Kd.R_mono (Kd.R_far (p := ⟨gb294, 1, none⟩) (Kd.R_far (p := ⟨gb294, 0, none⟩) (Kd.R_far (p := ⟨gb295, 1, none⟩) (Kd.R_types (Kd.R_types HO298.out BK295.out (by decide)) BK294.out (by decide)) (fun _ hk => hk.1.2) (.slice Ao12 t296.length co12)) (fun _ hk => hk.2) (.int .i64 a0_0)) (fun _ hk => hk.2) (.slice Ao12 t296.length co12)) (fun _ hk => trivial), bl_⟩

/-! ### F81: function 81 -/
def F81.l0 : Nat → List (S150) → List (S85) → Int → Option ((List (S85)))
  | 0, _, _, _ => none
  | k + 1, x0, x3, x4 => if x4 < (x0.length : Int) then (if 0 ≤ x4 then ((F108.f k ((rd_T150 x0 x4).f0) ((rd_T150 x0 x4).f1)).bind fun bt303 => (if x4 < (x3.length : Int) then (F81.l0 k x0 (x3.set (x4 : Int).toNat (⟨bt303.1, bt303.2⟩ : S85)) (wrap64 (x4 + 1))) else (none))) else (none)) else (some x3)
def F81.f (k : Nat) (l0 : List (S150)) : Option ((List (S85))) := if 0 ≤ (l0.length : Int) then (if ((l0.length : Int) : Int).toNat ≤ 8796093022208 then (F81.l0 k l0 (List.replicate ((l0.length : Int) : Int).toNat z85) 0) else (none)) else (none)
theorem F81.mono_l : ∀ k, (∀ y0 y1 y2, LeO (F81.l0 k y0 y1 y2) (F81.l0 (k + 1) y0 y1 y2))
 | 0 => fun _ _ _ r h => by simp [F81.l0] at h
 | k + 1 => by
  have ih0 := F81.mono_l k
  intro y0 y1 y2
  unfold F81.l0
  repeat' with_reducible first | exact ih0 _ _ _ | exact F108.mono _ _ _ | exact LeO.refl _ | exact LeO.none _ | refine LeO.ite ?_ ?_ | refine LeO.bind ?_ (fun _ => ?_)
theorem F81.mono : ∀ a0 k, LeO (F81.f k a0) (F81.f (k + 1) a0) := by
 intro a0 k
 have ih0 := F81.mono_l k
 unfold F81.f
 repeat' with_reducible first | exact ih0 _ _ _ | exact F108.mono _ _ _ | exact LeO.refl _ | exact LeO.none _ | refine LeO.ite ?_ ?_ | refine LeO.bind ?_ (fun _ => ?_)
theorem F81.calls (k : Nat) (A0 : Option Addr) (c0 : Nat) (l0 : List (S150)) (r : List (S85)) (w : World) (hr0 : Kd.C k150 w A0 l0.length l0) (hc0 : l0.length ≤ c0) (h : F81.f k l0 = some r) :
  Calls Tryd.prog 81 #[.slice A0 l0.length c0] w fun e w' => ∃ v0_ : Value, e = .returned (v0_) ∧ Kd.R k85 85 w' w.heap.size (fun _ => True) v0_ r ∧ Below w.heap.size w w' := by
 have hu150 := Tryd.underlying150
 have hu85 := Tryd.underlying85
 have HR0 := am_ hr0
 have HC0 := am_ hc0
 clear hr0 hc0
 have HB := am_ (Below.refl w.heap.size w)
 have H : (if 0 ≤ (l0.length : Int) then (if ((l0.length : Int) : Int).toNat ≤ 8796093022208 then (F81.l0 k l0 (List.replicate ((l0.length : Int) : Int).toNat z85) 0) else (none)) else (none)) = some r := h
 clear h
 by_cases c2 : 0 ≤ (l0.length : Int)
 rotate_left
 ·rw [if_neg c2] at H
  exact absurd H (by simp)

 rw [if_pos c2] at H
 have c2b0 := eq_true c2
 have c2b1 : decide (0 ≤ (l0.length : Int)) = true := decide_eq_true c2
 clear c2
 by_cases c3 : ((l0.length : Int) : Int).toNat ≤ 8796093022208
 rotate_left
 ·rw [if_neg c3] at H
  exact absurd H (by simp)
 rw [if_pos c3] at H
 have c3b0 := eq_true c3
 have c3b1 : decide (((l0.length : Int) : Int).toNat ≤ 8796093022208) = true := decide_eq_true c3
 clear c3
 obtain ⟨y299, hy299⟩ : ∃ y_ : List (S85), y_ = (List.replicate ((l0.length : Int) : Int).toNat z85) := ⟨_, rfl⟩
 replace H : (F81.l0 k l0 y299 0) = some r := by first | (rw [hy299]; exact H) | exact H
 have Ny299 := am_ hy299
 clear hy299
 have H' := am_ H
 clear H
 go_enter Tryd.func81, Tryd.ntmps81
 go_wp2_with (first | ((with_reducible refine gate_dst (N := 7) rfl ?_); refine Kd.R_make k85 _ 85 rfl (N := 7) rfl 81 _ _ rfl (l0.length : Int) rfl rfl Tryd.underlying81 (.agg #[(.int .i64 0), (.slice none 0 0)]) 32 info85 rfl (by decide) (by omega) z85 (ok := fun _ => True) (okp := fun _ => True) (k85_mkM _ _ _ z85 (Kd.R_nil _ _ _ _ _)) (fun _ hk => hk) trivial (of_decide_eq_true as_) (Nat.le_trans (Nat.mul_le_mul_right _ (of_decide_eq_true as_ : (l0.length : Int).toNat ≤ 8796093022208)) (by omega)) (Below.refl _ _) (Nat.le_refl _) ?_; intro v300 w4 ho5 hb hg_ hnew_; clear hg_ hnew_; (first | rw [← Ny299.out] at ho5 | (simp only [Int.reduceToNat] at ho5; rw [← Ny299.out] at ho5)); have HO301 := am_ (Kd.R_lower ho5 (below_size bl_)); replace HB := hs_ w hb; clear hb ho5))
 go_loopg [4] k (fun kq v4 w' => ∃ (x3_1 : List (S85)) (x4_1 : Int), v4 = .int .i64 x4_1 ∧ Aside0 (F81.l0 kq l0 x3_1 x4_1 = some r) ∧ Aside0 (kq ≤ k) ∧ Aside0 (Kd.R k85 85 w' w.heap.size (fun _ => True) v300 x3_1) ∧ Aside0 (Below w.heap.size w w'))
 case atStart => exact ⟨(y299), (0), er_, H', ⟨Nat.le_refl _⟩, ⟨rk_ HO301⟩, ⟨bl_⟩⟩
 case round =>
  clear H'
  try clear c2
  try clear c2b0
  try clear c2b1
  try clear c3
  try clear c3b0
  try clear c3b1
  obtain ⟨x3_1, x4_1, rfl, HA, HK1, HO_3, HB⟩ := hrel
  cases gk with
  | zero => exact absurd HA.out (by simp [F81.l0])
  | succ k1 =>
   have H := HA.out
   clear HA
   simp only [F81.l0] at H
   replace H := it_ H; rcases H with ⟨c6b0, H⟩ | ⟨c6b0, H⟩
   rotate_left
   ·obtain rfl := Option.some.inj H
    go_wp2
    go_ret
    exact ⟨_, au2_0, rk_ HO_3, bl_⟩
   replace H := itn_ H; rcases H with ⟨c7b0, H⟩
   replace H := bi_ H; rcases H with ⟨⟨t303, t304⟩, A8, H⟩
   replace H := itn_ H; rcases H with ⟨c9b0, H⟩
   obtain ⟨y307, hy307⟩ : ∃ y_ : List (S85), y_ = (x3_1.set (x4_1 : Int).toNat (⟨t303, t304⟩ : S85)) := ⟨_, rfl⟩
   replace H : (F81.l0 k1 l0 y307 (wrap64 (x4_1 + 1))) = some r := by first | (rw [hy307]; exact H) | exact H
   have Ny307 := am_ hy307
   clear hy307
   have H' := am_ H
   clear H
   have p302 : 0 ≤ (x4_1 : Int) := od_
   have q302 : x4_1 < (l0.length : Int) := od_
   obtain ⟨ad302, A302_1, c302_1, e302, hx302_0, hx302_1, hl302_1, hi302_1⟩ := at_T150 HR0.out x4_1 p302 q302
   cases e302
   replace hx302_0 := (HB.out.cell (World.block_lt_of_cell? _ _ hx302_0)).trans hx302_0
   replace hx302_1 := (HB.out.cell (World.block_lt_of_cell? _ _ hx302_1)).trans hx302_1
   have HR302_1 := am_ hi302_1
   have HC302_1 := am_ hl302_1
   clear hi302_1 hl302_1
   replace p302 := eq_true p302
   replace q302 := eq_true q302
   go_wp2_with (first | ((with_reducible refine gate_callee (f := 108) rfl ?_); refine gl_ 20 Tryd.func108 #[.agg #[.int .i64 ((rd_T150 l0 x4_1).f0), .slice A302_1 ((rd_T150 l0 x4_1).f1).length c302_1]] ?_ rfl rfl rfl rfl; (with_reducible refine (F108.calls k1 ((rd_T150 l0 x4_1).f0) _ _ ((rd_T150 l0 x4_1).f1) t303 t304 _ ?s1 ?s2 A8.out).mono ?_); (case s1 => repeat (first | exact (Kd.C_below HR302_1.out HB.out) | (with_reducible refine Kd.C_alloc ?_ _) | (with_reducible refine Kd.C_drewN ?_ _) | (with_reducible refine Kd.C_drew ?_))); (case s2 => exact HC302_1.out); rintro e w11 ⟨v305, rfl, ho0, hb⟩; refine ⟨_, rfl, ?_⟩; replace HO_3 := am_ (Kd.R_elder' (rk_ HO_3) (Kd.R_base ho0) hb); have HO306 := am_ (Kd.R_lower ho0 (below_size bl_)); replace HB := hs_ w hb; (try clear hb); (try clear ho0); have p10 : 0 ≤ (x4_1 : Int) := od_; have q10 : (x4_1 : Int) < ((x3_1.length : Int) : Int) := od_; obtain ⟨go10, co10, eo10, gb10, gl10, cl10, HG10⟩ := Kd.R_form HO_3.out (by omega); (first | cases eo10 | (injection eo10 with ea_ en_ ec_; (first | subst ea_ | (injection ea_ with ea_; subst ea_)); subst ec_; clear en_)); have GB10 := am_ gb10; have GG10 := am_ HG10; clear gb10 gl10 HG10; obtain ⟨ce10, hcl10, hM10, hcc10, hfr10⟩ := Kd.R_elem HO_3.out z85 (x4_1 : Int) p10 q10; obtain ⟨ve10_1, rfl, ge10_1⟩ := k85_openM hM10; have hx10_0 : w11.cell? ⟨go10, (x4_1 : Int).toNat * 2, none⟩ = some (.int .i64 ((rd_T85 x3_1 x4_1).f0)) := hcc10 0 _ rfl; have hx10_1 : w11.cell? ⟨go10, (x4_1 : Int).toNat * 2 + 1, none⟩ = some (ve10_1) := hcc10 1 _ rfl; have hf10_0 : w11.frozen? ⟨go10, (x4_1 : Int).toNat * 2, none⟩ = false := hfr10 0; have hf10_1 : w11.frozen? ⟨go10, (x4_1 : Int).toNat * 2 + 1, none⟩ = false := hfr10 1; clear hcl10 hcc10 hfr10 hM10; replace p10 := eq_true p10; replace q10 := eq_true q10; obtain ⟨Ao12, co12, eo12⟩ := Kd.R_slice HO306.out; subst eo12; have n_ := am_ (Kd.R_mono (ok' := (fun k_ => some k_ ≠ (.slice Ao12 t304.length co12 : Value).ownBlock)) HO_3.out (fun k_ hk => hk.2)); clear HO_3; have HO_3 := n_; clear n_; have HX13 := am_ (show Kd.R k85 85 w11 w.heap.size (fun _ => True) (.slice (some ⟨go10, 0, none⟩) x3_1.length co10) x3_1 from au2_1); obtain ⟨ce13, hcl13, hM13, hcc13, hfr13⟩ := Kd.R_elem HX13.out z85 (x4_1 : Int) (of_decide_eq_true as_) (by have h_ : (x4_1 : Int) < ((x3_1.length : Int) : Int) := od_; first | exact h_ | (have e_ := (Kd.R_reads' HO_3.out).1; omega) | simpa using h_); obtain ⟨ve13_1, rfl, ge13_1⟩ := k85_openM hM13; have HP13 := Kd.R_seg HX13.out (x4_1 : Int) (of_decide_eq_true as_) (by have h_ : (x4_1 : Int) < ((x3_1.length : Int) : Int) := od_; first | exact h_ | (have e_ := (Kd.R_reads' HO_3.out).1; omega) | simpa using h_) (seg := [.int .i64 t303, .slice Ao12 t304.length co12]) (j := 0) hcl13 hcc13 (show 2 ≤ 2 from by decide) (x' := (⟨t303, t304⟩ : S85)) (k85_mkM _ _ _ (⟨t303, t304⟩ : S85) (Kd.R_mono (Kd.R_apart' (HO306.out) (Kd.R_typed HO_3.out) (by decide)) (fun k_ hk => ⟨trivial, fun e_ => (hk.2) (by rw [e_]; rfl)⟩))) (fun _ hk => hk); have hx13_0 := hcc13 0 _ rfl; (try simp only [show (k85).sz = 2 from rfl, Nat.mul_one, Nat.add_zero] at hx13_0); have hf13_0 := hfr13 0; (try simp only [show (k85).sz = 2 from rfl, Nat.mul_one, Nat.add_zero] at hf13_0); have hx13_1 := hcc13 1 _ rfl; (try simp only [show (k85).sz = 2 from rfl, Nat.mul_one, Nat.add_zero] at hx13_1); have hf13_1 := hfr13 1; (try simp only [show (k85).sz = 2 from rfl, Nat.mul_one, Nat.add_zero] at hf13_1); clear hcl13 hcc13 hfr13 hM13) | ((with_reducible refine gate_store (t := 85) (p := 21) rfl ?_); refine store_event (t := 85) (p := 21) (v := ?vo_w14) (w1 := ((w11.setCell ⟨go10, (x4_1 : Int).toNat * 2, none⟩ (.int .i64 t303)).setCell ⟨go10, (x4_1 : Int).toNat * 2 + 1, none⟩ (.slice Ao12 t304.length co12))) ?hg ?ho ?hn ?hr ?_; (case ho => rfl); (case hg => rfl); (case hn => rfl); (case hr => exact hr_); intro w14 hw; have hg : w11.grownBy w14 (some go10) := (by rw [hw]; exact HP13.2); have hp_ : Kd.R k85 85 w14 w.heap.size (fun _ => True) (.slice (some ⟨go10, 0, none⟩) x3_1.length co10) y307 := (by rw [hw, Ny307.out]; exact HP13.1); clear HP13; have n0_ := am_ (hp_); have n1_ := am_ ((by rw [hw]; exact below_set (below_set (HB.out) GB10.out) GB10.out : Below w.heap.size w w14)); clear HO_3; clear HB; clear HO306; have HO_3 := n0_; have HB := n1_; clear n0_ n1_; clear hg hw hp_))
   go_roundg k1
   case measure => have := HK1.out; omega
   case rel => exact ⟨(y307), (wrap64 (x4_1 + 1)), er_, H', ⟨by have := HK1.out; omega⟩, ⟨rk_ HO_3⟩, ⟨bl_⟩⟩
/-! ### F54: function 54 -/
def F54.f (k : Nat) (a0_0 : Int) (a0_1 : Int) (l0_2 : List (S150)) : Option (Int × Int × (List (S85))) := (F81.f k l0_2).bind fun t311 => (some (a0_0, a0_1, t311))
theorem F54.mono : ∀ a0 a1 a2 k, LeO (F54.f k a0 a1 a2) (F54.f (k + 1) a0 a1 a2) := by
 intro a0 a1 a2 k
 unfold F54.f
 repeat' with_reducible first | exact F81.mono _ _ | exact LeO.refl _ | exact LeO.none _ | refine LeO.ite ?_ ?_ | refine LeO.bind ?_ (fun _ => ?_)
theorem F54.calls (k : Nat) (a0_0 : Int) (a0_1 : Int) (A0_2 : Option Addr) (c0_2 : Nat) (l0_2 : List (S150)) (r1 : Int) (r2 : Int) (r3 : List (S85)) (w : World) (hr0_2 : Kd.C k150 w A0_2 l0_2.length l0_2) (hc0_2 : l0_2.length ≤ c0_2) (h : F54.f k a0_0 a0_1 l0_2 = some (r1, r2, r3)) :
  Calls Tryd.prog 54 #[.agg #[.int .i64 a0_0, .int .i64 a0_1, .slice A0_2 l0_2.length c0_2]] w fun e w' => ∃ v2_ : Value, e = .returned (.agg #[.int .i64 r1, .int .i64 r2, v2_]) ∧ Kd.R k85 85 w' w.heap.size (fun _ => True) v2_ r3 ∧ Below w.heap.size w w' := by
 have hu98 := Tryd.underlying98
 have hu83 := Tryd.underlying83
 have HR0_2 := am_ hr0_2
 have HC0_2 := am_ hc0_2
 clear hr0_2 hc0_2
 have HB := am_ (Below.refl w.heap.size w)
 have H : ((F81.f k l0_2).bind fun t311 => (some (a0_0, a0_1, t311))) = some (r1, r2, r3) := h
 clear h
 replace H := bi_ H; rcases H with ⟨t311, A2, H⟩
 simp only [Option.some.injEq, Prod.mk.injEq] at H
 obtain ⟨rfl, rfl, rfl⟩ := H
 go_enter Tryd.func54, Tryd.ntmps54
 go_wp2_with (first | ((with_reducible refine gate_dst (N := 1) rfl ?_); refine be_ 1 #[.int .i64 a0_0, .int .i64 a0_1, .slice A0_2 l0_2.length c0_2] 98 ?_; intro gb308 hg w3 hbox hb; have BK308 := am_ (hbox); have GW308 := am_ (gw_ hg bl_); have GE308 := GW308; replace HB := hs_ w hb; clear hb hbox hg) | ((with_reducible refine gate_dst (N := 2) rfl ?_); refine be_ 2 #[.int .i64 0, .int .i64 0, .slice none 0 0] 83 ?_; intro gb309 hg w4 hbox hb; have BK309 := am_ (hbox); have GW309 := am_ (gw_ hg bl_); have GE309 := GW309; replace HB := hs_ w hb; have NB308_309 := am_ (gn_ hg (blkl_ BK308)); have NB309_308 := am_ (gm_ hg (blkl_ BK308)); replace BK308 := bb_ BK308 hb; clear hb hbox hg) | ((with_reducible refine gate_dst (N := 3) rfl ?_); refine be_ 3 #[.int .i64 0, .int .i64 0, .slice none 0 0] 83 ?_; intro gb310 hg w5 hbox hb; have BK310 := am_ (hbox); have GW310 := am_ (gw_ hg bl_); have GE310 := GW310; replace HB := hs_ w hb; have NB308_310 := am_ (gn_ hg (blkl_ BK308)); have NB310_308 := am_ (gm_ hg (blkl_ BK308)); replace BK308 := bb_ BK308 hb; have NB309_310 := am_ (gn_ hg (blkl_ BK309)); have NB310_309 := am_ (gm_ hg (blkl_ BK309)); replace BK309 := bb_ BK309 hb; clear hb hbox hg; have hnb6 := NB308_309.out; have hnc6 := NB309_308.out; have hnb7 := NB308_310.out; have hnc7 := NB310_308.out; obtain ⟨hcz8_0, hcz8_1, hcz8_2, hfz8_0, hfz8_1, hfz8_2⟩ := cellsF3 BK308.out; have hnb9 := NB310_309.out; have hnc9 := NB309_310.out; obtain ⟨hcz10_0, hcz10_1, hcz10_2, hfz10_0, hfz10_1, hfz10_2⟩ := cellsF3 BK310.out) | ((with_reducible refine gate_callee (f := 81) rfl ?_); refine gl_ 12 Tryd.func81 #[.slice A0_2 l0_2.length c0_2] ?_ rfl rfl rfl rfl; (with_reducible refine (F81.calls k _ _ l0_2 t311 _ ?s1 ?s2 A2.out).mono ?_); (case s1 => exact Kd.C_below HR0_2.out bl_); (case s2 => exact HC0_2.out); rintro e w11 ⟨v312, rfl, ho0, hb⟩; refine ⟨_, rfl, ?_⟩; have HO313 := am_ (Kd.R_lower ho0 (below_size bl_)); replace BK308 := am_ (blk_below (g := gb308) (o := .cells #[.int .i64 a0_0, .int .i64 a0_1, .slice A0_2 l0_2.length c0_2] 98 (0, 0)) (bf_ BK308) hb); replace BK309 := am_ (blk_below (g := gb309) (o := .cells #[.int .i64 0, .int .i64 0, .slice none 0 0] 83 (0, 0)) (bf_ BK309) hb); replace BK310 := am_ (blk_below (g := gb310) (o := .cells #[.int .i64 a0_0, .int .i64 a0_1, .slice none 0 0] 83 (0, 0)) (bq_ BK310) hb); replace HB := hs_ w hb; (try clear hb); (try clear ho0); obtain ⟨Ao12, co12, eo12⟩ := Kd.R_slice HO313.out; subst eo12; obtain ⟨hcz13_0, hcz13_1, hcz13_2, hfz13_0, hfz13_1, hfz13_2⟩ := cellsF3 BK310.out; obtain ⟨hcz14_0, hcz14_1, hcz14_2, hfz14_0, hfz14_1, hfz14_2⟩ := cellsF3 BK309.out))
 refine bodyPost_ret (results_cell_row rfl _ _ gb309 83 #[.int .i64 a0_0, .int .i64 a0_1, .slice Ao12 t311.length co12] (0, 0) _ rfl (bq_ BK309) Tryd.underlying83 rfl (by kernel_rfl)) rfl ?_
 exact ⟨_, au2_0, by (with_reducible repeat (first | apply Kd.R_alloc | apply Kd.R_drewN | apply Kd.R_drew)); exact Kd.R_mono (Kd.R_far (p := ⟨gb309, 2, none⟩) (Kd.R_far (p := ⟨gb309, 1, none⟩) (Kd.R_far (p := ⟨gb309, 0, none⟩) (Kd.R_far (p := ⟨gb310, 2, none⟩) (Kd.R_types (Kd.R_types HO313.out BK310.out (by decide)) BK309.out (by decide)) (fun _ hk => hk.1.2) (.slice Ao12 t311.length co12)) (fun _ hk => hk.2) (.int .i64 a0_0)) (fun _ hk => hk.2) (.int .i64 a0_1)) (fun _ hk => hk.2) (.slice Ao12 t311.length co12)) (fun _ hk => trivial), bl_⟩

/-! ### F26: function 26 -/
def F26.l0 : Nat → List (S98) → List (S83) → Int → Option ((List (S83)))
  | 0, _, _, _ => none
  | k + 1, x0, x3, x4 => if x4 < (x0.length : Int) then (if 0 ≤ x4 then ((F54.f k ((rd_T98 x0 x4).f0) ((rd_T98 x0 x4).f1) ((rd_T98 x0 x4).f2)).bind fun bt318 => (if x4 < (x3.length : Int) then (F26.l0 k x0 (x3.set (x4 : Int).toNat (⟨bt318.1, bt318.2.1, bt318.2.2⟩ : S83)) (wrap64 (x4 + 1))) else (none))) else (none)) else (some x3)
def F26.f (k : Nat) (l0 : List (S98)) : Option ((List (S83))) := if 0 ≤ (l0.length : Int) then (if ((l0.length : Int) : Int).toNat ≤ 7036874417766 then (F26.l0 k l0 (List.replicate ((l0.length : Int) : Int).toNat z83) 0) else (none)) else (none)
theorem F26.mono_l : ∀ k, (∀ y0 y1 y2, LeO (F26.l0 k y0 y1 y2) (F26.l0 (k + 1) y0 y1 y2))
 | 0 => fun _ _ _ r h => by simp [F26.l0] at h
 | k + 1 => by
  have ih0 := F26.mono_l k
  intro y0 y1 y2
  unfold F26.l0
  repeat' with_reducible first | exact ih0 _ _ _ | exact F54.mono _ _ _ _ | exact LeO.refl _ | exact LeO.none _ | refine LeO.ite ?_ ?_ | refine LeO.bind ?_ (fun _ => ?_)
theorem F26.mono : ∀ a0 k, LeO (F26.f k a0) (F26.f (k + 1) a0) := by
 intro a0 k
 have ih0 := F26.mono_l k
 unfold F26.f
 repeat' with_reducible first | exact ih0 _ _ _ | exact F54.mono _ _ _ _ | exact LeO.refl _ | exact LeO.none _ | refine LeO.ite ?_ ?_ | refine LeO.bind ?_ (fun _ => ?_)
theorem F26.calls (k : Nat) (A0 : Option Addr) (c0 : Nat) (l0 : List (S98)) (r : List (S83)) (w : World) (hr0 : Kd.C k98 w A0 l0.length l0) (hc0 : l0.length ≤ c0) (h : F26.f k l0 = some r) :
  Calls Tryd.prog 26 #[.slice A0 l0.length c0] w fun e w' => ∃ v0_ : Value, e = .returned (v0_) ∧ Kd.R k83 83 w' w.heap.size (fun _ => True) v0_ r ∧ Below w.heap.size w w' := by
 have hu98 := Tryd.underlying98
 have hu83 := Tryd.underlying83
 have HR0 := am_ hr0
 have HC0 := am_ hc0
 clear hr0 hc0
 have HB := am_ (Below.refl w.heap.size w)
 have H : (if 0 ≤ (l0.length : Int) then (if ((l0.length : Int) : Int).toNat ≤ 7036874417766 then (F26.l0 k l0 (List.replicate ((l0.length : Int) : Int).toNat z83) 0) else (none)) else (none)) = some r := h
 clear h
 by_cases c2 : 0 ≤ (l0.length : Int)
 rotate_left
 ·rw [if_neg c2] at H
  exact absurd H (by simp)

 rw [if_pos c2] at H
 have c2b0 := eq_true c2
 have c2b1 : decide (0 ≤ (l0.length : Int)) = true := decide_eq_true c2
 clear c2
 by_cases c3 : ((l0.length : Int) : Int).toNat ≤ 7036874417766
 rotate_left
 ·rw [if_neg c3] at H
  exact absurd H (by simp)
 rw [if_pos c3] at H
 have c3b0 := eq_true c3
 have c3b1 : decide (((l0.length : Int) : Int).toNat ≤ 7036874417766) = true := decide_eq_true c3
 clear c3
 obtain ⟨y314, hy314⟩ : ∃ y_ : List (S83), y_ = (List.replicate ((l0.length : Int) : Int).toNat z83) := ⟨_, rfl⟩
 replace H : (F26.l0 k l0 y314 0) = some r := by first | (rw [hy314]; exact H) | exact H
 have Ny314 := am_ hy314
 clear hy314
 have H' := am_ H
 clear H
 go_enter Tryd.func26, Tryd.ntmps26
 go_wp2_with (first | ((with_reducible refine gate_dst (N := 7) rfl ?_); refine Kd.R_make k83 _ 83 rfl (N := 7) rfl 27 _ _ rfl (l0.length : Int) rfl rfl Tryd.underlying27 (.agg #[(.int .i64 0), (.int .i64 0), (.slice none 0 0)]) 40 info83 rfl (by decide) (by omega) z83 (ok := fun _ => True) (okp := fun _ => True) (k83_mkM _ _ _ z83 (Kd.R_nil _ _ _ _ _)) (fun _ hk => hk) trivial (of_decide_eq_true as_) (Nat.le_trans (Nat.mul_le_mul_right _ (of_decide_eq_true as_ : (l0.length : Int).toNat ≤ 7036874417766)) (by omega)) (Below.refl _ _) (Nat.le_refl _) ?_; intro v315 w4 ho5 hb hg_ hnew_; clear hg_ hnew_; (first | rw [← Ny314.out] at ho5 | (simp only [Int.reduceToNat] at ho5; rw [← Ny314.out] at ho5)); have HO316 := am_ (Kd.R_lower ho5 (below_size bl_)); replace HB := hs_ w hb; clear hb ho5))
 go_loopg [4] k (fun kq v4 w' => ∃ (x3_1 : List (S83)) (x4_1 : Int), v4 = .int .i64 x4_1 ∧ Aside0 (F26.l0 kq l0 x3_1 x4_1 = some r) ∧ Aside0 (kq ≤ k) ∧ Aside0 (Kd.R k83 83 w' w.heap.size (fun _ => True) v315 x3_1) ∧ Aside0 (Below w.heap.size w w'))
 case atStart => exact ⟨(y314), (0), er_, H', ⟨Nat.le_refl _⟩, ⟨rk_ HO316⟩, ⟨bl_⟩⟩
 case round =>
  clear H'
  try clear c2
  try clear c2b0
  try clear c2b1
  try clear c3
  try clear c3b0
  try clear c3b1
  obtain ⟨x3_1, x4_1, rfl, HA, HK1, HO_3, HB⟩ := hrel
  cases gk with
  | zero => exact absurd HA.out (by simp [F26.l0])
  | succ k1 =>
   have H := HA.out
   clear HA
   simp only [F26.l0] at H
   replace H := it_ H; rcases H with ⟨c6b0, H⟩ | ⟨c6b0, H⟩
   rotate_left
   ·obtain rfl := Option.some.inj H
    go_wp2
    go_ret
    exact ⟨_, au2_0, rk_ HO_3, bl_⟩
   replace H := itn_ H; rcases H with ⟨c7b0, H⟩
   replace H := bi_ H; rcases H with ⟨⟨t318, t319, t320⟩, A8, H⟩
   replace H := itn_ H; rcases H with ⟨c9b0, H⟩
   obtain ⟨y323, hy323⟩ : ∃ y_ : List (S83), y_ = (x3_1.set (x4_1 : Int).toNat (⟨t318, t319, t320⟩ : S83)) := ⟨_, rfl⟩
   replace H : (F26.l0 k1 l0 y323 (wrap64 (x4_1 + 1))) = some r := by first | (rw [hy323]; exact H) | exact H
   have Ny323 := am_ hy323
   clear hy323
   have H' := am_ H
   clear H
   have p317 : 0 ≤ (x4_1 : Int) := od_
   have q317 : x4_1 < (l0.length : Int) := od_
   obtain ⟨ad317, A317_2, c317_2, e317, hx317_0, hx317_1, hx317_2, hl317_2, hi317_2⟩ := at_T98 HR0.out x4_1 p317 q317
   cases e317
   replace hx317_0 := (HB.out.cell (World.block_lt_of_cell? _ _ hx317_0)).trans hx317_0
   replace hx317_1 := (HB.out.cell (World.block_lt_of_cell? _ _ hx317_1)).trans hx317_1
   replace hx317_2 := (HB.out.cell (World.block_lt_of_cell? _ _ hx317_2)).trans hx317_2
   have HR317_2 := am_ hi317_2
   have HC317_2 := am_ hl317_2
   clear hi317_2 hl317_2
   replace p317 := eq_true p317
   replace q317 := eq_true q317
   go_wp2_with (first | ((with_reducible refine gate_callee (f := 54) rfl ?_); refine gl_ 20 Tryd.func54 #[.agg #[.int .i64 ((rd_T98 l0 x4_1).f0), .int .i64 ((rd_T98 l0 x4_1).f1), .slice A317_2 ((rd_T98 l0 x4_1).f2).length c317_2]] ?_ rfl rfl rfl rfl; (with_reducible refine (F54.calls k1 ((rd_T98 l0 x4_1).f0) ((rd_T98 l0 x4_1).f1) _ _ ((rd_T98 l0 x4_1).f2) t318 t319 t320 _ ?s1 ?s2 A8.out).mono ?_); (case s1 => repeat (first | exact (Kd.C_below HR317_2.out HB.out) | (with_reducible refine Kd.C_alloc ?_ _) | (with_reducible refine Kd.C_drewN ?_ _) | (with_reducible refine Kd.C_drew ?_))); (case s2 => exact HC317_2.out); rintro e w11 ⟨v321, rfl, ho0, hb⟩; refine ⟨_, rfl, ?_⟩; replace HO_3 := am_ (Kd.R_elder' (rk_ HO_3) (Kd.R_base ho0) hb); have HO322 := am_ (Kd.R_lower ho0 (below_size bl_)); replace HB := hs_ w hb; (try clear hb); (try clear ho0); have p10 : 0 ≤ (x4_1 : Int) := od_; have q10 : (x4_1 : Int) < ((x3_1.length : Int) : Int) := od_; obtain ⟨go10, co10, eo10, gb10, gl10, cl10, HG10⟩ := Kd.R_form HO_3.out (by omega); (first | cases eo10 | (injection eo10 with ea_ en_ ec_; (first | subst ea_ | (injection ea_ with ea_; subst ea_)); subst ec_; clear en_)); have GB10 := am_ gb10; have GG10 := am_ HG10; clear gb10 gl10 HG10; obtain ⟨ce10, hcl10, hM10, hcc10, hfr10⟩ := Kd.R_elem HO_3.out z83 (x4_1 : Int) p10 q10; obtain ⟨ve10_2, rfl, ge10_2⟩ := k83_openM hM10; have hx10_0 : w11.cell? ⟨go10, (x4_1 : Int).toNat * 3, none⟩ = some (.int .i64 ((rd_T83 x3_1 x4_1).f0)) := hcc10 0 _ rfl; have hx10_1 : w11.cell? ⟨go10, (x4_1 : Int).toNat * 3 + 1, none⟩ = some (.int .i64 ((rd_T83 x3_1 x4_1).f1)) := hcc10 1 _ rfl; have hx10_2 : w11.cell? ⟨go10, (x4_1 : Int).toNat * 3 + 2, none⟩ = some (ve10_2) := hcc10 2 _ rfl; have hf10_0 : w11.frozen? ⟨go10, (x4_1 : Int).toNat * 3, none⟩ = false := hfr10 0; have hf10_1 : w11.frozen? ⟨go10, (x4_1 : Int).toNat * 3 + 1, none⟩ = false := hfr10 1; have hf10_2 : w11.frozen? ⟨go10, (x4_1 : Int).toNat * 3 + 2, none⟩ = false := hfr10 2; clear hcl10 hcc10 hfr10 hM10; replace p10 := eq_true p10; replace q10 := eq_true q10; obtain ⟨Ao12, co12, eo12⟩ := Kd.R_slice HO322.out; subst eo12; have n_ := am_ (Kd.R_mono (ok' := (fun k_ => some k_ ≠ (.slice Ao12 t320.length co12 : Value).ownBlock)) HO_3.out (fun k_ hk => hk.2)); clear HO_3; have HO_3 := n_; clear n_; have HX13 := am_ (show Kd.R k83 83 w11 w.heap.size (fun _ => True) (.slice (some ⟨go10, 0, none⟩) x3_1.length co10) x3_1 from au2_1); obtain ⟨ce13, hcl13, hM13, hcc13, hfr13⟩ := Kd.R_elem HX13.out z83 (x4_1 : Int) (of_decide_eq_true as_) (by have h_ : (x4_1 : Int) < ((x3_1.length : Int) : Int) := od_; first | exact h_ | (have e_ := (Kd.R_reads' HO_3.out).1; omega) | simpa using h_); obtain ⟨ve13_2, rfl, ge13_2⟩ := k83_openM hM13; have HP13 := Kd.R_seg HX13.out (x4_1 : Int) (of_decide_eq_true as_) (by have h_ : (x4_1 : Int) < ((x3_1.length : Int) : Int) := od_; first | exact h_ | (have e_ := (Kd.R_reads' HO_3.out).1; omega) | simpa using h_) (seg := [.int .i64 t318, .int .i64 t319, .slice Ao12 t320.length co12]) (j := 0) hcl13 hcc13 (show 3 ≤ 3 from by decide) (x' := (⟨t318, t319, t320⟩ : S83)) (k83_mkM _ _ _ (⟨t318, t319, t320⟩ : S83) (Kd.R_mono (Kd.R_apart' (HO322.out) (Kd.R_typed HO_3.out) (by decide)) (fun k_ hk => ⟨trivial, fun e_ => (hk.2) (by rw [e_]; rfl)⟩))) (fun _ hk => hk); have hx13_0 := hcc13 0 _ rfl; (try simp only [show (k83).sz = 3 from rfl, Nat.mul_one, Nat.add_zero] at hx13_0); have hf13_0 := hfr13 0; (try simp only [show (k83).sz = 3 from rfl, Nat.mul_one, Nat.add_zero] at hf13_0); have hx13_1 := hcc13 1 _ rfl; (try simp only [show (k83).sz = 3 from rfl, Nat.mul_one, Nat.add_zero] at hx13_1); have hf13_1 := hfr13 1; (try simp only [show (k83).sz = 3 from rfl, Nat.mul_one, Nat.add_zero] at hf13_1); have hx13_2 := hcc13 2 _ rfl; (try simp only [show (k83).sz = 3 from rfl, Nat.mul_one, Nat.add_zero] at hx13_2); have hf13_2 := hfr13 2; (try simp only [show (k83).sz = 3 from rfl, Nat.mul_one, Nat.add_zero] at hf13_2); clear hcl13 hcc13 hfr13 hM13) | ((with_reducible refine gate_store (t := 83) (p := 21) rfl ?_); refine store_event (t := 83) (p := 21) (v := ?vo_w14) (w1 := (((w11.setCell ⟨go10, (x4_1 : Int).toNat * 3, none⟩ (.int .i64 t318)).setCell ⟨go10, (x4_1 : Int).toNat * 3 + 1, none⟩ (.int .i64 t319)).setCell ⟨go10, (x4_1 : Int).toNat * 3 + 2, none⟩ (.slice Ao12 t320.length co12))) ?hg ?ho ?hn ?hr ?_; (case ho => rfl); (case hg => rfl); (case hn => rfl); (case hr => exact hr_); intro w14 hw; have hg : w11.grownBy w14 (some go10) := (by rw [hw]; exact HP13.2); have hp_ : Kd.R k83 83 w14 w.heap.size (fun _ => True) (.slice (some ⟨go10, 0, none⟩) x3_1.length co10) y323 := (by rw [hw, Ny323.out]; exact HP13.1); clear HP13; have n0_ := am_ (hp_); have n1_ := am_ ((by rw [hw]; exact below_set (below_set (below_set (HB.out) GB10.out) GB10.out) GB10.out : Below w.heap.size w w14)); clear HO_3; clear HB; clear HO322; have HO_3 := n0_; have HB := n1_; clear n0_ n1_; clear hg hw hp_))
   go_roundg k1
   case measure => have := HK1.out; omega
   case rel => exact ⟨(y323), (wrap64 (x4_1 + 1)), er_, H', ⟨by have := HK1.out; omega⟩, ⟨rk_ HO_3⟩, ⟨bl_⟩⟩
/-! ### F8: function 8 -/
def F8.f (k : Nat) (a0_0 : ByteArray) (a0_1 : ByteArray) (a0_2 : Int) (l0_3 : List (S98)) : Option (ByteArray × ByteArray × Int × (List (S83))) := (F26.f k l0_3).bind fun t327 => (some (a0_0, a0_1, a0_2, t327))
theorem F8.mono : ∀ a0 a1 a2 a3 k, LeO (F8.f k a0 a1 a2 a3) (F8.f (k + 1) a0 a1 a2 a3) := by
 intro a0 a1 a2 a3 k
 unfold F8.f
 repeat' with_reducible first | exact F26.mono _ _ | exact LeO.refl _ | exact LeO.none _ | refine LeO.ite ?_ ?_ | refine LeO.bind ?_ (fun _ => ?_)
theorem F8.calls (k : Nat) (a0_0 : ByteArray) (a0_1 : ByteArray) (a0_2 : Int) (A0_3 : Option Addr) (c0_3 : Nat) (l0_3 : List (S98)) (r1 : ByteArray) (r2 : ByteArray) (r3 : Int) (r4 : List (S83)) (w : World) (hr0_3 : Kd.C k98 w A0_3 l0_3.length l0_3) (hc0_3 : l0_3.length ≤ c0_3) (h : F8.f k a0_0 a0_1 a0_2 l0_3 = some (r1, r2, r3, r4)) :
  Calls Tryd.prog 8 #[.agg #[.string a0_0, .string a0_1, .int .i64 a0_2, .slice A0_3 l0_3.length c0_3]] w fun e w' => ∃ v3_ : Value, e = .returned (.agg #[.string r1, .string r2, .int .i64 r3, v3_]) ∧ Kd.R k83 83 w' w.heap.size (fun _ => True) v3_ r4 ∧ Below w.heap.size w w' := by
 have hu24 := Tryd.underlying24
 have hu29 := Tryd.underlying29
 have HR0_3 := am_ hr0_3
 have HC0_3 := am_ hc0_3
 clear hr0_3 hc0_3
 have HB := am_ (Below.refl w.heap.size w)
 have H : ((F26.f k l0_3).bind fun t327 => (some (a0_0, a0_1, a0_2, t327))) = some (r1, r2, r3, r4) := h
 clear h
 replace H := bi_ H; rcases H with ⟨t327, A2, H⟩
 simp only [Option.some.injEq, Prod.mk.injEq] at H
 obtain ⟨rfl, rfl, rfl, rfl⟩ := H
 go_enter Tryd.func8, Tryd.ntmps8
 go_wp2_with (first | ((with_reducible refine gate_dst (N := 1) rfl ?_); refine be_ 1 #[.string a0_0, .string a0_1, .int .i64 a0_2, .slice A0_3 l0_3.length c0_3] 24 ?_; intro gb324 hg w3 hbox hb; have BK324 := am_ (hbox); have GW324 := am_ (gw_ hg bl_); have GE324 := GW324; replace HB := hs_ w hb; clear hb hbox hg) | ((with_reducible refine gate_dst (N := 2) rfl ?_); refine be_ 2 #[.string (⟨#[]⟩ : ByteArray), .string (⟨#[]⟩ : ByteArray), .int .i64 0, .slice none 0 0] 29 ?_; intro gb325 hg w4 hbox hb; have BK325 := am_ (hbox); have GW325 := am_ (gw_ hg bl_); have GE325 := GW325; replace HB := hs_ w hb; have NB324_325 := am_ (gn_ hg (blkl_ BK324)); have NB325_324 := am_ (gm_ hg (blkl_ BK324)); replace BK324 := bb_ BK324 hb; clear hb hbox hg) | ((with_reducible refine gate_dst (N := 3) rfl ?_); refine be_ 3 #[.string (⟨#[]⟩ : ByteArray), .string (⟨#[]⟩ : ByteArray), .int .i64 0, .slice none 0 0] 29 ?_; intro gb326 hg w5 hbox hb; have BK326 := am_ (hbox); have GW326 := am_ (gw_ hg bl_); have GE326 := GW326; replace HB := hs_ w hb; have NB324_326 := am_ (gn_ hg (blkl_ BK324)); have NB326_324 := am_ (gm_ hg (blkl_ BK324)); replace BK324 := bb_ BK324 hb; have NB325_326 := am_ (gn_ hg (blkl_ BK325)); have NB326_325 := am_ (gm_ hg (blkl_ BK325)); replace BK325 := bb_ BK325 hb; clear hb hbox hg; have hnb6 := NB324_325.out; have hnc6 := NB325_324.out; have hnb7 := NB324_326.out; have hnc7 := NB326_324.out; obtain ⟨hcz8_0, hcz8_1, hcz8_2, hcz8_3, hfz8_0, hfz8_1, hfz8_2, hfz8_3⟩ := cellsF4 BK324.out; have hnb9 := NB326_325.out; have hnc9 := NB325_326.out; obtain ⟨hcz10_0, hcz10_1, hcz10_2, hcz10_3, hfz10_0, hfz10_1, hfz10_2, hfz10_3⟩ := cellsF4 BK326.out) | ((with_reducible refine gate_callee (f := 26) rfl ?_); refine gl_ 15 Tryd.func26 #[.slice A0_3 l0_3.length c0_3] ?_ rfl rfl rfl rfl; (with_reducible refine (F26.calls k _ _ l0_3 t327 _ ?s1 ?s2 A2.out).mono ?_); (case s1 => exact Kd.C_below HR0_3.out bl_); (case s2 => exact HC0_3.out); rintro e w11 ⟨v328, rfl, ho0, hb⟩; refine ⟨_, rfl, ?_⟩; have HO329 := am_ (Kd.R_lower ho0 (below_size bl_)); replace BK324 := am_ (blk_below (g := gb324) (o := .cells #[.string a0_0, .string a0_1, .int .i64 a0_2, .slice A0_3 l0_3.length c0_3] 24 (0, 0)) (bf_ BK324) hb); replace BK325 := am_ (blk_below (g := gb325) (o := .cells #[.string (⟨#[]⟩ : ByteArray), .string (⟨#[]⟩ : ByteArray), .int .i64 0, .slice none 0 0] 29 (0, 0)) (bf_ BK325) hb); replace BK326 := am_ (blk_below (g := gb326) (o := .cells #[.string a0_0, .string a0_1, .int .i64 a0_2, .slice none 0 0] 29 (0, 0)) (bq_ BK326) hb); replace HB := hs_ w hb; (try clear hb); (try clear ho0); obtain ⟨Ao12, co12, eo12⟩ := Kd.R_slice HO329.out; subst eo12; obtain ⟨hcz13_0, hcz13_1, hcz13_2, hcz13_3, hfz13_0, hfz13_1, hfz13_2, hfz13_3⟩ := cellsF4 BK326.out; obtain ⟨hcz14_0, hcz14_1, hcz14_2, hcz14_3, hfz14_0, hfz14_1, hfz14_2, hfz14_3⟩ := cellsF4 BK325.out))
 refine bodyPost_ret (results_cell_row rfl _ _ gb325 29 #[.string a0_0, .string a0_1, .int .i64 a0_2, .slice Ao12 t327.length co12] (0, 0) _ rfl (bq_ BK325) Tryd.underlying29 rfl (by kernel_rfl)) rfl ?_
 exact ⟨_, au2_0, by (with_reducible repeat (first | apply Kd.R_alloc | apply Kd.R_drewN | apply Kd.R_drew)); exact Kd.R_mono (Kd.R_far (p := ⟨gb325, 3, none⟩) (Kd.R_far (p := ⟨gb325, 2, none⟩) (Kd.R_far (p := ⟨gb325, 1, none⟩) (Kd.R_far (p := ⟨gb325, 0, none⟩) (Kd.R_far (p := ⟨gb326, 3, none⟩) (Kd.R_types (Kd.R_types HO329.out BK326.out (by decide)) BK325.out (by decide)) (fun _ hk => hk.1.2) (.slice Ao12 t327.length co12)) (fun _ hk => hk.2) (.string a0_0)) (fun _ hk => hk.2) (.string a0_1)) (fun _ hk => hk.2) (.int .i64 a0_2)) (fun _ hk => hk.2) (.slice Ao12 t327.length co12)) (fun _ hk => trivial), bl_⟩

/-! ### F83: function 83 -/
def F83.f (a0 : Int) (a1 : Int) (a2 : Int) : Option (Bool) := if a1 ≤ a0 then (some (decide (a0 ≤ a2))) else (some false)
theorem F83.calls (a0 : Int) (a1 : Int) (a2 : Int) (r : Bool) (w : World) (h : F83.f a0 a1 a2 = some r) :
  Calls Tryd.prog 83 #[.int .i64 a0, .int .i64 a1, .int .i64 a2] w fun e w' => e = .returned (.bool r) ∧ Drawn0 w w' := by
 have H : (if a1 ≤ a0 then (some (decide (a0 ≤ a2))) else (some false)) = some r := h
 clear h
 replace H := it_ H; rcases H with ⟨c4b0, H⟩ | ⟨c4b0, H⟩
 ·obtain rfl := Option.some.inj H
  go_enter Tryd.func83, Tryd.ntmps83
  go_wp2
  go_ret
  exact ⟨er_, dn_⟩
 obtain rfl := Option.some.inj H
 go_enter Tryd.func83, Tryd.ntmps83
 go_wp2
 go_ret
 exact ⟨er_, dn_⟩

/-! ### F93: function 93 -/
def F93.f (a0 : Int) : Option (Bool) := if a0 ≥ 65 then (some (decide (a0 ≤ 90))) else (some false)
theorem F93.calls (a0 : Int) (r : Bool) (w : World) (h : F93.f a0 = some r) :
  Calls Tryd.prog 93 #[.int .u8 a0] w fun e w' => e = .returned (.bool r) ∧ Drawn0 w w' := by
 have H : (if a0 ≥ 65 then (some (decide (a0 ≤ 90))) else (some false)) = some r := h
 clear h
 replace H := it_ H; rcases H with ⟨(c2b0 : decide (65 ≤ a0) = true), H⟩ | ⟨(c2b0 : decide (65 ≤ a0) = false), H⟩
 ·obtain rfl := Option.some.inj H
  go_enter Tryd.func93, Tryd.ntmps93
  go_wp2
  go_ret
  exact ⟨er_, dn_⟩
 obtain rfl := Option.some.inj H
 go_enter Tryd.func93, Tryd.ntmps93
 go_wp2
 go_ret
 exact ⟨er_, dn_⟩

/-! ### F94: function 94 -/
def F94.f (a0 : Int) : Option (Bool) := if a0 ≥ 48 then (some (decide (a0 ≤ 57))) else (some false)
theorem F94.calls (a0 : Int) (r : Bool) (w : World) (h : F94.f a0 = some r) :
  Calls Tryd.prog 94 #[.int .u8 a0] w fun e w' => e = .returned (.bool r) ∧ Drawn0 w w' := by
 have H : (if a0 ≥ 48 then (some (decide (a0 ≤ 57))) else (some false)) = some r := h
 clear h
 replace H := it_ H; rcases H with ⟨(c2b0 : decide (48 ≤ a0) = true), H⟩ | ⟨(c2b0 : decide (48 ≤ a0) = false), H⟩
 ·obtain rfl := Option.some.inj H
  go_enter Tryd.func94, Tryd.ntmps94
  go_wp2
  go_ret
  exact ⟨er_, dn_⟩
 obtain rfl := Option.some.inj H
 go_enter Tryd.func94, Tryd.ntmps94
 go_wp2
 go_ret
 exact ⟨er_, dn_⟩

/-! ### F61: function 61 -/
def F61.l0 : Nat → ByteArray → Int → Int → Option (Bool)
  | 0, _, _, _ => none
  | k + 1, x0, x5, x6 => if x6 < x5 then (if 0 ≤ x6 then (if x6 < (x0.size : Int) then ((F93.f (bt x0 x6)).bind fun t331 => (if t331 = true then (F61.l0 k x0 x5 (wrap64 (x6 + 1))) else (if x6 = 0 then (some false) else ((F94.f (bt x0 x6)).bind fun t332 => (if t332 = true then (F61.l0 k x0 x5 (wrap64 (x6 + 1))) else (if (bt x0 x6) = 45 then (F61.l0 k x0 x5 (wrap64 (x6 + 1))) else (some false))))))) else (none)) else (none)) else ((F83.f (x0.size : Int) 1 12).bind fun t330 => (some t330))
def F61.f (k : Nat) (a0 : ByteArray) : Option (Bool) := F61.l0 k a0 (a0.size : Int) 0
theorem F61.mono_l : ∀ k, (∀ y0 y1 y2, LeO (F61.l0 k y0 y1 y2) (F61.l0 (k + 1) y0 y1 y2))
 | 0 => fun _ _ _ r h => by simp [F61.l0] at h
 | k + 1 => by
  have ih0 := F61.mono_l k
  intro y0 y1 y2
  unfold F61.l0
  repeat' with_reducible first | exact ih0 _ _ _ | exact LeO.refl _ | exact LeO.none _ | refine LeO.ite ?_ ?_ | refine LeO.bind ?_ (fun _ => ?_)
theorem F61.mono : ∀ a0 k, LeO (F61.f k a0) (F61.f (k + 1) a0) := by
 intro a0 k
 have ih0 := F61.mono_l k
 unfold F61.f
 repeat' with_reducible first | exact ih0 _ _ _ | exact LeO.refl _ | exact LeO.none _ | refine LeO.ite ?_ ?_ | refine LeO.bind ?_ (fun _ => ?_)
theorem F61.calls (k : Nat) (a0 : ByteArray) (r : Bool) (w : World) (h : F61.f k a0 = some r) :
  Calls Tryd.prog 61 #[.string a0] w fun e w' => e = .returned (.bool r) ∧ Drawn0 w w' := by
 have H : (F61.l0 k a0 (a0.size : Int) 0) = some r := h
 clear h
 have H' := am_ H
 clear H
 go_enter Tryd.func61, Tryd.ntmps61
 go_wp2
 go_loopg [6] k (fun kq v6 w' => ∃ (x6_1 : Int), v6 = .int .i64 x6_1 ∧ Aside0 (F61.l0 kq a0 (a0.size : Int) x6_1 = some r) ∧ Aside0 (kq ≤ k) ∧ Drawn0 w w')
 case atStart => exact ⟨(0), er_, H', ⟨Nat.le_refl _⟩, dn_⟩
 case round =>
  clear H'
  obtain ⟨x6_1, rfl, HA, HK1, ⟨m1, rfl⟩⟩ := hrel
  cases gk with
  | zero => exact absurd HA.out (by simp [F61.l0])
  | succ k1 =>
   have H := HA.out
   clear HA
   simp only [F61.l0] at H
   replace H := it_ H; rcases H with ⟨c2b0, H⟩ | ⟨c2b0, H⟩
   rotate_left
   ·replace H := bi_ H; rcases H with ⟨t330, A14, H⟩
    obtain rfl := Option.some.inj H
    go_wp2_with (first | ((with_reducible refine gate_callee (f := 83) rfl ?_); refine gl_ 34 Tryd.func83 #[.int .i64 (a0.size : Int), .int .i64 1, .int .i64 12] ?_ rfl rfl rfl rfl; (with_reducible refine (F83.calls (a0.size : Int) 1 12 t330 _ A14.out).mono ?_); rintro e w' ⟨rfl, ⟨nd, rfl⟩⟩; refine ⟨_, rfl, ?_⟩))
    go_ret
    exact ⟨er_, dn_⟩

   replace H := itn_ H; rcases H with ⟨c3b0, H⟩
   replace H := itn_ H; rcases H with ⟨c4b0, H⟩
   replace H := bi_ H; rcases H with ⟨t331, A6, H⟩
   replace H := ib_ H; rcases H with ⟨rfl, H⟩ | ⟨rfl, H⟩
   ·have H' := am_ H
    clear H
    have p5 : 0 ≤ (x6_1 : Int) := od_
    have q5 : x6_1 < (a0.size : Int) := od_
    have hx5 := bt_at a0 x6_1
    replace p5 := eq_true p5
    replace q5 := eq_true q5
    go_wp2_with (first | ((with_reducible refine gate_callee (f := 93) rfl ?_); refine gl_ 12 Tryd.func93 #[.int .u8 (bt a0 x6_1)] ?_ rfl rfl rfl rfl; (with_reducible refine (F93.calls (bt a0 x6_1) true _ A6.out).mono ?_); rintro e w' ⟨rfl, ⟨nd, rfl⟩⟩; refine ⟨_, rfl, ?_⟩))
    go_roundg k1
    case measure => have := HK1.out; omega
    case rel => exact ⟨(wrap64 (x6_1 + 1)), er_, H', ⟨by have := HK1.out; omega⟩, dn_⟩
   by_cases c8 : x6_1 = 0
   ·rw [if_pos c8] at H
    have c8b0 : (x6_1 == 0) = true := beq_iff_eq.mpr c8
    have c8b1 : (x6_1 != 0) = false := bne_eq_false_iff_eq.mpr c8
    clear c8
    obtain rfl := Option.some.inj H
    have p5 : 0 ≤ (x6_1 : Int) := od_
    have q5 : x6_1 < (a0.size : Int) := od_
    have hx5 := bt_at a0 x6_1
    replace p5 := eq_true p5
    replace q5 := eq_true q5
    go_wp2_with (first | ((with_reducible refine gate_callee (f := 93) rfl ?_); refine gl_ 12 Tryd.func93 #[.int .u8 (bt a0 x6_1)] ?_ rfl rfl rfl rfl; (with_reducible refine (F93.calls (bt a0 x6_1) false _ A6.out).mono ?_); rintro e w' ⟨rfl, ⟨nd, rfl⟩⟩; refine ⟨_, rfl, ?_⟩))
    go_ret
    exact ⟨er_, dn_⟩
   rw [if_neg c8] at H
   have c8b0 : (x6_1 == 0) = false := beq_eq_false_iff_ne.mpr c8
   have c8b1 : (x6_1 != 0) = true := bne_iff_ne.mpr c8
   replace H := bi_ H; rcases H with ⟨t332, A10, H⟩
   replace H := ib_ H; rcases H with ⟨rfl, H⟩ | ⟨rfl, H⟩
   ·have H' := am_ H
    clear H
    have p5 : 0 ≤ (x6_1 : Int) := od_
    have q5 : x6_1 < (a0.size : Int) := od_
    have hx5 := bt_at a0 x6_1
    replace p5 := eq_true p5
    replace q5 := eq_true q5
    go_wp2_with (first | ((with_reducible refine gate_callee (f := 93) rfl ?_); refine gl_ 12 Tryd.func93 #[.int .u8 (bt a0 x6_1)] ?_ rfl rfl rfl rfl; (with_reducible refine (F93.calls (bt a0 x6_1) false _ A6.out).mono ?_); rintro e w' ⟨rfl, ⟨nd, rfl⟩⟩; refine ⟨_, rfl, ?_⟩; have p9 : 0 ≤ (x6_1 : Int) := od_; have q9 : x6_1 < (a0.size : Int) := od_; have hx9 := bt_at a0 x6_1; replace p9 := eq_true p9; replace q9 := eq_true q9) | (go_at_call 94; (with_reducible refine (F94.calls (bt a0 x6_1) true _ A10.out).mono ?_); rintro e w' ⟨rfl, ⟨nd, rfl⟩⟩))
    go_roundg k1
    case measure => have := HK1.out; omega
    case rel => exact ⟨(wrap64 (x6_1 + 1)), er_, H', ⟨by have := HK1.out; omega⟩, dn_⟩
   by_cases c13 : (bt a0 x6_1) = 45
   rotate_left
   ·rw [if_neg c13] at H
    have c13b0 : ((bt a0 x6_1) == 45) = false := beq_eq_false_iff_ne.mpr c13
    have c13b1 : ((bt a0 x6_1) != 45) = true := bne_iff_ne.mpr c13
    obtain rfl := Option.some.inj H
    have p5 : 0 ≤ (x6_1 : Int) := od_
    have q5 : x6_1 < (a0.size : Int) := od_
    have hx5 := bt_at a0 x6_1
    replace p5 := eq_true p5
    replace q5 := eq_true q5
    go_wp2_with (first | ((with_reducible refine gate_callee (f := 93) rfl ?_); refine gl_ 12 Tryd.func93 #[.int .u8 (bt a0 x6_1)] ?_ rfl rfl rfl rfl; (with_reducible refine (F93.calls (bt a0 x6_1) false _ A6.out).mono ?_); rintro e w' ⟨rfl, ⟨nd, rfl⟩⟩; refine ⟨_, rfl, ?_⟩; have p9 : 0 ≤ (x6_1 : Int) := od_; have q9 : x6_1 < (a0.size : Int) := od_; have hx9 := bt_at a0 x6_1; replace p9 := eq_true p9; replace q9 := eq_true q9) | (go_at_call 94; (with_reducible refine (F94.calls (bt a0 x6_1) false _ A10.out).mono ?_); rintro e w' ⟨rfl, ⟨nd, rfl⟩⟩; have p12 : 0 ≤ (x6_1 : Int) := od_; have q12 : x6_1 < (a0.size : Int) := od_; have hx12 := bt_at a0 x6_1; replace p12 := eq_true p12; replace q12 := eq_true q12))
    go_ret
    exact ⟨er_, dn_⟩
   rw [if_pos c13] at H
   have c13b0 : ((bt a0 x6_1) == 45) = true := beq_iff_eq.mpr c13
   have c13b1 : ((bt a0 x6_1) != 45) = false := bne_eq_false_iff_eq.mpr c13
   clear c13
   have H' := am_ H
   clear H
   have p5 : 0 ≤ (x6_1 : Int) := od_
   have q5 : x6_1 < (a0.size : Int) := od_
   have hx5 := bt_at a0 x6_1
   replace p5 := eq_true p5
   replace q5 := eq_true q5
   go_wp2_with (first | ((with_reducible refine gate_callee (f := 93) rfl ?_); refine gl_ 12 Tryd.func93 #[.int .u8 (bt a0 x6_1)] ?_ rfl rfl rfl rfl; (with_reducible refine (F93.calls (bt a0 x6_1) false _ A6.out).mono ?_); rintro e w' ⟨rfl, ⟨nd, rfl⟩⟩; refine ⟨_, rfl, ?_⟩; have p9 : 0 ≤ (x6_1 : Int) := od_; have q9 : x6_1 < (a0.size : Int) := od_; have hx9 := bt_at a0 x6_1; replace p9 := eq_true p9; replace q9 := eq_true q9) | (go_at_call 94; (with_reducible refine (F94.calls (bt a0 x6_1) false _ A10.out).mono ?_); rintro e w' ⟨rfl, ⟨nd, rfl⟩⟩; have p12 : 0 ≤ (x6_1 : Int) := od_; have q12 : x6_1 < (a0.size : Int) := od_; have hx12 := bt_at a0 x6_1; replace p12 := eq_true p12; replace q12 := eq_true q12))
   go_roundg k1
   case measure => have := HK1.out; omega
   case rel => exact ⟨(wrap64 (x6_1 + 1)), er_, H', ⟨by have := HK1.out; omega⟩, dn_⟩
/-! ### F82: function 82 -/
def F82.f (a0 : Int) : Option (Bool) := (F83.f a0 1 999999).bind fun t333 => (some t333)
theorem F82.calls (a0 : Int) (r : Bool) (w : World) (h : F82.f a0 = some r) :
  Calls Tryd.prog 82 #[.int .i64 a0] w fun e w' => e = .returned (.bool r) ∧ Drawn0 w w' := by
 have H : ((F83.f a0 1 999999).bind fun t333 => (some t333)) = some r := h
 clear h
 replace H := bi_ H; rcases H with ⟨t333, A2, H⟩
 obtain rfl := Option.some.inj H
 go_enter Tryd.func82, Tryd.ntmps82
 go_wp2_with (first | ((with_reducible refine gate_callee (f := 83) rfl ?_); refine gl_ 4 Tryd.func83 #[.int .i64 a0, .int .i64 1, .int .i64 999999] ?_ rfl rfl rfl rfl; (with_reducible refine (F83.calls a0 1 999999 t333 _ A2.out).mono ?_); rintro e w' ⟨rfl, ⟨nd, rfl⟩⟩; refine ⟨_, rfl, ?_⟩))
 go_ret
 exact ⟨er_, dn_⟩

/-! ### F137: function 137 -/
def F137.l0 : Nat → ByteArray → Int → Int → Option (Bool)
  | 0, _, _, _ => none
  | k + 1, x0, x5, x6 => if x6 < x5 then (if 0 ≤ x6 then (if x6 < (x0.size : Int) then (if (bt x0 x6) < 32 then (some false) else (if (bt x0 x6) > 126 then (some false) else (F137.l0 k x0 x5 (wrap64 (x6 + 1))))) else (none)) else (none)) else (some true)
def F137.f (k : Nat) (a0 : ByteArray) : Option (Bool) := F137.l0 k a0 (a0.size : Int) 0
theorem F137.mono_l : ∀ k, (∀ y0 y1 y2, LeO (F137.l0 k y0 y1 y2) (F137.l0 (k + 1) y0 y1 y2))
 | 0 => fun _ _ _ r h => by simp [F137.l0] at h
 | k + 1 => by
  have ih0 := F137.mono_l k
  intro y0 y1 y2
  unfold F137.l0
  repeat' with_reducible first | exact ih0 _ _ _ | exact LeO.refl _ | exact LeO.none _ | refine LeO.ite ?_ ?_ | refine LeO.bind ?_ (fun _ => ?_)
theorem F137.mono : ∀ a0 k, LeO (F137.f k a0) (F137.f (k + 1) a0) := by
 intro a0 k
 have ih0 := F137.mono_l k
 unfold F137.f
 repeat' with_reducible first | exact ih0 _ _ _ | exact LeO.refl _ | exact LeO.none _ | refine LeO.ite ?_ ?_ | refine LeO.bind ?_ (fun _ => ?_)
theorem F137.calls (k : Nat) (a0 : ByteArray) (r : Bool) (w : World) (h : F137.f k a0 = some r) :
  Calls Tryd.prog 137 #[.string a0] w fun e w' => e = .returned (.bool r) ∧ Drawn0 w w' := by
 have H : (F137.l0 k a0 (a0.size : Int) 0) = some r := h
 clear h
 have H' := am_ H
 clear H
 go_enter Tryd.func137, Tryd.ntmps137
 go_wp2
 go_loopg [6] k (fun kq v6 w' => ∃ (x6_1 : Int), v6 = .int .i64 x6_1 ∧ Aside0 (F137.l0 kq a0 (a0.size : Int) x6_1 = some r) ∧ Aside0 (kq ≤ k) ∧ Drawn0 w w')
 case atStart => exact ⟨(0), er_, H', ⟨Nat.le_refl _⟩, dn_⟩
 case round =>
  clear H'
  obtain ⟨x6_1, rfl, HA, HK1, ⟨m1, rfl⟩⟩ := hrel
  cases gk with
  | zero => exact absurd HA.out (by simp [F137.l0])
  | succ k1 =>
   have H := HA.out
   clear HA
   simp only [F137.l0] at H
   replace H := it_ H; rcases H with ⟨c2b0, H⟩ | ⟨c2b0, H⟩
   rotate_left
   ·obtain rfl := Option.some.inj H
    go_wp2
    go_ret
    exact ⟨er_, dn_⟩

   replace H := itn_ H; rcases H with ⟨c3b0, H⟩
   replace H := itn_ H; rcases H with ⟨c4b0, H⟩
   replace H := it_ H; rcases H with ⟨c6b0, H⟩ | ⟨c6b0, H⟩
   ·obtain rfl := Option.some.inj H
    have p5 : 0 ≤ (x6_1 : Int) := od_
    have q5 : x6_1 < (a0.size : Int) := od_
    have hx5 := bt_at a0 x6_1
    replace p5 := eq_true p5
    replace q5 := eq_true q5
    go_wp2
    go_ret
    exact ⟨er_, dn_⟩
   replace H := it_ H; rcases H with ⟨(c8b0 : decide (126 < (bt a0 x6_1)) = true), H⟩ | ⟨(c8b0 : decide (126 < (bt a0 x6_1)) = false), H⟩
   ·obtain rfl := Option.some.inj H
    have p5 : 0 ≤ (x6_1 : Int) := od_
    have q5 : x6_1 < (a0.size : Int) := od_
    have hx5 := bt_at a0 x6_1
    replace p5 := eq_true p5
    replace q5 := eq_true q5
    have p7 : 0 ≤ (x6_1 : Int) := od_
    have q7 : x6_1 < (a0.size : Int) := od_
    have hx7 := bt_at a0 x6_1
    replace p7 := eq_true p7
    replace q7 := eq_true q7
    go_wp2
    go_ret
    exact ⟨er_, dn_⟩
   have H' := am_ H
   clear H
   have p5 : 0 ≤ (x6_1 : Int) := od_
   have q5 : x6_1 < (a0.size : Int) := od_
   have hx5 := bt_at a0 x6_1
   replace p5 := eq_true p5
   replace q5 := eq_true q5
   have p7 : 0 ≤ (x6_1 : Int) := od_
   have q7 : x6_1 < (a0.size : Int) := od_
   have hx7 := bt_at a0 x6_1
   replace p7 := eq_true p7
   replace q7 := eq_true q7
   go_wp2
   go_roundg k1
   case measure => have := HK1.out; omega
   case rel => exact ⟨(wrap64 (x6_1 + 1)), er_, H', ⟨by have := HK1.out; omega⟩, dn_⟩
/-! ### F123: function 123 -/
def F123.f (k : Nat) (a0 : ByteArray) : Option (Bool) := if (a0.size : Int) ≤ 40 then ((F137.f k a0).bind fun t334 => (some t334)) else (some false)
theorem F123.mono : ∀ a0 k, LeO (F123.f k a0) (F123.f (k + 1) a0) := by
 intro a0 k
 unfold F123.f
 repeat' with_reducible first | exact F137.mono _ _ | exact LeO.refl _ | exact LeO.none _ | refine LeO.ite ?_ ?_ | refine LeO.bind ?_ (fun _ => ?_)
theorem F123.calls (k : Nat) (a0 : ByteArray) (r : Bool) (w : World) (h : F123.f k a0 = some r) :
  Calls Tryd.prog 123 #[.string a0] w fun e w' => e = .returned (.bool r) ∧ Drawn0 w w' := by
 have H : (if (a0.size : Int) ≤ 40 then ((F137.f k a0).bind fun t334 => (some t334)) else (some false)) = some r := h
 clear h
 replace H := it_ H; rcases H with ⟨c2b0, H⟩ | ⟨c2b0, H⟩
 rotate_left
 ·have c2b1 : decide (a0.size ≤ 40) = false := n2_ c2b0
  obtain rfl := Option.some.inj H
  go_enter Tryd.func123, Tryd.ntmps123
  go_wp2
  go_ret
  exact ⟨er_, dn_⟩

 have c2b1 : decide (a0.size ≤ 40) = true := n2_ c2b0
 replace H := bi_ H; rcases H with ⟨t334, A3, H⟩
 obtain rfl := Option.some.inj H
 go_enter Tryd.func123, Tryd.ntmps123
 go_wp2_with (first | (go_at_call 137; (with_reducible refine (F137.calls k a0 t334 _ A3.out).mono ?_); rintro e w' ⟨rfl, ⟨nd, rfl⟩⟩))
 go_ret
 exact ⟨er_, dn_⟩
/-! ### F122: function 122 -/
def F122.f (k : Nat) (a0 : ByteArray) : Option (Bool) := (F123.f k a0).bind fun t335 => (some (!t335))
theorem F122.mono : ∀ a0 k, LeO (F122.f k a0) (F122.f (k + 1) a0) := by
 intro a0 k
 unfold F122.f
 repeat' with_reducible first | exact F123.mono _ _ | exact LeO.refl _ | exact LeO.none _ | refine LeO.ite ?_ ?_ | refine LeO.bind ?_ (fun _ => ?_)
theorem F122.calls (k : Nat) (a0 : ByteArray) (r : Bool) (w : World) (h : F122.f k a0 = some r) :
  Calls Tryd.prog 122 #[.string a0] w fun e w' => e = .returned (.bool r) ∧ Drawn0 w w' := by
 have H : ((F123.f k a0).bind fun t335 => (some (!t335))) = some r := h
 clear h
 replace H := bi_ H; rcases H with ⟨t335, A2, H⟩
 obtain rfl := Option.some.inj H
 go_enter Tryd.func122, Tryd.ntmps122
 go_wp2_with (first | ((with_reducible refine gate_callee (f := 123) rfl ?_); refine gl_ 4 Tryd.func123 #[.string a0] ?_ rfl rfl rfl rfl; (with_reducible refine (F123.calls k a0 t335 _ A2.out).mono ?_); rintro e w' ⟨rfl, ⟨nd, rfl⟩⟩; refine ⟨_, rfl, ?_⟩))
 go_ret
 exact ⟨er_, dn_⟩

/-! ### F124: function 124 -/
def F124.f (a0 : ByteArray) : Option (Bool) := if (a0.size : Int) = 3 then (if 0 < (a0.size : Int) then ((F93.f (bt a0 0)).bind fun t336 => (if t336 = true then (if 1 < (a0.size : Int) then ((F93.f (bt a0 1)).bind fun t337 => (if t337 = true then (if 2 < (a0.size : Int) then ((F93.f (bt a0 2)).bind fun t338 => (some t338)) else (none)) else (some false))) else (none)) else (some false))) else (none)) else (some false)
theorem F124.calls (a0 : ByteArray) (r : Bool) (w : World) (h : F124.f a0 = some r) :
  Calls Tryd.prog 124 #[.string a0] w fun e w' => e = .returned (.bool r) ∧ Drawn0 w w' := by
 have H : (if (a0.size : Int) = 3 then (if 0 < (a0.size : Int) then ((F93.f (bt a0 0)).bind fun t336 => (if t336 = true then (if 1 < (a0.size : Int) then ((F93.f (bt a0 1)).bind fun t337 => (if t337 = true then (if 2 < (a0.size : Int) then ((F93.f (bt a0 2)).bind fun t338 => (some t338)) else (none)) else (some false))) else (none)) else (some false))) else (none)) else (some false)) = some r := h
 clear h
 by_cases c2 : (a0.size : Int) = 3
 rotate_left
 ·rw [if_neg c2] at H
  have c2b0 : ((a0.size : Int) == 3) = false := beq_eq_false_iff_ne.mpr c2
  have c2b1 : ((a0.size : Int) != 3) = true := bne_iff_ne.mpr c2
  obtain rfl := Option.some.inj H
  go_enter Tryd.func124, Tryd.ntmps124
  go_wp2
  go_ret
  exact ⟨er_, dn_⟩

 rw [if_pos c2] at H
 have c2b0 : ((a0.size : Int) == 3) = true := beq_iff_eq.mpr c2
 have c2b1 : ((a0.size : Int) != 3) = false := bne_eq_false_iff_eq.mpr c2
 clear c2
 replace H := itn_ H; rcases H with ⟨c3b0, H⟩
 have c3b1 : decide (0 < a0.size) = true := n2_ c3b0
 replace H := bi_ H; rcases H with ⟨t336, A5, H⟩
 replace H := ib_ H; rcases H with ⟨rfl, H⟩ | ⟨rfl, H⟩
 rotate_left
 ·obtain rfl := Option.some.inj H
  have p4 : 0 ≤ (0 : Int) := (by omega)
  have q4 : 0 < a0.size := (by have : (0 : Int) < (a0.size : Int) := od_; omega)
  have hx4 : ∀ h : 0 < a0.size, ((a0[0]'h).toNat : Int) = bt a0 0 := bt_at a0 0
  clear p4
  have qi4 : (0 < (a0.size : Int)) = True := eq_true (of_decide_eq_true as_)
  replace q4 := eq_true q4
  go_enter Tryd.func124, Tryd.ntmps124
  go_wp2_with (first | (go_at_call 93; (with_reducible refine (F93.calls (bt a0 0) false _ A5.out).mono ?_); rintro e w' ⟨rfl, ⟨nd, rfl⟩⟩))
  go_ret
  exact ⟨er_, dn_⟩
 replace H := itn_ H; rcases H with ⟨c7b0, H⟩
 have c7b1 : decide (1 < a0.size) = true := n2_ c7b0
 replace H := bi_ H; rcases H with ⟨t337, A9, H⟩
 replace H := ib_ H; rcases H with ⟨rfl, H⟩ | ⟨rfl, H⟩
 rotate_left
 ·obtain rfl := Option.some.inj H
  have p4 : 0 ≤ (0 : Int) := (by omega)
  have q4 : 0 < a0.size := (by have : (0 : Int) < (a0.size : Int) := od_; omega)
  have hx4 : ∀ h : 0 < a0.size, ((a0[0]'h).toNat : Int) = bt a0 0 := bt_at a0 0
  clear p4
  have qi4 : (0 < (a0.size : Int)) = True := eq_true (of_decide_eq_true as_)
  replace q4 := eq_true q4
  go_enter Tryd.func124, Tryd.ntmps124
  go_wp2_with (first | (go_at_call 93; (with_reducible refine (F93.calls (bt a0 0) true _ A5.out).mono ?_); rintro e w' ⟨rfl, ⟨nd, rfl⟩⟩; have p8 : 0 ≤ (1 : Int) := (by omega); have q8 : 1 < a0.size := (by have : (1 : Int) < (a0.size : Int) := od_; omega); have hx8 : ∀ h : 1 < a0.size, ((a0[1]'h).toNat : Int) = bt a0 1 := bt_at a0 1; clear p8; have qi8 : (1 < (a0.size : Int)) = True := eq_true (of_decide_eq_true as_); replace q8 := eq_true q8) | (go_at_call 93; (with_reducible refine (F93.calls (bt a0 1) false _ A9.out).mono ?_); rintro e w' ⟨rfl, ⟨nd, rfl⟩⟩))
  go_ret
  exact ⟨er_, dn_⟩
 replace H := itn_ H; rcases H with ⟨c11b0, H⟩
 have c11b1 : decide (2 < a0.size) = true := n2_ c11b0
 replace H := bi_ H; rcases H with ⟨t338, A13, H⟩
 obtain rfl := Option.some.inj H
 have p4 : 0 ≤ (0 : Int) := (by omega)
 have q4 : 0 < a0.size := (by have : (0 : Int) < (a0.size : Int) := od_; omega)
 have hx4 : ∀ h : 0 < a0.size, ((a0[0]'h).toNat : Int) = bt a0 0 := bt_at a0 0
 clear p4
 have qi4 : (0 < (a0.size : Int)) = True := eq_true (of_decide_eq_true as_)
 replace q4 := eq_true q4
 go_enter Tryd.func124, Tryd.ntmps124
 go_wp2_with (first | (go_at_call 93; (with_reducible refine (F93.calls (bt a0 0) true _ A5.out).mono ?_); rintro e w' ⟨rfl, ⟨nd, rfl⟩⟩; have p8 : 0 ≤ (1 : Int) := (by omega); have q8 : 1 < a0.size := (by have : (1 : Int) < (a0.size : Int) := od_; omega); have hx8 : ∀ h : 1 < a0.size, ((a0[1]'h).toNat : Int) = bt a0 1 := bt_at a0 1; clear p8; have qi8 : (1 < (a0.size : Int)) = True := eq_true (of_decide_eq_true as_); replace q8 := eq_true q8) | (go_at_call 93; (with_reducible refine (F93.calls (bt a0 1) true _ A9.out).mono ?_); rintro e w' ⟨rfl, ⟨nd, rfl⟩⟩; have p12 : 0 ≤ (2 : Int) := (by omega); have q12 : 2 < a0.size := (by have : (2 : Int) < (a0.size : Int) := od_; omega); have hx12 : ∀ h : 2 < a0.size, ((a0[2]'h).toNat : Int) = bt a0 2 := bt_at a0 2; clear p12; have qi12 : (2 < (a0.size : Int)) = True := eq_true (of_decide_eq_true as_); replace q12 := eq_true q12) | (go_at_call 93; (with_reducible refine (F93.calls (bt a0 2) t338 _ A13.out).mono ?_); rintro e w' ⟨rfl, ⟨nd, rfl⟩⟩))
 go_ret
 exact ⟨er_, dn_⟩
/-! ### F136: function 136 -/
def F136.l0 : Nat → List ByteArray → Int → Int → Option (Int)
  | 0, _, _, _ => none
  | k + 1, x0, x7, x8 => if x8 < x7 then (if 0 ≤ x8 then (if x8 < (x0.length : Int) then ((F122.f k (rdOf ByteArray.empty x0 x8)).bind fun t340 => (if t340 = true then (some x8) else (F136.l0 k x0 x7 (wrap64 (x8 + 1))))) else (none)) else (none)) else (some (-1))
def F136.f (k : Nat) (l0 : List ByteArray)  : Option (Int) := F136.l0 k l0 (l0.length : Int) 0
theorem F136.mono_l : ∀ k, (∀ y0 y1 y2, LeO (F136.l0 k y0 y1 y2) (F136.l0 (k + 1) y0 y1 y2))
 | 0 => fun _ _ _ r h => by simp [F136.l0] at h
 | k + 1 => by
  have ih0 := F136.mono_l k
  intro y0 y1 y2
  unfold F136.l0
  repeat' with_reducible first | exact ih0 _ _ _ | exact F122.mono _ _ | exact LeO.refl _ | exact LeO.none _ | refine LeO.ite ?_ ?_ | refine LeO.bind ?_ (fun _ => ?_)
theorem F136.mono : ∀ a0 k, LeO (F136.f k a0) (F136.f (k + 1) a0) := by
 intro a0 k
 have ih0 := F136.mono_l k
 unfold F136.f
 repeat' with_reducible first | exact ih0 _ _ _ | exact F122.mono _ _ | exact LeO.refl _ | exact LeO.none _ | refine LeO.ite ?_ ?_ | refine LeO.bind ?_ (fun _ => ?_)
theorem F136.calls (k : Nat) (A0 : Option Addr) (c0 : Nat) (l0 : List ByteArray)  (r : Int) (w : World) (hr0 : Kd.C Kd.string w A0 l0.length l0) (hc0 : l0.length ≤ c0) (h : F136.f k l0 = some r) :
  Calls Tryd.prog 136 #[.slice A0 l0.length c0, .func (.func 122) #[] #[]] w fun e w' => e = .returned (.int .i64 r) ∧ Drawn0 w w' := by
 have HR0 := am_ hr0
 have HC0 := am_ hc0
 clear hr0 hc0
 have H : (F136.l0 k l0 (l0.length : Int) 0) = some r := h
 clear h
 have H' := am_ H
 clear H
 go_enter Tryd.func136, Tryd.ntmps136
 go_wp2
 go_loopg [8] k (fun kq v8 w' => ∃ (x8_1 : Int), v8 = .int .i64 x8_1 ∧ Aside0 (F136.l0 kq l0 (l0.length : Int) x8_1 = some r) ∧ Aside0 (kq ≤ k) ∧ Drawn0 w w')
 case atStart => exact ⟨(0), er_, H', ⟨Nat.le_refl _⟩, dn_⟩
 case round =>
  clear H'
  obtain ⟨x8_1, rfl, HA, HK1, ⟨m1, rfl⟩⟩ := hrel
  cases gk with
  | zero => exact absurd HA.out (by simp [F136.l0])
  | succ k1 =>
   have H := HA.out
   clear HA
   simp only [F136.l0] at H
   replace H := it_ H; rcases H with ⟨c3b0, H⟩ | ⟨c3b0, H⟩
   rotate_left
   ·obtain rfl := Option.some.inj H
    go_wp2
    go_ret
    exact ⟨er_, dn_⟩

   replace H := itn_ H; rcases H with ⟨c4b0, H⟩
   replace H := itn_ H; rcases H with ⟨c5b0, H⟩
   replace H := bi_ H; rcases H with ⟨t340, A6, H⟩
   replace H := ib_ H; rcases H with ⟨rfl, H⟩ | ⟨rfl, H⟩
   ·obtain rfl := Option.some.inj H
    have p339 : 0 ≤ (x8_1 : Int) := od_
    have q339 : x8_1 < (l0.length : Int) := od_
    obtain ⟨ad339, e339, hx339_0⟩ := Kd.at_string HR0.out x8_1 p339 q339
    cases e339
    replace p339 := eq_true p339
    replace q339 := eq_true q339
    go_wp2_with (first | (go_at_call 122; (with_reducible refine (F122.calls k1 (rdOf ByteArray.empty l0 x8_1) true _ A6.out).mono ?_); rintro e w' ⟨rfl, ⟨nd, rfl⟩⟩))
    go_ret
    exact ⟨er_, dn_⟩
   have H' := am_ H
   clear H
   have p339 : 0 ≤ (x8_1 : Int) := od_
   have q339 : x8_1 < (l0.length : Int) := od_
   obtain ⟨ad339, e339, hx339_0⟩ := Kd.at_string HR0.out x8_1 p339 q339
   cases e339
   replace p339 := eq_true p339
   replace q339 := eq_true q339
   go_wp2_with (first | (go_at_call 122; (with_reducible refine (F122.calls k1 (rdOf ByteArray.empty l0 x8_1) false _ A6.out).mono ?_); rintro e w' ⟨rfl, ⟨nd, rfl⟩⟩))
   go_roundg k1
   case measure => have := HK1.out; omega
   case rel => exact ⟨(wrap64 (x8_1 + 1)), er_, H', ⟨by have := HK1.out; omega⟩, dn_⟩
/-! ### F121: function 121 -/
def F121.f (k : Nat) (l0 : List ByteArray)  : Option (Bool) := (F136.f k l0).bind fun t341 => (some (decide (t341 ≥ 0)))
theorem F121.mono : ∀ a0 k, LeO (F121.f k a0) (F121.f (k + 1) a0) := by
 intro a0 k
 unfold F121.f
 repeat' with_reducible first | exact F136.mono _ _ | exact LeO.refl _ | exact LeO.none _ | refine LeO.ite ?_ ?_ | refine LeO.bind ?_ (fun _ => ?_)
theorem F121.calls (k : Nat) (A0 : Option Addr) (c0 : Nat) (l0 : List ByteArray)  (r : Bool) (w : World) (hr0 : Kd.C Kd.string w A0 l0.length l0) (hc0 : l0.length ≤ c0) (h : F121.f k l0 = some r) :
  Calls Tryd.prog 121 #[.slice A0 l0.length c0, .func (.func 122) #[] #[]] w fun e w' => e = .returned (.bool r) ∧ Drawn0 w w' := by
 have HR0 := am_ hr0
 have HC0 := am_ hc0
 clear hr0 hc0
 have H : ((F136.f k l0).bind fun t341 => (some (decide (t341 ≥ 0)))) = some r := h
 clear h
 replace H := bi_ H; rcases H with ⟨t341, A3, H⟩
 obtain rfl := Option.some.inj H
 go_enter Tryd.func121, Tryd.ntmps121
 go_wp2_with (first | ((with_reducible refine gate_callee (f := 136) rfl ?_); refine gl_ 7 Tryd.func136 #[.slice A0 l0.length c0, .func (.func 122) #[] #[]] ?_ rfl rfl rfl rfl; (with_reducible refine (F136.calls k _ _ l0  t341 _ ?s1 ?s2 A3.out).mono ?_); (case s1 => exact au2_2); (case s2 => exact HC0.out); rintro e w' ⟨rfl, ⟨nd, rfl⟩⟩; refine ⟨_, rfl, ?_⟩))
 go_ret
 exact ⟨er_, dn_⟩

/-! ### F103: function 103 -/
mutual
def F103.l0 : Nat → List (S55) → Int → Int → ByteArray → List (S55) → Option (Bool)
  | 0, _, _, _, _, _ => none
  | k + 1, x7, x8, x9, x343000, x343001 => if x9 < x8 then (if 0 ≤ x9 then (if x9 < (x7.length : Int) then ((F83.f (((rd_T55 x7 x9).f0).length : Int) 1 4).bind fun t346 => (if t346 = true then ((F121.f k ((rd_T55 x7 x9).f0)).bind fun t347 => (F103.j1 k x9 (((rd_T55 x7 x9).f0).length : Int) x7 x8 x9 t347 x343000 x343001 ((rd_T55 x7 x9).f0))) else (F103.j1 k x9 (((rd_T55 x7 x9).f0).length : Int) x7 x8 x9 true x343000 x343001 ((rd_T55 x7 x9).f0)))) else (none)) else (none)) else ((F124.f x343000).bind fun t343 => (if t343 = true then (some (decide ((x343001.length : Int) ≤ 10))) else (some false)))
def F103.j1 : Nat → Int → Int → List (S55) → Int → Int → Bool → ByteArray → List (S55) → List ByteArray → Option (Bool)
  | 0, _, _, _, _, _, _, _, _, _ => none
  | k + 1, x3, x5, x7, x8, x9, x24, x343000, x343001, x346000 => if x24 = true then (some false) else (if 0 ≤ (wrap64 (x5 - 1)) then (if (wrap64 (x5 - 1)) < (x346000.length : Int) then (if (rdOf ByteArray.empty x346000 (wrap64 (x5 - 1))).toList = ([] : List UInt8) then (if x5 > 1 then (some false) else (if x3 = (wrap64 ((x343001.length : Int) - 1)) then (some false) else (F103.l0 k x7 x8 (wrap64 (x9 + 1)) x343000 x343001))) else (F103.l0 k x7 x8 (wrap64 (x9 + 1)) x343000 x343001)) else (none)) else (none))
end
def F103.f (k : Nat) (a0_0 : ByteArray) (l0_1 : List (S55)) : Option (Bool) := F103.l0 k l0_1 (l0_1.length : Int) 0 a0_0 l0_1
theorem F103.mono_l : ∀ k, (∀ y0 y1 y2 y3 y4, LeO (F103.l0 k y0 y1 y2 y3 y4) (F103.l0 (k + 1) y0 y1 y2 y3 y4)) ∧ (∀ y0 y1 y2 y3 y4 y5 y6 y7 y8, LeO (F103.j1 k y0 y1 y2 y3 y4 y5 y6 y7 y8) (F103.j1 (k + 1) y0 y1 y2 y3 y4 y5 y6 y7 y8))
 | 0 => ⟨fun _ _ _ _ _ r h => by simp [F103.l0] at h, fun _ _ _ _ _ _ _ _ _ r h => by simp [F103.j1] at h⟩
 | k + 1 => by
  obtain ⟨ih0, ih1⟩ := F103.mono_l k
  refine ⟨?_, ?_⟩
  rotate_left
  ·intro y0 y1 y2 y3 y4 y5 y6 y7 y8
   unfold F103.j1
   repeat' with_reducible first | exact ih0 _ _ _ _ _ | exact ih1 _ _ _ _ _ _ _ _ _ | exact F121.mono _ _ | exact LeO.refl _ | exact LeO.none _ | refine LeO.ite ?_ ?_ | refine LeO.bind ?_ (fun _ => ?_)
  intro y0 y1 y2 y3 y4
  unfold F103.l0
  repeat' with_reducible first | exact ih0 _ _ _ _ _ | exact ih1 _ _ _ _ _ _ _ _ _ | exact F121.mono _ _ | exact LeO.refl _ | exact LeO.none _ | refine LeO.ite ?_ ?_ | refine LeO.bind ?_ (fun _ => ?_)
theorem F103.mono : ∀ a0 a1 k, LeO (F103.f k a0 a1) (F103.f (k + 1) a0 a1) := by
 intro a0 a1 k
 obtain ⟨ih0, ih1⟩ := F103.mono_l k
 unfold F103.f
 repeat' with_reducible first | exact ih0 _ _ _ _ _ | exact ih1 _ _ _ _ _ _ _ _ _ | exact F121.mono _ _ | exact LeO.refl _ | exact LeO.none _ | refine LeO.ite ?_ ?_ | refine LeO.bind ?_ (fun _ => ?_)
theorem F103.calls (k : Nat) (a0_0 : ByteArray) (A0_1 : Option Addr) (c0_1 : Nat) (l0_1 : List (S55)) (r : Bool) (w : World) (hr0_1 : Kd.C k55 w A0_1 l0_1.length l0_1) (hc0_1 : l0_1.length ≤ c0_1) (h : F103.f k a0_0 l0_1 = some r) :
  Calls Tryd.prog 103 #[.agg #[.string a0_0, .slice A0_1 l0_1.length c0_1]] w fun e w' => e = .returned (.bool r) ∧ Below w.heap.size w w' := by
 have hu52 := Tryd.underlying52
 have hu55 := Tryd.underlying55
 have HR0_1 := am_ hr0_1
 have HC0_1 := am_ hc0_1
 clear hr0_1 hc0_1
 have HB := am_ (Below.refl w.heap.size w)
 have H : (F103.l0 k l0_1 (l0_1.length : Int) 0 a0_0 l0_1) = some r := h
 clear h
 have H' := am_ H
 clear H
 go_enter Tryd.func103, Tryd.ntmps103
 go_wp2_with (first | ((with_reducible refine gate_dst (N := 1) rfl ?_); (try (refine gate_guard (by rfl) ?_; dsimp only)); refine be_ 1 #[.string a0_0, .slice A0_1 l0_1.length c0_1] 52 ?_; intro gb342 hg w2 hbox hb; have BK342 := am_ (hbox); have GW342 := am_ (gw_ hg bl_); have GE342 := GW342; replace HB := hs_ w hb; clear hb hbox hg; obtain ⟨hcz3_0, hcz3_1, hfz3_0, hfz3_1⟩ := cellsF2 BK342.out))
 go_loopg [9] k (fun kq v9 w' => ∃ (x9_1 : Int), v9 = .int .i64 x9_1 ∧ Aside0 (F103.l0 kq l0_1 (l0_1.length : Int) x9_1 a0_0 l0_1 = some r) ∧ Aside0 (kq ≤ k) ∧ Aside0 (w'.heap[gb342]? = some (.cells #[.string a0_0, (.slice A0_1 l0_1.length c0_1)] 52 (0, 0))) ∧ Aside0 (Below w.heap.size w w'))
 case atStart => exact ⟨(0), er_, H', ⟨Nat.le_refl _⟩, ⟨bk_ BK342⟩, ⟨bl_⟩⟩
 case round =>
  clear H'
  try clear hcz3_0 hcz3_1
  try clear hfz3_0 hfz3_1
  obtain ⟨x9_1, rfl, HA, HK1, BK342, HB⟩ := hrel
  cases gk with
  | zero => exact absurd HA.out (by simp [F103.l0])
  | succ k1 =>
   have H := HA.out
   clear HA
   simp only [F103.l0] at H
   replace H := it_ H; rcases H with ⟨c4b0, H⟩ | ⟨c4b0, H⟩
   rotate_left
   ·replace H := bi_ H; rcases H with ⟨t343, A33, H⟩
    replace H := ib_ H; rcases H with ⟨rfl, H⟩ | ⟨rfl, H⟩
    ·obtain rfl := Option.some.inj H
     obtain ⟨hcz35_0, hcz35_1, hfz35_0, hfz35_1⟩ := cellsF2 BK342.out
     go_wp2_with (first | ((with_reducible refine gate_callee (f := 124) rfl ?_); refine gl_ 47 Tryd.func124 #[.string a0_0] ?_ rfl rfl rfl rfl; (with_reducible refine (F124.calls a0_0 true _ A33.out).mono ?_); rintro e w' ⟨rfl, ⟨nd, rfl⟩⟩; refine ⟨_, rfl, ?_⟩))
     go_ret
     exact ⟨au2_0, bl_⟩
    obtain rfl := Option.some.inj H
    obtain ⟨hcz36_0, hcz36_1, hfz36_0, hfz36_1⟩ := cellsF2 BK342.out
    go_wp2_with (first | ((with_reducible refine gate_callee (f := 124) rfl ?_); refine gl_ 47 Tryd.func124 #[.string a0_0] ?_ rfl rfl rfl rfl; (with_reducible refine (F124.calls a0_0 false _ A33.out).mono ?_); rintro e w' ⟨rfl, ⟨nd, rfl⟩⟩; refine ⟨_, rfl, ?_⟩))
    go_ret
    exact ⟨au2_0, bl_⟩

   replace H := itn_ H; rcases H with ⟨c5b0, H⟩
   replace H := itn_ H; rcases H with ⟨c6b0, H⟩
   have HC7 := am_ H
   clear H
   have p344 : 0 ≤ (x9_1 : Int) := od_
   have q344 : x9_1 < (l0_1.length : Int) := od_
   obtain ⟨ad344, A344_0, c344_0, e344, hx344_0, hl344_0, hi344_0⟩ := at_T55 HR0_1.out x9_1 p344 q344
   cases e344
   replace hx344_0 := (HB.out.cell (World.block_lt_of_cell? _ _ hx344_0)).trans hx344_0
   have HR344_0 := am_ hi344_0
   have HC344_0 := am_ hl344_0
   clear hi344_0 hl344_0
   replace p344 := eq_true p344
   replace q344 := eq_true q344
   go_upto_region 5 with (first | ((with_reducible refine gate_dst (N := 4) rfl ?_); (try (refine gate_guard (by rfl) ?_; dsimp only)); refine be_ 4 #[.slice none 0 0] 55 ?_; intro gb345 hg w8 hbox hb; have BK345 := am_ (hbox); have GW345 := am_ (gw_ hg bl_); have GE345 := GW345; replace HB := hs_ w hb; have NB342_345 := am_ (gn_ hg (blkl_ BK342)); have NB345_342 := am_ (gm_ hg (blkl_ BK342)); replace BK342 := bb_ BK342 hb; clear hb hbox hg; have hnb9 := NB345_342.out; have hnc9 := NB342_345.out; have hcz10_0 : w8.cell? ⟨gb345, 0, none⟩ = some (.slice none 0 0) := (blk_cell BK345.out 0).trans rfl; have hfz10_0 := blk_frozen BK345.out 0))
   (try simp only [Act.put, List.setIfInBounds_toArray, List.set_cons_zero, List.set_cons_succ])
   go_cut [24] (fun v24 wc => ∃ (kq : Nat) (x24_6 : Bool), v24 = .bool x24_6 ∧ Aside0 (F103.j1 kq x9_1 (((rd_T55 l0_1 x9_1).f0).length : Int) l0_1 (l0_1.length : Int) x9_1 x24_6 a0_0 l0_1 ((rd_T55 l0_1 x9_1).f0) = some r) ∧ Aside0 (kq ≤ k1) ∧ Aside0 (wc.heap[gb342]? = some (.cells #[.string a0_0, (.slice (some ad344) l0_1.length c0_1)] 52 (0, 0))) ∧ Aside0 (wc.heap[gb345]? = some (.cells #[(.slice A344_0 ((rd_T55 l0_1 x9_1).f0).length c344_0)] 55 (0, 0))) ∧ Aside0 (Below w.heap.size w wc))
   case first =>
    have H := HC7.out
    clear HC7
    replace H := bi_ H; rcases H with ⟨t346, A11, H⟩
    replace H := ib_ H; rcases H with ⟨rfl, H⟩ | ⟨rfl, H⟩
    rotate_left
    ·have H' := am_ H
     clear H
     go_wp2_with (first | ((with_reducible refine gate_callee (f := 83) rfl ?_); refine gl_ 18 Tryd.func83 #[.int .i64 (((rd_T55 l0_1 x9_1).f0).length : Int), .int .i64 1, .int .i64 4] ?_ rfl rfl rfl rfl; (with_reducible refine (F83.calls (((rd_T55 l0_1 x9_1).f0).length : Int) 1 4 false _ A11.out).mono ?_); rintro e w' ⟨rfl, ⟨nd, rfl⟩⟩; refine ⟨_, rfl, ?_⟩))
     go_meet
     case rel => exact ⟨_, (true), er_, H', ⟨by have := HK1.out; first | omega | exact Nat.le_refl _⟩, ⟨bf_ BK342⟩, ⟨bq_ BK345⟩, ⟨bl_⟩⟩
    replace H := bi_ H; rcases H with ⟨t347, A13, H⟩
    have H' := am_ H
    clear H
    go_wp2_with (first | ((with_reducible refine gate_callee (f := 83) rfl ?_); refine gl_ 18 Tryd.func83 #[.int .i64 (((rd_T55 l0_1 x9_1).f0).length : Int), .int .i64 1, .int .i64 4] ?_ rfl rfl rfl rfl; (with_reducible refine (F83.calls (((rd_T55 l0_1 x9_1).f0).length : Int) 1 4 true _ A11.out).mono ?_); rintro e w' ⟨rfl, ⟨nd, rfl⟩⟩; refine ⟨_, rfl, ?_⟩; have hnb14 := NB345_342.out; have hnc14 := NB342_345.out; have hcz15_0 : w8.cell? ⟨gb345, 0, none⟩ = some (.slice none 0 0) := (blk_cell BK345.out 0).trans rfl; have hfz15_0 := blk_frozen BK345.out 0) | (go_at_call 121; (with_reducible refine (F121.calls k1 _ _ ((rd_T55 l0_1 x9_1).f0)  t347 _ ?s1 ?s2 A13.out).mono ?_); (case s1 => exact Kd.C_below HR344_0.out bl_); (case s2 => exact HC344_0.out); rintro e w' ⟨rfl, ⟨nd, rfl⟩⟩))
    go_meet
    case rel => exact ⟨_, (t347), er_, H', ⟨by have := HK1.out; first | omega | exact Nat.le_refl _⟩, ⟨bf_ BK342⟩, ⟨bq_ BK345⟩, ⟨bl_⟩⟩
   case rest =>
    clear HC7
    try clear c4b0
    try clear c5b0
    try clear c6b0
    try clear hcz10_0
    try clear hcz15_0
    try clear hcz3_0 hcz3_1
    try clear hfz10_0
    try clear hfz15_0
    try clear hfz3_0 hfz3_1
    try clear hx344_0
    try clear p344
    try clear q344
    obtain ⟨kq, x24_6, rfl, HA, HJ6, BK342, BK345, HB⟩ := hcut
    cases kq with
    | zero => exact absurd HA.out (by simp [F103.j1])
    | succ kj6 =>
     have H := HA.out
     clear HA
     simp only [F103.j1] at H
     replace H := ib_ H; rcases H with ⟨rfl, H⟩ | ⟨rfl, H⟩
     ·obtain rfl := Option.some.inj H
      go_wp2
      go_ret
      exact ⟨au2_0, bl_⟩
     obtain ⟨ji17, hji17⟩ : ∃ j_ : Int, (wrap64 ((((rd_T55 l0_1 x9_1).f0).length : Int) - 1)) = j_ := ⟨_, rfl⟩
     replace H : (if 0 ≤ (ji17) then (if (ji17) < (((rd_T55 l0_1 x9_1).f0).length : Int) then (if (rdOf ByteArray.empty ((rd_T55 l0_1 x9_1).f0) (ji17)).toList = ([] : List UInt8) then (if (((rd_T55 l0_1 x9_1).f0).length : Int) > 1 then (some false) else (if x9_1 = (wrap64 ((l0_1.length : Int) - 1)) then (some false) else (F103.l0 kj6 l0_1 (l0_1.length : Int) (wrap64 (x9_1 + 1)) a0_0 l0_1))) else (F103.l0 kj6 l0_1 (l0_1.length : Int) (wrap64 (x9_1 + 1)) a0_0 l0_1)) else (none)) else (none)) = some r := by first | (rw [hji17] at H; exact H) | (simp only [hji17] at H ⊢; exact H)
     have hji17w : (IntKind.i64.wrap ((((rd_T55 l0_1 x9_1).f0).length : Int) - 1)) = ji17 := (i64_w _).trans hji17
     replace H := itn_ H; rcases H with ⟨c18b0, H⟩
     replace H := itn_ H; rcases H with ⟨c19b0, H⟩
     by_cases c20 : (rdOf ByteArray.empty ((rd_T55 l0_1 x9_1).f0) (ji17)).toList = ([] : List UInt8)
     rotate_left
     ·rw [if_neg c20] at H
      have c20b0 : ((rdOf ByteArray.empty ((rd_T55 l0_1 x9_1).f0) (ji17)).toList == ([] : List UInt8)) = false := beq_eq_false_iff_ne.mpr c20
      have c20b1 : ((rdOf ByteArray.empty ((rd_T55 l0_1 x9_1).f0) (ji17)).toList != ([] : List UInt8)) = true := bne_iff_ne.mpr c20
      have H' := am_ H
      clear H
      have hnb31 := NB345_342.out
      have hnc31 := NB342_345.out
      have hcz32_0 : wc.cell? ⟨gb345, 0, none⟩ = some (.slice A344_0 ((rd_T55 l0_1 x9_1).f0).length c344_0) := (blk_cell BK345.out 0).trans rfl
      have hfz32_0 := blk_frozen BK345.out 0
      have p348 : 0 ≤ ((ji17) : Int) := od_
      have q348 : (ji17) < (((rd_T55 l0_1 x9_1).f0).length : Int) := od_
      obtain ⟨ad348, e348, hx348_0⟩ := Kd.at_string HR344_0.out (ji17) p348 q348
      cases e348
      replace hx348_0 := (HB.out.cell (World.block_lt_of_cell? _ _ hx348_0)).trans hx348_0
      replace p348 := eq_true p348
      replace q348 := eq_true q348
      go_wp2
      go_roundg kj6
      case measure => have := HK1.out; have := HJ6.out; omega
      case rel => exact ⟨(wrap64 (x9_1 + 1)), er_, H', ⟨by have := HK1.out; have := HJ6.out; omega⟩, ⟨bk_ BK342⟩, ⟨bl_⟩⟩
     rw [if_pos c20] at H
     have c20b0 : ((rdOf ByteArray.empty ((rd_T55 l0_1 x9_1).f0) (ji17)).toList == ([] : List UInt8)) = true := beq_iff_eq.mpr c20
     have c20b1 : ((rdOf ByteArray.empty ((rd_T55 l0_1 x9_1).f0) (ji17)).toList != ([] : List UInt8)) = false := bne_eq_false_iff_eq.mpr c20
     clear c20
     replace H := it_ H; rcases H with ⟨(c21b0 : decide (1 < (((rd_T55 l0_1 x9_1).f0).length : Int)) = true), H⟩ | ⟨(c21b0 : decide (1 < (((rd_T55 l0_1 x9_1).f0).length : Int)) = false), H⟩
     ·have c21b1 : decide (1 < ((rd_T55 l0_1 x9_1).f0).length) = true := n2_ c21b0
      obtain rfl := Option.some.inj H
      have hnb22 := NB345_342.out
      have hnc22 := NB342_345.out
      have hcz23_0 : wc.cell? ⟨gb345, 0, none⟩ = some (.slice A344_0 ((rd_T55 l0_1 x9_1).f0).length c344_0) := (blk_cell BK345.out 0).trans rfl
      have hfz23_0 := blk_frozen BK345.out 0
      have p348 : 0 ≤ ((ji17) : Int) := od_
      have q348 : (ji17) < (((rd_T55 l0_1 x9_1).f0).length : Int) := od_
      obtain ⟨ad348, e348, hx348_0⟩ := Kd.at_string HR344_0.out (ji17) p348 q348
      cases e348
      replace hx348_0 := (HB.out.cell (World.block_lt_of_cell? _ _ hx348_0)).trans hx348_0
      replace p348 := eq_true p348
      replace q348 := eq_true q348
      go_wp2
      go_ret
      exact ⟨au2_8, bl_⟩
     have c21b1 : decide (1 < ((rd_T55 l0_1 x9_1).f0).length) = false := n2_ c21b0
     by_cases c24 : x9_1 = (wrap64 ((l0_1.length : Int) - 1))
     ·rw [if_pos c24] at H
      have c24b0 : (x9_1 == (wrap64 ((l0_1.length : Int) - 1))) = true := beq_iff_eq.mpr c24
      have c24b1 : (x9_1 != (wrap64 ((l0_1.length : Int) - 1))) = false := bne_eq_false_iff_eq.mpr c24
      clear c24
      obtain rfl := Option.some.inj H
      have hnb25 := NB345_342.out
      have hnc25 := NB342_345.out
      have hcz26_0 : wc.cell? ⟨gb345, 0, none⟩ = some (.slice A344_0 ((rd_T55 l0_1 x9_1).f0).length c344_0) := (blk_cell BK345.out 0).trans rfl
      have hfz26_0 := blk_frozen BK345.out 0
      have p348 : 0 ≤ ((ji17) : Int) := od_
      have q348 : (ji17) < (((rd_T55 l0_1 x9_1).f0).length : Int) := od_
      obtain ⟨ad348, e348, hx348_0⟩ := Kd.at_string HR344_0.out (ji17) p348 q348
      cases e348
      replace hx348_0 := (HB.out.cell (World.block_lt_of_cell? _ _ hx348_0)).trans hx348_0
      replace p348 := eq_true p348
      replace q348 := eq_true q348
      obtain ⟨hcz27_0, hcz27_1, hfz27_0, hfz27_1⟩ := cellsF2 BK342.out
      go_wp2
      go_ret
      exact ⟨au2_8, bl_⟩
     rw [if_neg c24] at H
     have c24b0 : (x9_1 == (wrap64 ((l0_1.length : Int) - 1))) = false := beq_eq_false_iff_ne.mpr c24
     have c24b1 : (x9_1 != (wrap64 ((l0_1.length : Int) - 1))) = true := bne_iff_ne.mpr c24
     have H' := am_ H
     clear H
     have hnb28 := NB345_342.out
     have hnc28 := NB342_345.out
     have hcz29_0 : wc.cell? ⟨gb345, 0, none⟩ = some (.slice A344_0 ((rd_T55 l0_1 x9_1).f0).length c344_0) := (blk_cell BK345.out 0).trans rfl
     have hfz29_0 := blk_frozen BK345.out 0
     have p348 : 0 ≤ ((ji17) : Int) := od_
     have q348 : (ji17) < (((rd_T55 l0_1 x9_1).f0).length : Int) := od_
     obtain ⟨ad348, e348, hx348_0⟩ := Kd.at_string HR344_0.out (ji17) p348 q348
     cases e348
     replace hx348_0 := (HB.out.cell (World.block_lt_of_cell? _ _ hx348_0)).trans hx348_0
     replace p348 := eq_true p348
     replace q348 := eq_true q348
     obtain ⟨hcz30_0, hcz30_1, hfz30_0, hfz30_1⟩ := cellsF2 BK342.out
     go_wp2
     go_roundg kj6
     case measure => have := HK1.out; have := HJ6.out; omega
     case rel => exact ⟨(wrap64 (x9_1 + 1)), er_, H', ⟨by have := HK1.out; have := HJ6.out; omega⟩, ⟨bk_ BK342⟩, ⟨bl_⟩⟩
/-! ### F125: function 125 -/
def F125.l0 : Nat → List ByteArray → ByteArray → Int → Int → Option (Int)
  | 0, _, _, _, _ => none
  | k + 1, x0, x1, x7, x8 => if x8 < x7 then (if 0 ≤ x8 then (if x8 < (x0.length : Int) then (if x1.toList = (rdOf ByteArray.empty x0 x8).toList then (some x8) else (F125.l0 k x0 x1 x7 (wrap64 (x8 + 1)))) else (none)) else (none)) else (some (-1))
def F125.f (k : Nat) (l0 : List ByteArray) (a1 : ByteArray) : Option (Int) := F125.l0 k l0 a1 (l0.length : Int) 0
theorem F125.mono_l : ∀ k, (∀ y0 y1 y2 y3, LeO (F125.l0 k y0 y1 y2 y3) (F125.l0 (k + 1) y0 y1 y2 y3))
 | 0 => fun _ _ _ _ r h => by simp [F125.l0] at h
 | k + 1 => by
  have ih0 := F125.mono_l k
  intro y0 y1 y2 y3
  unfold F125.l0
  repeat' with_reducible first | exact ih0 _ _ _ _ | exact LeO.refl _ | exact LeO.none _ | refine LeO.ite ?_ ?_ | refine LeO.bind ?_ (fun _ => ?_)
theorem F125.mono : ∀ a0 a1 k, LeO (F125.f k a0 a1) (F125.f (k + 1) a0 a1) := by
 intro a0 a1 k
 have ih0 := F125.mono_l k
 unfold F125.f
 repeat' with_reducible first | exact ih0 _ _ _ _ | exact LeO.refl _ | exact LeO.none _ | refine LeO.ite ?_ ?_ | refine LeO.bind ?_ (fun _ => ?_)
theorem F125.calls (k : Nat) (A0 : Option Addr) (c0 : Nat) (l0 : List ByteArray) (a1 : ByteArray) (r : Int) (w : World) (hr0 : Kd.C Kd.string w A0 l0.length l0) (hc0 : l0.length ≤ c0) (h : F125.f k l0 a1 = some r) :
  Calls Tryd.prog 125 #[.slice A0 l0.length c0, .string a1] w fun e w' => e = .returned (.int .i64 r) ∧ Drawn0 w w' := by
 have HR0 := am_ hr0
 have HC0 := am_ hc0
 clear hr0 hc0
 have H : (F125.l0 k l0 a1 (l0.length : Int) 0) = some r := h
 clear h
 have H' := am_ H
 clear H
 go_enter Tryd.func125, Tryd.ntmps125
 go_wp2
 go_loopg [8] k (fun kq v8 w' => ∃ (x8_1 : Int), v8 = .int .i64 x8_1 ∧ Aside0 (F125.l0 kq l0 a1 (l0.length : Int) x8_1 = some r) ∧ Aside0 (kq ≤ k) ∧ Drawn0 w w')
 case atStart => exact ⟨(0), er_, H', ⟨Nat.le_refl _⟩, dn_⟩
 case round =>
  clear H'
  obtain ⟨x8_1, rfl, HA, HK1, ⟨m1, rfl⟩⟩ := hrel
  cases gk with
  | zero => exact absurd HA.out (by simp [F125.l0])
  | succ k1 =>
   have H := HA.out
   clear HA
   simp only [F125.l0] at H
   replace H := it_ H; rcases H with ⟨c3b0, H⟩ | ⟨c3b0, H⟩
   rotate_left
   ·obtain rfl := Option.some.inj H
    go_wp2
    go_ret
    exact ⟨er_, dn_⟩

   replace H := itn_ H; rcases H with ⟨c4b0, H⟩
   replace H := itn_ H; rcases H with ⟨c5b0, H⟩
   by_cases c6 : a1.toList = (rdOf ByteArray.empty l0 x8_1).toList
   ·rw [if_pos c6] at H
    have c6b0 : (a1.toList == (rdOf ByteArray.empty l0 x8_1).toList) = true := beq_iff_eq.mpr c6
    have c6b1 : (a1.toList != (rdOf ByteArray.empty l0 x8_1).toList) = false := bne_eq_false_iff_eq.mpr c6
    clear c6
    obtain rfl := Option.some.inj H
    have p349 : 0 ≤ (x8_1 : Int) := od_
    have q349 : x8_1 < (l0.length : Int) := od_
    obtain ⟨ad349, e349, hx349_0⟩ := Kd.at_string HR0.out x8_1 p349 q349
    cases e349
    replace p349 := eq_true p349
    replace q349 := eq_true q349
    go_wp2
    go_ret
    exact ⟨er_, dn_⟩
   rw [if_neg c6] at H
   have c6b0 : (a1.toList == (rdOf ByteArray.empty l0 x8_1).toList) = false := beq_eq_false_iff_ne.mpr c6
   have c6b1 : (a1.toList != (rdOf ByteArray.empty l0 x8_1).toList) = true := bne_iff_ne.mpr c6
   have H' := am_ H
   clear H
   have p349 : 0 ≤ (x8_1 : Int) := od_
   have q349 : x8_1 < (l0.length : Int) := od_
   obtain ⟨ad349, e349, hx349_0⟩ := Kd.at_string HR0.out x8_1 p349 q349
   cases e349
   replace p349 := eq_true p349
   replace q349 := eq_true q349
   go_wp2
   go_roundg k1
   case measure => have := HK1.out; omega
   case rel => exact ⟨(wrap64 (x8_1 + 1)), er_, H', ⟨by have := HK1.out; omega⟩, dn_⟩
/-! ### F104: function 104 -/
def F104.f (k : Nat) (l0 : List ByteArray) (a1 : ByteArray) : Option (Bool) := (F125.f k l0 a1).bind fun t350 => (some (decide (t350 ≥ 0)))
theorem F104.mono : ∀ a0 a1 k, LeO (F104.f k a0 a1) (F104.f (k + 1) a0 a1) := by
 intro a0 a1 k
 unfold F104.f
 repeat' with_reducible first | exact F125.mono _ _ _ | exact LeO.refl _ | exact LeO.none _ | refine LeO.ite ?_ ?_ | refine LeO.bind ?_ (fun _ => ?_)
theorem F104.calls (k : Nat) (A0 : Option Addr) (c0 : Nat) (l0 : List ByteArray) (a1 : ByteArray) (r : Bool) (w : World) (hr0 : Kd.C Kd.string w A0 l0.length l0) (hc0 : l0.length ≤ c0) (h : F104.f k l0 a1 = some r) :
  Calls Tryd.prog 104 #[.slice A0 l0.length c0, .string a1] w fun e w' => e = .returned (.bool r) ∧ Drawn0 w w' := by
 have HR0 := am_ hr0
 have HC0 := am_ hc0
 clear hr0 hc0
 have H : ((F125.f k l0 a1).bind fun t350 => (some (decide (t350 ≥ 0)))) = some r := h
 clear h
 replace H := bi_ H; rcases H with ⟨t350, A3, H⟩
 obtain rfl := Option.some.inj H
 go_enter Tryd.func104, Tryd.ntmps104
 go_wp2_with (first | ((with_reducible refine gate_callee (f := 125) rfl ?_); refine gl_ 7 Tryd.func125 #[.slice A0 l0.length c0, .string a1] ?_ rfl rfl rfl rfl; (with_reducible refine (F125.calls k _ _ l0 a1 t350 _ ?s1 ?s2 A3.out).mono ?_); (case s1 => exact au2_2); (case s2 => exact HC0.out); rintro e w' ⟨rfl, ⟨nd, rfl⟩⟩; refine ⟨_, rfl, ?_⟩))
 go_ret
 exact ⟨er_, dn_⟩

/-! ### F105: function 105 -/
def F105.f  : Option (List ByteArray) := some (([(⟨#[73, 88, 72]⟩ : ByteArray), (⟨#[71, 82, 72]⟩ : ByteArray), (⟨#[77, 83, 72]⟩ : ByteArray), (⟨#[77, 83, 84]⟩ : ByteArray), (⟨#[71, 82, 84]⟩ : ByteArray), (⟨#[73, 88, 84]⟩ : ByteArray)] : List ByteArray))
theorem F105.calls  (r : List ByteArray) (w : World) (h : F105.f  = some r) :
  Calls Tryd.prog 105 #[] w fun e w' => ∃ v0_ : Value, e = .returned (v0_) ∧ Kd.R Kd.string 9 w' w.heap.size (fun _ => True) v0_ r ∧ Below w.heap.size w w' := by
 have HB := am_ (Below.refl w.heap.size w)
 have H : (some (([(⟨#[73, 88, 72]⟩ : ByteArray), (⟨#[71, 82, 72]⟩ : ByteArray), (⟨#[77, 83, 72]⟩ : ByteArray), (⟨#[77, 83, 84]⟩ : ByteArray), (⟨#[71, 82, 84]⟩ : ByteArray), (⟨#[73, 88, 84]⟩ : ByteArray)] : List ByteArray))) = some r := h
 clear h
 obtain ⟨y351, hy351⟩ : ∃ y_ : List ByteArray, y_ = (([(⟨#[73, 88, 72]⟩ : ByteArray), (⟨#[71, 82, 72]⟩ : ByteArray), (⟨#[77, 83, 72]⟩ : ByteArray), (⟨#[77, 83, 84]⟩ : ByteArray), (⟨#[71, 82, 84]⟩ : ByteArray), (⟨#[73, 88, 84]⟩ : ByteArray)] : List ByteArray)) := ⟨_, rfl⟩
 replace H : (some y351) = some r := by first | (rw [hy351]; exact H) | exact H
 have Ny351 := am_ hy351
 clear hy351
 obtain rfl := Option.some.inj H
 go_enter Tryd.func105, Tryd.ntmps105
 go_wp2_with (first | ((with_reducible refine gate_dst (N := 1) rfl ?_); refine Kd.R_lit Kd.string _ 9 ?hg (N := 1) ?hd (xs := ([(⟨#[73, 88, 72]⟩ : ByteArray), (⟨#[71, 82, 72]⟩ : ByteArray), (⟨#[77, 83, 72]⟩ : ByteArray), (⟨#[77, 83, 84]⟩ : ByteArray), (⟨#[71, 82, 84]⟩ : ByteArray), (⟨#[73, 88, 84]⟩ : ByteArray)] : List ByteArray)) (inner := [.string (⟨#[73, 88, 72]⟩ : ByteArray), .string (⟨#[71, 82, 72]⟩ : ByteArray), .string (⟨#[77, 83, 72]⟩ : ByteArray), .string (⟨#[77, 83, 84]⟩ : ByteArray), .string (⟨#[71, 82, 84]⟩ : ByteArray), .string (⟨#[73, 88, 84]⟩ : ByteArray)]) (ok := fun _ => True) (okp := fun _ => True) ?hr ?hp (fun _ hk => hk) trivial (Below.refl _ _) (Nat.le_refl _) (by simp) ?_; (case hd => rfl); (case hg => rfl); (case hr => exact hr_); (case hp => exact (Reps.one (show Kd.M Kd.string _ _ _ (⟨#[73, 88, 72]⟩ : ByteArray) [.string (⟨#[73, 88, 72]⟩ : ByteArray)] from rfl) (Reps.one (show Kd.M Kd.string _ _ _ (⟨#[71, 82, 72]⟩ : ByteArray) [.string (⟨#[71, 82, 72]⟩ : ByteArray)] from rfl) (Reps.one (show Kd.M Kd.string _ _ _ (⟨#[77, 83, 72]⟩ : ByteArray) [.string (⟨#[77, 83, 72]⟩ : ByteArray)] from rfl) (Reps.one (show Kd.M Kd.string _ _ _ (⟨#[77, 83, 84]⟩ : ByteArray) [.string (⟨#[77, 83, 84]⟩ : ByteArray)] from rfl) (Reps.one (show Kd.M Kd.string _ _ _ (⟨#[71, 82, 84]⟩ : ByteArray) [.string (⟨#[71, 82, 84]⟩ : ByteArray)] from rfl) (Reps.one (show Kd.M Kd.string _ _ _ (⟨#[73, 88, 84]⟩ : ByteArray) [.string (⟨#[73, 88, 84]⟩ : ByteArray)] from rfl) (Reps.none _ _)))))))); intro v352 w1 ho2 hb hg_ hnew_; clear hg_ hnew_; (first | rw [← Ny351.out] at ho2 | (simp only [Int.reduceToNat] at ho2; rw [← Ny351.out] at ho2)); have HO353 := am_ (Kd.R_lower ho2 (below_size bl_)); replace HB := hs_ w hb; clear hb ho2))
 go_ret
 exact ⟨_, au2_0, rk_ HO353, bl_⟩

/-! ### F78: function 78 -/
def F78.f (k : Nat) (a0_0 : ByteArray) (l0_1 : List (S55)) : Option (Bool) := (F103.f k a0_0 l0_1).bind fun t355 => (if t355 = true then ((F105.f).bind fun t356 => ((F104.f k t356 a0_0).bind fun t359 => (some (!t359)))) else (some false))
theorem F78.mono : ∀ a0 a1 k, LeO (F78.f k a0 a1) (F78.f (k + 1) a0 a1) := by
 intro a0 a1 k
 unfold F78.f
 repeat' with_reducible first | exact F103.mono _ _ _ | exact F104.mono _ _ _ | exact LeO.refl _ | exact LeO.none _ | refine LeO.ite ?_ ?_ | refine LeO.bind ?_ (fun _ => ?_)
def F78.T1 : Bool × List (List Nat × List Nat) := (true, [([], []), ([0], [0]), ([1, 1], [1]), ([2, 2], [2]), ([2], [2]), ([4, 2], [2, 4]), ([3, 5, 3, 2], [2, 3, 5]), ([6, 2], [2, 6]), ([2, 7], [2, 7]), ([8, 6, 0, 1, 2, 3, 4, 5, 6, 7, 8], [8])])
def F78.B1 : List Nat := [0, 1, 3, 7, 7, 23, 63, 127, 255, 511]
theorem F78.tab1 : rtab .any (opsOf Tryd.f78 1) = F78.T1 := by kernel_rfl
theorem F78.bits1 : waitsOk F78.T1.2 F78.B1 = true := by kernel_rfl
theorem F78.calls (k : Nat) (a0_0 : ByteArray) (A0_1 : Option Addr) (c0_1 : Nat) (l0_1 : List (S55)) (r : Bool) (w : World) (hr0_1 : Kd.C k55 w A0_1 l0_1.length l0_1) (hc0_1 : l0_1.length ≤ c0_1) (h : F78.f k a0_0 l0_1 = some r) :
  Calls Tryd.prog 78 #[.agg #[.string a0_0, .slice A0_1 l0_1.length c0_1]] w fun e w' => e = .returned (.bool r) ∧ Below w.heap.size w w' := by
 have hu52 := Tryd.underlying52
 have HR0_1 := am_ hr0_1
 have HC0_1 := am_ hc0_1
 clear hr0_1 hc0_1
 have HB := am_ (Below.refl w.heap.size w)
 have H : ((F103.f k a0_0 l0_1).bind fun t355 => (if t355 = true then ((F105.f).bind fun t356 => ((F104.f k t356 a0_0).bind fun t359 => (some (!t359)))) else (some false))) = some r := h
 clear h
 replace H := bi_ H; rcases H with ⟨t355, A2, H⟩
 replace H := ib_ H; rcases H with ⟨rfl, H⟩ | ⟨rfl, H⟩
 rotate_left
 ·obtain rfl := Option.some.inj H
  go_enter Tryd.func78, Tryd.ntmps78
  try go_wp2_with (first | ((with_reducible refine gate_dst (N := 1) rfl ?_); refine be_ 1 #[.string a0_0, .slice A0_1 l0_1.length c0_1] 52 ?_; intro gb354 hg w11 hbox hb; have BK354 := am_ (hbox); have GW354 := am_ (gw_ hg bl_); have GE354 := GW354; replace HB := hs_ w hb; clear hb hbox hg))
  replace BK354 := bd_ BK354
  replace HB := am_ (below_drew1 HB.out)
  refine start_ (n := 10) (S := fun w' => w'.cell? ⟨gb354, 0, none⟩ = some (.string a0_0) ∧ w'.cell? ⟨gb354, 1, none⟩ = some (.slice A0_1 l0_1.length c0_1)) (ds := []) (bs 10 0) (by kernel_rfl) rfl rfl ⟨(blk_cell BK354.out 0).trans rfl, (blk_cell BK354.out 1).trans rfl⟩ (fun hHeld => ?_); refine with_tabW F78.tab1 F78.bits1 (fun HT_ HW_ => ?_)
  generalize w11.drew = w12 at BK354 HB hHeld ⊢
  refine tk_ 0 3 (bs 10 1) HT_ HW_ hHeld au2_10 ?_ rfl rfl
  refine one_ (i := 1) (N := some 4) (bs 10 3) rfl rfl (one_of HT_.out (by kernel_rfl)) (by decide) (fun K hK => ?_)
  refine gr_ Tryd.func103 #[.agg #[.string a0_0, .slice A0_1 l0_1.length c0_1]] (by rfl) ?_ rfl rfl rfl
  with_reducible refine (F103.calls k a0_0 _ _ l0_1 false _ ?s1 ?s2 A2.out).mono ?_
  (case s1 => exact au2_4)
  (case s2 => exact HC0_1.out)
  rintro e w13 ⟨rfl, hb⟩
  refine ⟨_, rfl, ?_⟩
  replace BK354 := bb_ BK354 hb
  replace HB := hs_ w hb
  (try clear hb)
  (try clear hb2)
  (try clear hk)
  (try clear hi)
  refine hK.out _ _ ⟨(blk_cell BK354.out 0).trans rfl, (blk_cell BK354.out 1).trans rfl⟩ (fun hHeld => ?_)
  clear hK K
  refine no_ 4 ?_
  refine pu_ 2 5 (bs 10 7) HT_ ?_ rfl rfl
  refine pv_ 3 6 (bs 10 15) HT_ ?_ rfl rfl
  refine pv_ 4 7 (bs 10 31) HT_ ?_ rfl rfl
  refine pv_ 5 8 (bs 10 63) HT_ ?_ rfl rfl
  refine pv_ 6 9 (bs 10 127) HT_ ?_ rfl rfl
  refine pv_ 7 10 (bs 10 255) HT_ ?_ rfl rfl
  refine pu_ 8 11 (bs 10 511) HT_ ?_ rfl rfl
  refine pu_ 9 2 (bs 10 1023) HT_ ?_ rfl rfl
  refine done_ (done_of HT_.out (by kernel_rfl)) ?_
  try go_wp2
  go_ret
  exact ⟨au2_0, bl_⟩

 replace H := bi_ H; rcases H with ⟨t356, A4, H⟩
 replace H := bi_ H; rcases H with ⟨t359, A5, H⟩
 obtain rfl := Option.some.inj H
 go_enter Tryd.func78, Tryd.ntmps78
 try go_wp2_with (first | ((with_reducible refine gate_dst (N := 1) rfl ?_); refine be_ 1 #[.string a0_0, .slice A0_1 l0_1.length c0_1] 52 ?_; intro gb354 hg w6 hbox hb; have BK354 := am_ (hbox); have GW354 := am_ (gw_ hg bl_); have GE354 := GW354; replace HB := hs_ w hb; clear hb hbox hg))
 replace BK354 := bd_ BK354
 replace HB := am_ (below_drew1 HB.out)
 refine start_ (n := 10) (S := fun w' => w'.cell? ⟨gb354, 0, none⟩ = some (.string a0_0) ∧ w'.cell? ⟨gb354, 1, none⟩ = some (.slice A0_1 l0_1.length c0_1)) (ds := []) (bs 10 0) (by kernel_rfl) rfl rfl ⟨(blk_cell BK354.out 0).trans rfl, (blk_cell BK354.out 1).trans rfl⟩ (fun hHeld => ?_); refine with_tabW F78.tab1 F78.bits1 (fun HT_ HW_ => ?_)
 generalize w6.drew = w7 at BK354 HB hHeld ⊢
 refine tk_ 0 3 (bs 10 1) HT_ HW_ hHeld au2_10 ?_ rfl rfl
 refine one_ (i := 1) (N := some 4) (bs 10 3) rfl rfl (one_of HT_.out (by kernel_rfl)) (by decide) (fun K hK => ?_)
 refine gr_ Tryd.func103 #[.agg #[.string a0_0, .slice A0_1 l0_1.length c0_1]] (by rfl) ?_ rfl rfl rfl
 with_reducible refine (F103.calls k a0_0 _ _ l0_1 true _ ?s1 ?s2 A2.out).mono ?_
 (case s1 => exact au2_4)
 (case s2 => exact HC0_1.out)
 rintro e w8 ⟨rfl, hb⟩
 refine ⟨_, rfl, ?_⟩
 replace BK354 := bb_ BK354 hb
 replace HB := hs_ w hb
 (try clear hb)
 (try clear hb2)
 (try clear hk)
 (try clear hi)
 refine hK.out _ _ ⟨(blk_cell BK354.out 0).trans rfl, (blk_cell BK354.out 1).trans rfl⟩ (fun hHeld => ?_)
 clear hK K
 refine no_ 4 ?_
 refine pu_ 2 5 (bs 10 7) HT_ ?_ rfl rfl
 refine pu_ 4 7 (bs 10 23) HT_ ?_ rfl rfl
 refine tk_ 5 8 (bs 10 55) HT_ HW_ hHeld au2_10 ?_ rfl rfl
 refine one_ (i := 3) (N := some 6) (bs 10 63) rfl rfl (one_of HT_.out (by kernel_rfl)) (by decide) (fun K hK => ?_)
 refine gr_ Tryd.func105 #[] (by rfl) ?_ rfl rfl rfl
 with_reducible refine (F105.calls  t356 _ A4.out).mono ?_
 rintro e w9 ⟨v357, rfl, ho0, hb⟩
 refine ⟨_, rfl, ?_⟩
 have HO358 := am_ (Kd.R_lower ho0 (below_size bl_))
 replace BK354 := bb_ BK354 hb
 replace HB := hs_ w hb
 (try clear hb)
 (try clear hb2)
 (try clear hk)
 (try clear hi)
 (try clear ho0)
 obtain ⟨Ao10, co10, eo10⟩ := Kd.R_slice HO358.out
 (first | subst eo10 | (injection eo10 with f1_ f2_ f3_; have f4_ := f1_.symm; have f5_ := f3_.symm; clear f1_ f2_ f3_; subst f4_; subst f5_))
 refine hK.out _ _ ⟨(blk_cell BK354.out 0).trans rfl, (blk_cell BK354.out 1).trans rfl⟩ (fun hHeld => ?_)
 clear hK K
 refine no_ 6 ?_
 refine one_ (i := 6) (N := some 9) (bs 10 127) rfl rfl (one_of HT_.out (by kernel_rfl)) (by decide) (fun K hK => ?_)
 refine gr_ Tryd.func104 #[.slice Ao10 t356.length co10, .string a0_0] (by rfl) ?_ rfl rfl rfl
 with_reducible refine (F104.calls k _ _ t356 a0_0 t359 _ ?s1 ?s2 A5.out).mono ?_
 (case s1 => repeat (first | exact (Kd.R_reads' HO358.out).2.2 | (with_reducible refine Kd.C_alloc ?_ _) | (with_reducible refine Kd.C_drewN ?_ _) | (with_reducible refine Kd.C_drew ?_)))
 (case s2 => exact (Kd.R_reads' HO358.out).2.1)
 rintro e w' ⟨rfl, ⟨nd, rfl⟩⟩
 refine ⟨_, rfl, ?_⟩
 refine hK.out _ _ ⟨(blk_cell BK354.out 0).trans rfl, (blk_cell BK354.out 1).trans rfl⟩ (fun hHeld => ?_)
 clear hK K
 refine no_ 9 ?_
 refine pu_ 7 10 (bs 10 255) HT_ ?_ rfl rfl
 refine pu_ 8 11 (bs 10 511) HT_ ?_ rfl rfl
 refine pu_ 9 2 (bs 10 1023) HT_ ?_ rfl rfl
 refine done_ (done_of HT_.out (by kernel_rfl)) ?_
 try go_wp2
 go_ret
 exact ⟨au2_0, bl_⟩
/-! ### F128: function 128 -/
def F128.f (k : Nat) (a0_0 : ByteArray) (l0_1 : List (S55)) : Option (Bool) := (F78.f k a0_0 l0_1).bind fun t361 => (some (!t361))
theorem F128.mono : ∀ a0 a1 k, LeO (F128.f k a0 a1) (F128.f (k + 1) a0 a1) := by
 intro a0 a1 k
 unfold F128.f
 repeat' with_reducible first | exact F78.mono _ _ _ | exact LeO.refl _ | exact LeO.none _ | refine LeO.ite ?_ ?_ | refine LeO.bind ?_ (fun _ => ?_)
theorem F128.calls (k : Nat) (a0_0 : ByteArray) (A0_1 : Option Addr) (c0_1 : Nat) (l0_1 : List (S55)) (r : Bool) (w : World) (hr0_1 : Kd.C k55 w A0_1 l0_1.length l0_1) (hc0_1 : l0_1.length ≤ c0_1) (h : F128.f k a0_0 l0_1 = some r) :
  Calls Tryd.prog 128 #[.agg #[.string a0_0, .slice A0_1 l0_1.length c0_1]] w fun e w' => e = .returned (.bool r) ∧ Below w.heap.size w w' := by
 have hu52 := Tryd.underlying52
 have HR0_1 := am_ hr0_1
 have HC0_1 := am_ hc0_1
 clear hr0_1 hc0_1
 have HB := am_ (Below.refl w.heap.size w)
 have H : ((F78.f k a0_0 l0_1).bind fun t361 => (some (!t361))) = some r := h
 clear h
 replace H := bi_ H; rcases H with ⟨t361, A2, H⟩
 obtain rfl := Option.some.inj H
 go_enter Tryd.func128, Tryd.ntmps128
 go_wp2_with (first | ((with_reducible refine gate_dst (N := 1) rfl ?_); refine be_ 1 #[.string a0_0, .slice A0_1 l0_1.length c0_1] 52 ?_; intro gb360 hg w3 hbox hb; have BK360 := am_ (hbox); have GW360 := am_ (gw_ hg bl_); have GE360 := GW360; replace HB := hs_ w hb; clear hb hbox hg; obtain ⟨hcz4_0, hcz4_1, hfz4_0, hfz4_1⟩ := cellsF2 BK360.out) | ((with_reducible refine gate_callee (f := 78) rfl ?_); refine gl_ 4 Tryd.func78 #[.agg #[.string a0_0, .slice A0_1 l0_1.length c0_1]] ?_ rfl rfl rfl rfl; (with_reducible refine (F78.calls k a0_0 _ _ l0_1 t361 _ ?s1 ?s2 A2.out).mono ?_); (case s1 => exact au2_4); (case s2 => exact HC0_1.out); rintro e w5 ⟨rfl, hb⟩; refine ⟨_, rfl, ?_⟩; replace BK360 := bb_ BK360 hb; replace HB := hs_ w hb; (try clear hb)))
 go_ret
 exact ⟨au2_0, bl_⟩

/-! ### F138: function 138 -/
def F138.l0 : Nat → List (S52) → Int → Int → Option (Int)
  | 0, _, _, _ => none
  | k + 1, x0, x7, x8 => if x8 < x7 then (if 0 ≤ x8 then (if x8 < (x0.length : Int) then ((F128.f k ((rd_T52 x0 x8).f0) ((rd_T52 x0 x8).f1)).bind fun t363 => (if t363 = true then (some x8) else (F138.l0 k x0 x7 (wrap64 (x8 + 1))))) else (none)) else (none)) else (some (-1))
def F138.f (k : Nat) (l0 : List (S52))  : Option (Int) := F138.l0 k l0 (l0.length : Int) 0
theorem F138.mono_l : ∀ k, (∀ y0 y1 y2, LeO (F138.l0 k y0 y1 y2) (F138.l0 (k + 1) y0 y1 y2))
 | 0 => fun _ _ _ r h => by simp [F138.l0] at h
 | k + 1 => by
  have ih0 := F138.mono_l k
  intro y0 y1 y2
  unfold F138.l0
  repeat' with_reducible first | exact ih0 _ _ _ | exact F128.mono _ _ _ | exact LeO.refl _ | exact LeO.none _ | refine LeO.ite ?_ ?_ | refine LeO.bind ?_ (fun _ => ?_)
theorem F138.mono : ∀ a0 k, LeO (F138.f k a0) (F138.f (k + 1) a0) := by
 intro a0 k
 have ih0 := F138.mono_l k
 unfold F138.f
 repeat' with_reducible first | exact ih0 _ _ _ | exact F128.mono _ _ _ | exact LeO.refl _ | exact LeO.none _ | refine LeO.ite ?_ ?_ | refine LeO.bind ?_ (fun _ => ?_)
theorem F138.calls (k : Nat) (A0 : Option Addr) (c0 : Nat) (l0 : List (S52))  (r : Int) (w : World) (hr0 : Kd.C k52 w A0 l0.length l0) (hc0 : l0.length ≤ c0) (h : F138.f k l0 = some r) :
  Calls Tryd.prog 138 #[.slice A0 l0.length c0, .func (.func 128) #[] #[]] w fun e w' => e = .returned (.int .i64 r) ∧ Below w.heap.size w w' := by
 have hu52 := Tryd.underlying52
 have HR0 := am_ hr0
 have HC0 := am_ hc0
 clear hr0 hc0
 have HB := am_ (Below.refl w.heap.size w)
 have H : (F138.l0 k l0 (l0.length : Int) 0) = some r := h
 clear h
 have H' := am_ H
 clear H
 go_enter Tryd.func138, Tryd.ntmps138
 go_wp2
 go_loopg [8] k (fun kq v8 w' => ∃ (x8_1 : Int), v8 = .int .i64 x8_1 ∧ Aside0 (F138.l0 kq l0 (l0.length : Int) x8_1 = some r) ∧ Aside0 (kq ≤ k) ∧ Aside0 (Below w.heap.size w w'))
 case atStart => exact ⟨(0), er_, H', ⟨Nat.le_refl _⟩, ⟨bl_⟩⟩
 case round =>
  clear H'
  obtain ⟨x8_1, rfl, HA, HK1, HB⟩ := hrel
  cases gk with
  | zero => exact absurd HA.out (by simp [F138.l0])
  | succ k1 =>
   have H := HA.out
   clear HA
   simp only [F138.l0] at H
   replace H := it_ H; rcases H with ⟨c3b0, H⟩ | ⟨c3b0, H⟩
   rotate_left
   ·obtain rfl := Option.some.inj H
    go_wp2
    go_ret
    exact ⟨au2_0, bl_⟩

   replace H := itn_ H; rcases H with ⟨c4b0, H⟩
   replace H := itn_ H; rcases H with ⟨c5b0, H⟩
   replace H := bi_ H; rcases H with ⟨t363, A6, H⟩
   replace H := ib_ H; rcases H with ⟨rfl, H⟩ | ⟨rfl, H⟩
   ·obtain rfl := Option.some.inj H
    have p362 : 0 ≤ (x8_1 : Int) := od_
    have q362 : x8_1 < (l0.length : Int) := od_
    obtain ⟨ad362, A362_1, c362_1, e362, hx362_0, hx362_1, hl362_1, hi362_1⟩ := at_T52 HR0.out x8_1 p362 q362
    cases e362
    replace hx362_0 := (HB.out.cell (World.block_lt_of_cell? _ _ hx362_0)).trans hx362_0
    replace hx362_1 := (HB.out.cell (World.block_lt_of_cell? _ _ hx362_1)).trans hx362_1
    have HR362_1 := am_ hi362_1
    have HC362_1 := am_ hl362_1
    clear hi362_1 hl362_1
    replace p362 := eq_true p362
    replace q362 := eq_true q362
    go_wp2_with (first | (go_at_call 128; (with_reducible refine (F128.calls k1 ((rd_T52 l0 x8_1).f0) _ _ ((rd_T52 l0 x8_1).f1) true _ ?s1 ?s2 A6.out).mono ?_); (case s1 => exact au2_5); (case s2 => exact HC362_1.out); rintro e w8 ⟨rfl, hb⟩; replace HB := hs_ w hb; (try clear hb)))
    go_ret
    exact ⟨au2_0, bl_⟩
   have H' := am_ H
   clear H
   have p362 : 0 ≤ (x8_1 : Int) := od_
   have q362 : x8_1 < (l0.length : Int) := od_
   obtain ⟨ad362, A362_1, c362_1, e362, hx362_0, hx362_1, hl362_1, hi362_1⟩ := at_T52 HR0.out x8_1 p362 q362
   cases e362
   replace hx362_0 := (HB.out.cell (World.block_lt_of_cell? _ _ hx362_0)).trans hx362_0
   replace hx362_1 := (HB.out.cell (World.block_lt_of_cell? _ _ hx362_1)).trans hx362_1
   have HR362_1 := am_ hi362_1
   have HC362_1 := am_ hl362_1
   clear hi362_1 hl362_1
   replace p362 := eq_true p362
   replace q362 := eq_true q362
   go_wp2_with (first | (go_at_call 128; (with_reducible refine (F128.calls k1 ((rd_T52 l0 x8_1).f0) _ _ ((rd_T52 l0 x8_1).f1) false _ ?s1 ?s2 A6.out).mono ?_); (case s1 => exact au2_5); (case s2 => exact HC362_1.out); rintro e w9 ⟨rfl, hb⟩; replace HB := hs_ w hb; (try clear hb)))
   go_roundg k1
   case measure => have := HK1.out; omega
   case rel => exact ⟨(wrap64 (x8_1 + 1)), er_, H', ⟨by have := HK1.out; omega⟩, ⟨bl_⟩⟩
/-! ### F127: function 127 -/
def F127.f (k : Nat) (l0 : List (S52))  : Option (Bool) := (F138.f k l0).bind fun t364 => (some (decide (t364 ≥ 0)))
theorem F127.mono : ∀ a0 k, LeO (F127.f k a0) (F127.f (k + 1) a0) := by
 intro a0 k
 unfold F127.f
 repeat' with_reducible first | exact F138.mono _ _ | exact LeO.refl _ | exact LeO.none _ | refine LeO.ite ?_ ?_ | refine LeO.bind ?_ (fun _ => ?_)
theorem F127.calls (k : Nat) (A0 : Option Addr) (c0 : Nat) (l0 : List (S52))  (r : Bool) (w : World) (hr0 : Kd.C k52 w A0 l0.length l0) (hc0 : l0.length ≤ c0) (h : F127.f k l0 = some r) :
  Calls Tryd.prog 127 #[.slice A0 l0.length c0, .func (.func 128) #[] #[]] w fun e w' => e = .returned (.bool r) ∧ Below w.heap.size w w' := by
 have HR0 := am_ hr0
 have HC0 := am_ hc0
 clear hr0 hc0
 have HB := am_ (Below.refl w.heap.size w)
 have H : ((F138.f k l0).bind fun t364 => (some (decide (t364 ≥ 0)))) = some r := h
 clear h
 replace H := bi_ H; rcases H with ⟨t364, A3, H⟩
 obtain rfl := Option.some.inj H
 go_enter Tryd.func127, Tryd.ntmps127
 go_wp2_with (first | ((with_reducible refine gate_callee (f := 138) rfl ?_); refine gl_ 7 Tryd.func138 #[.slice A0 l0.length c0, .func (.func 128) #[] #[]] ?_ rfl rfl rfl rfl; (with_reducible refine (F138.calls k _ _ l0  t364 _ ?s1 ?s2 A3.out).mono ?_); (case s1 => exact au2_2); (case s2 => exact HC0.out); rintro e w4 ⟨rfl, hb⟩; refine ⟨_, rfl, ?_⟩; replace HB := hs_ w hb; (try clear hb)))
 go_ret
 exact ⟨au2_0, bl_⟩

/-! ### F112: function 112 -/
def F112.f (k : Nat) (a0_0 : Int) (l0_1 : List (S52)) : Option (Bool) := (F82.f a0_0).bind fun t366 => (if t366 = true then (if (l0_1.length : Int) ≤ 40 then ((F127.f k l0_1).bind fun t367 => (some (!t367))) else (some false)) else (some false))
theorem F112.mono : ∀ a0 a1 k, LeO (F112.f k a0 a1) (F112.f (k + 1) a0 a1) := by
 intro a0 a1 k
 unfold F112.f
 repeat' with_reducible first | exact F127.mono _ _ | exact LeO.refl _ | exact LeO.none _ | refine LeO.ite ?_ ?_ | refine LeO.bind ?_ (fun _ => ?_)
theorem F112.calls (k : Nat) (a0_0 : Int) (A0_1 : Option Addr) (c0_1 : Nat) (l0_1 : List (S52)) (r : Bool) (w : World) (hr0_1 : Kd.C k52 w A0_1 l0_1.length l0_1) (hc0_1 : l0_1.length ≤ c0_1) (h : F112.f k a0_0 l0_1 = some r) :
  Calls Tryd.prog 112 #[.agg #[.int .i64 a0_0, .slice A0_1 l0_1.length c0_1]] w fun e w' => e = .returned (.bool r) ∧ Below w.heap.size w w' := by
 have hu85 := Tryd.underlying85
 have HR0_1 := am_ hr0_1
 have HC0_1 := am_ hc0_1
 clear hr0_1 hc0_1
 have HB := am_ (Below.refl w.heap.size w)
 have H : ((F82.f a0_0).bind fun t366 => (if t366 = true then (if (l0_1.length : Int) ≤ 40 then ((F127.f k l0_1).bind fun t367 => (some (!t367))) else (some false)) else (some false))) = some r := h
 clear h
 replace H := bi_ H; rcases H with ⟨t366, A2, H⟩
 replace H := ib_ H; rcases H with ⟨rfl, H⟩ | ⟨rfl, H⟩
 rotate_left
 ·obtain rfl := Option.some.inj H
  go_enter Tryd.func112, Tryd.ntmps112
  go_wp2_with (first | ((with_reducible refine gate_dst (N := 1) rfl ?_); (try (refine gate_guard (by rfl) ?_; dsimp only)); refine be_ 1 #[.int .i64 a0_0, .slice A0_1 l0_1.length c0_1] 85 ?_; intro gb365 hg w11 hbox hb; have BK365 := am_ (hbox); have GW365 := am_ (gw_ hg bl_); have GE365 := GW365; replace HB := hs_ w hb; clear hb hbox hg; obtain ⟨hcz12_0, hcz12_1, hfz12_0, hfz12_1⟩ := cellsF2 BK365.out) | ((with_reducible refine gate_callee (f := 82) rfl ?_); refine gl_ 5 Tryd.func82 #[.int .i64 a0_0] ?_ rfl rfl rfl rfl; (with_reducible refine (F82.calls a0_0 false _ A2.out).mono ?_); rintro e w' ⟨rfl, ⟨nd, rfl⟩⟩; refine ⟨_, rfl, ?_⟩))
  go_ret
  exact ⟨au2_0, bl_⟩

 replace H := it_ H; rcases H with ⟨c4b0, H⟩ | ⟨c4b0, H⟩
 rotate_left
 ·have c4b1 : decide (l0_1.length ≤ 40) = false := n2_ c4b0
  obtain rfl := Option.some.inj H
  go_enter Tryd.func112, Tryd.ntmps112
  go_wp2_with (first | ((with_reducible refine gate_dst (N := 1) rfl ?_); (try (refine gate_guard (by rfl) ?_; dsimp only)); refine be_ 1 #[.int .i64 a0_0, .slice A0_1 l0_1.length c0_1] 85 ?_; intro gb365 hg w9 hbox hb; have BK365 := am_ (hbox); have GW365 := am_ (gw_ hg bl_); have GE365 := GW365; replace HB := hs_ w hb; clear hb hbox hg; obtain ⟨hcz10_0, hcz10_1, hfz10_0, hfz10_1⟩ := cellsF2 BK365.out) | ((with_reducible refine gate_callee (f := 82) rfl ?_); refine gl_ 5 Tryd.func82 #[.int .i64 a0_0] ?_ rfl rfl rfl rfl; (with_reducible refine (F82.calls a0_0 true _ A2.out).mono ?_); rintro e w' ⟨rfl, ⟨nd, rfl⟩⟩; refine ⟨_, rfl, ?_⟩))
  go_ret
  exact ⟨au2_0, bl_⟩
 have c4b1 : decide (l0_1.length ≤ 40) = true := n2_ c4b0
 replace H := bi_ H; rcases H with ⟨t367, A5, H⟩
 obtain rfl := Option.some.inj H
 go_enter Tryd.func112, Tryd.ntmps112
 go_wp2_with (first | ((with_reducible refine gate_dst (N := 1) rfl ?_); (try (refine gate_guard (by rfl) ?_; dsimp only)); refine be_ 1 #[.int .i64 a0_0, .slice A0_1 l0_1.length c0_1] 85 ?_; intro gb365 hg w6 hbox hb; have BK365 := am_ (hbox); have GW365 := am_ (gw_ hg bl_); have GE365 := GW365; replace HB := hs_ w hb; clear hb hbox hg; obtain ⟨hcz7_0, hcz7_1, hfz7_0, hfz7_1⟩ := cellsF2 BK365.out) | ((with_reducible refine gate_callee (f := 82) rfl ?_); refine gl_ 5 Tryd.func82 #[.int .i64 a0_0] ?_ rfl rfl rfl rfl; (with_reducible refine (F82.calls a0_0 true _ A2.out).mono ?_); rintro e w' ⟨rfl, ⟨nd, rfl⟩⟩; refine ⟨_, rfl, ?_⟩) | (go_at_call 127; (with_reducible refine (F127.calls k _ _ l0_1  t367 _ ?s1 ?s2 A5.out).mono ?_); (case s1 => repeat (first | exact (Kd.C_below HR0_1.out bl_) | (with_reducible refine Kd.C_alloc ?_ _) | (with_reducible refine Kd.C_drewN ?_ _) | (with_reducible refine Kd.C_drew ?_))); (case s2 => exact HC0_1.out); rintro e w8 ⟨rfl, hb⟩; replace BK365 := bb_ BK365 hb; replace HB := hs_ w hb; (try clear hb)))
 go_ret
 exact ⟨au2_0, bl_⟩
/-! ### F111: function 111 -/
def F111.f (k : Nat) (a0_0 : Int) (l0_1 : List (S52)) : Option (Bool) := (F112.f k a0_0 l0_1).bind fun t369 => (some (!t369))
theorem F111.mono : ∀ a0 a1 k, LeO (F111.f k a0 a1) (F111.f (k + 1) a0 a1) := by
 intro a0 a1 k
 unfold F111.f
 repeat' with_reducible first | exact F112.mono _ _ _ | exact LeO.refl _ | exact LeO.none _ | refine LeO.ite ?_ ?_ | refine LeO.bind ?_ (fun _ => ?_)
theorem F111.calls (k : Nat) (a0_0 : Int) (A0_1 : Option Addr) (c0_1 : Nat) (l0_1 : List (S52)) (r : Bool) (w : World) (hr0_1 : Kd.C k52 w A0_1 l0_1.length l0_1) (hc0_1 : l0_1.length ≤ c0_1) (h : F111.f k a0_0 l0_1 = some r) :
  Calls Tryd.prog 111 #[.agg #[.int .i64 a0_0, .slice A0_1 l0_1.length c0_1]] w fun e w' => e = .returned (.bool r) ∧ Below w.heap.size w w' := by
 have hu85 := Tryd.underlying85
 have HR0_1 := am_ hr0_1
 have HC0_1 := am_ hc0_1
 clear hr0_1 hc0_1
 have HB := am_ (Below.refl w.heap.size w)
 have H : ((F112.f k a0_0 l0_1).bind fun t369 => (some (!t369))) = some r := h
 clear h
 replace H := bi_ H; rcases H with ⟨t369, A2, H⟩
 obtain rfl := Option.some.inj H
 go_enter Tryd.func111, Tryd.ntmps111
 go_wp2_with (first | ((with_reducible refine gate_dst (N := 1) rfl ?_); refine be_ 1 #[.int .i64 a0_0, .slice A0_1 l0_1.length c0_1] 85 ?_; intro gb368 hg w3 hbox hb; have BK368 := am_ (hbox); have GW368 := am_ (gw_ hg bl_); have GE368 := GW368; replace HB := hs_ w hb; clear hb hbox hg; obtain ⟨hcz4_0, hcz4_1, hfz4_0, hfz4_1⟩ := cellsF2 BK368.out) | ((with_reducible refine gate_callee (f := 112) rfl ?_); refine gl_ 4 Tryd.func112 #[.agg #[.int .i64 a0_0, .slice A0_1 l0_1.length c0_1]] ?_ rfl rfl rfl rfl; (with_reducible refine (F112.calls k a0_0 _ _ l0_1 t369 _ ?s1 ?s2 A2.out).mono ?_); (case s1 => exact au2_4); (case s2 => exact HC0_1.out); rintro e w5 ⟨rfl, hb⟩; refine ⟨_, rfl, ?_⟩; replace BK368 := bb_ BK368 hb; replace HB := hs_ w hb; (try clear hb)))
 go_ret
 exact ⟨au2_0, bl_⟩

/-! ### F126: function 126 -/
def F126.l0 : Nat → List (S85) → Int → Int → Option (Int)
  | 0, _, _, _ => none
  | k + 1, x0, x7, x8 => if x8 < x7 then (if 0 ≤ x8 then (if x8 < (x0.length : Int) then ((F111.f k ((rd_T85 x0 x8).f0) ((rd_T85 x0 x8).f1)).bind fun t371 => (if t371 = true then (some x8) else (F126.l0 k x0 x7 (wrap64 (x8 + 1))))) else (none)) else (none)) else (some (-1))
def F126.f (k : Nat) (l0 : List (S85))  : Option (Int) := F126.l0 k l0 (l0.length : Int) 0
theorem F126.mono_l : ∀ k, (∀ y0 y1 y2, LeO (F126.l0 k y0 y1 y2) (F126.l0 (k + 1) y0 y1 y2))
 | 0 => fun _ _ _ r h => by simp [F126.l0] at h
 | k + 1 => by
  have ih0 := F126.mono_l k
  intro y0 y1 y2
  unfold F126.l0
  repeat' with_reducible first | exact ih0 _ _ _ | exact F111.mono _ _ _ | exact LeO.refl _ | exact LeO.none _ | refine LeO.ite ?_ ?_ | refine LeO.bind ?_ (fun _ => ?_)
theorem F126.mono : ∀ a0 k, LeO (F126.f k a0) (F126.f (k + 1) a0) := by
 intro a0 k
 have ih0 := F126.mono_l k
 unfold F126.f
 repeat' with_reducible first | exact ih0 _ _ _ | exact F111.mono _ _ _ | exact LeO.refl _ | exact LeO.none _ | refine LeO.ite ?_ ?_ | refine LeO.bind ?_ (fun _ => ?_)
theorem F126.calls (k : Nat) (A0 : Option Addr) (c0 : Nat) (l0 : List (S85))  (r : Int) (w : World) (hr0 : Kd.C k85 w A0 l0.length l0) (hc0 : l0.length ≤ c0) (h : F126.f k l0 = some r) :
  Calls Tryd.prog 126 #[.slice A0 l0.length c0, .func (.func 111) #[] #[]] w fun e w' => e = .returned (.int .i64 r) ∧ Below w.heap.size w w' := by
 have hu85 := Tryd.underlying85
 have HR0 := am_ hr0
 have HC0 := am_ hc0
 clear hr0 hc0
 have HB := am_ (Below.refl w.heap.size w)
 have H : (F126.l0 k l0 (l0.length : Int) 0) = some r := h
 clear h
 have H' := am_ H
 clear H
 go_enter Tryd.func126, Tryd.ntmps126
 go_wp2
 go_loopg [8] k (fun kq v8 w' => ∃ (x8_1 : Int), v8 = .int .i64 x8_1 ∧ Aside0 (F126.l0 kq l0 (l0.length : Int) x8_1 = some r) ∧ Aside0 (kq ≤ k) ∧ Aside0 (Below w.heap.size w w'))
 case atStart => exact ⟨(0), er_, H', ⟨Nat.le_refl _⟩, ⟨bl_⟩⟩
 case round =>
  clear H'
  obtain ⟨x8_1, rfl, HA, HK1, HB⟩ := hrel
  cases gk with
  | zero => exact absurd HA.out (by simp [F126.l0])
  | succ k1 =>
   have H := HA.out
   clear HA
   simp only [F126.l0] at H
   replace H := it_ H; rcases H with ⟨c3b0, H⟩ | ⟨c3b0, H⟩
   rotate_left
   ·obtain rfl := Option.some.inj H
    go_wp2
    go_ret
    exact ⟨au2_0, bl_⟩

   replace H := itn_ H; rcases H with ⟨c4b0, H⟩
   replace H := itn_ H; rcases H with ⟨c5b0, H⟩
   replace H := bi_ H; rcases H with ⟨t371, A6, H⟩
   replace H := ib_ H; rcases H with ⟨rfl, H⟩ | ⟨rfl, H⟩
   ·obtain rfl := Option.some.inj H
    have p370 : 0 ≤ (x8_1 : Int) := od_
    have q370 : x8_1 < (l0.length : Int) := od_
    obtain ⟨ad370, A370_1, c370_1, e370, hx370_0, hx370_1, hl370_1, hi370_1⟩ := at_T85 HR0.out x8_1 p370 q370
    cases e370
    replace hx370_0 := (HB.out.cell (World.block_lt_of_cell? _ _ hx370_0)).trans hx370_0
    replace hx370_1 := (HB.out.cell (World.block_lt_of_cell? _ _ hx370_1)).trans hx370_1
    have HR370_1 := am_ hi370_1
    have HC370_1 := am_ hl370_1
    clear hi370_1 hl370_1
    replace p370 := eq_true p370
    replace q370 := eq_true q370
    go_wp2_with (first | (go_at_call 111; (with_reducible refine (F111.calls k1 ((rd_T85 l0 x8_1).f0) _ _ ((rd_T85 l0 x8_1).f1) true _ ?s1 ?s2 A6.out).mono ?_); (case s1 => exact au2_6); (case s2 => exact HC370_1.out); rintro e w8 ⟨rfl, hb⟩; replace HB := hs_ w hb; (try clear hb)))
    go_ret
    exact ⟨au2_0, bl_⟩
   have H' := am_ H
   clear H
   have p370 : 0 ≤ (x8_1 : Int) := od_
   have q370 : x8_1 < (l0.length : Int) := od_
   obtain ⟨ad370, A370_1, c370_1, e370, hx370_0, hx370_1, hl370_1, hi370_1⟩ := at_T85 HR0.out x8_1 p370 q370
   cases e370
   replace hx370_0 := (HB.out.cell (World.block_lt_of_cell? _ _ hx370_0)).trans hx370_0
   replace hx370_1 := (HB.out.cell (World.block_lt_of_cell? _ _ hx370_1)).trans hx370_1
   have HR370_1 := am_ hi370_1
   have HC370_1 := am_ hl370_1
   clear hi370_1 hl370_1
   replace p370 := eq_true p370
   replace q370 := eq_true q370
   go_wp2_with (first | (go_at_call 111; (with_reducible refine (F111.calls k1 ((rd_T85 l0 x8_1).f0) _ _ ((rd_T85 l0 x8_1).f1) false _ ?s1 ?s2 A6.out).mono ?_); (case s1 => exact au2_6); (case s2 => exact HC370_1.out); rintro e w9 ⟨rfl, hb⟩; replace HB := hs_ w hb; (try clear hb)))
   go_roundg k1
   case measure => have := HK1.out; omega
   case rel => exact ⟨(wrap64 (x8_1 + 1)), er_, H', ⟨by have := HK1.out; omega⟩, ⟨bl_⟩⟩
/-! ### F110: function 110 -/
def F110.f (k : Nat) (l0 : List (S85))  : Option (Bool) := (F126.f k l0).bind fun t372 => (some (decide (t372 ≥ 0)))
theorem F110.mono : ∀ a0 k, LeO (F110.f k a0) (F110.f (k + 1) a0) := by
 intro a0 k
 unfold F110.f
 repeat' with_reducible first | exact F126.mono _ _ | exact LeO.refl _ | exact LeO.none _ | refine LeO.ite ?_ ?_ | refine LeO.bind ?_ (fun _ => ?_)
theorem F110.calls (k : Nat) (A0 : Option Addr) (c0 : Nat) (l0 : List (S85))  (r : Bool) (w : World) (hr0 : Kd.C k85 w A0 l0.length l0) (hc0 : l0.length ≤ c0) (h : F110.f k l0 = some r) :
  Calls Tryd.prog 110 #[.slice A0 l0.length c0, .func (.func 111) #[] #[]] w fun e w' => e = .returned (.bool r) ∧ Below w.heap.size w w' := by
 have HR0 := am_ hr0
 have HC0 := am_ hc0
 clear hr0 hc0
 have HB := am_ (Below.refl w.heap.size w)
 have H : ((F126.f k l0).bind fun t372 => (some (decide (t372 ≥ 0)))) = some r := h
 clear h
 replace H := bi_ H; rcases H with ⟨t372, A3, H⟩
 obtain rfl := Option.some.inj H
 go_enter Tryd.func110, Tryd.ntmps110
 go_wp2_with (first | ((with_reducible refine gate_callee (f := 126) rfl ?_); refine gl_ 7 Tryd.func126 #[.slice A0 l0.length c0, .func (.func 111) #[] #[]] ?_ rfl rfl rfl rfl; (with_reducible refine (F126.calls k _ _ l0  t372 _ ?s1 ?s2 A3.out).mono ?_); (case s1 => exact au2_2); (case s2 => exact HC0.out); rintro e w4 ⟨rfl, hb⟩; refine ⟨_, rfl, ?_⟩; replace HB := hs_ w hb; (try clear hb)))
 go_ret
 exact ⟨au2_0, bl_⟩

/-! ### F86: function 86 -/
def F86.f (k : Nat) (a0_0 : Int) (a0_1 : Int) (l0_2 : List (S85)) : Option (Bool) := (F83.f a0_0 1 7).bind fun t374 => (if t374 = true then ((F82.f a0_1).bind fun t375 => (if t375 = true then ((F83.f (l0_2.length : Int) 1 10).bind fun t376 => (if t376 = true then ((F110.f k l0_2).bind fun t377 => (some (!t377))) else (some false))) else (some false))) else (some false))
theorem F86.mono : ∀ a0 a1 a2 k, LeO (F86.f k a0 a1 a2) (F86.f (k + 1) a0 a1 a2) := by
 intro a0 a1 a2 k
 unfold F86.f
 repeat' with_reducible first | exact F110.mono _ _ | exact LeO.refl _ | exact LeO.none _ | refine LeO.ite ?_ ?_ | refine LeO.bind ?_ (fun _ => ?_)
theorem F86.calls (k : Nat) (a0_0 : Int) (a0_1 : Int) (A0_2 : Option Addr) (c0_2 : Nat) (l0_2 : List (S85)) (r : Bool) (w : World) (hr0_2 : Kd.C k85 w A0_2 l0_2.length l0_2) (hc0_2 : l0_2.length ≤ c0_2) (h : F86.f k a0_0 a0_1 l0_2 = some r) :
  Calls Tryd.prog 86 #[.agg #[.int .i64 a0_0, .int .i64 a0_1, .slice A0_2 l0_2.length c0_2]] w fun e w' => e = .returned (.bool r) ∧ Below w.heap.size w w' := by
 have hu83 := Tryd.underlying83
 have HR0_2 := am_ hr0_2
 have HC0_2 := am_ hc0_2
 clear hr0_2 hc0_2
 have HB := am_ (Below.refl w.heap.size w)
 have H : ((F83.f a0_0 1 7).bind fun t374 => (if t374 = true then ((F82.f a0_1).bind fun t375 => (if t375 = true then ((F83.f (l0_2.length : Int) 1 10).bind fun t376 => (if t376 = true then ((F110.f k l0_2).bind fun t377 => (some (!t377))) else (some false))) else (some false))) else (some false))) = some r := h
 clear h
 replace H := bi_ H; rcases H with ⟨t374, A2, H⟩
 replace H := ib_ H; rcases H with ⟨rfl, H⟩ | ⟨rfl, H⟩
 rotate_left
 ·obtain rfl := Option.some.inj H
  go_enter Tryd.func86, Tryd.ntmps86
  go_wp2_with (first | ((with_reducible refine gate_dst (N := 1) rfl ?_); (try (refine gate_guard (by rfl) ?_; dsimp only)); refine be_ 1 #[.int .i64 a0_0, .int .i64 a0_1, .slice A0_2 l0_2.length c0_2] 83 ?_; intro gb373 hg w16 hbox hb; have BK373 := am_ (hbox); have GW373 := am_ (gw_ hg bl_); have GE373 := GW373; replace HB := hs_ w hb; clear hb hbox hg; obtain ⟨hcz17_0, hcz17_1, hcz17_2, hfz17_0, hfz17_1, hfz17_2⟩ := cellsF3 BK373.out) | ((with_reducible refine gate_callee (f := 83) rfl ?_); refine gl_ 5 Tryd.func83 #[.int .i64 a0_0, .int .i64 1, .int .i64 7] ?_ rfl rfl rfl rfl; (with_reducible refine (F83.calls a0_0 1 7 false _ A2.out).mono ?_); rintro e w' ⟨rfl, ⟨nd, rfl⟩⟩; refine ⟨_, rfl, ?_⟩))
  go_ret
  exact ⟨au2_0, bl_⟩

 replace H := bi_ H; rcases H with ⟨t375, A4, H⟩
 replace H := ib_ H; rcases H with ⟨rfl, H⟩ | ⟨rfl, H⟩
 rotate_left
 ·obtain rfl := Option.some.inj H
  go_enter Tryd.func86, Tryd.ntmps86
  go_wp2_with (first | ((with_reducible refine gate_dst (N := 1) rfl ?_); (try (refine gate_guard (by rfl) ?_; dsimp only)); refine be_ 1 #[.int .i64 a0_0, .int .i64 a0_1, .slice A0_2 l0_2.length c0_2] 83 ?_; intro gb373 hg w14 hbox hb; have BK373 := am_ (hbox); have GW373 := am_ (gw_ hg bl_); have GE373 := GW373; replace HB := hs_ w hb; clear hb hbox hg; obtain ⟨hcz15_0, hcz15_1, hcz15_2, hfz15_0, hfz15_1, hfz15_2⟩ := cellsF3 BK373.out) | ((with_reducible refine gate_callee (f := 83) rfl ?_); refine gl_ 5 Tryd.func83 #[.int .i64 a0_0, .int .i64 1, .int .i64 7] ?_ rfl rfl rfl rfl; (with_reducible refine (F83.calls a0_0 1 7 true _ A2.out).mono ?_); rintro e w' ⟨rfl, ⟨nd, rfl⟩⟩; refine ⟨_, rfl, ?_⟩) | (go_at_call 82; (with_reducible refine (F82.calls a0_1 false _ A4.out).mono ?_); rintro e w' ⟨rfl, ⟨nd, rfl⟩⟩))
  go_ret
  exact ⟨au2_0, bl_⟩
 replace H := bi_ H; rcases H with ⟨t376, A6, H⟩
 replace H := ib_ H; rcases H with ⟨rfl, H⟩ | ⟨rfl, H⟩
 rotate_left
 ·obtain rfl := Option.some.inj H
  go_enter Tryd.func86, Tryd.ntmps86
  go_wp2_with (first | ((with_reducible refine gate_dst (N := 1) rfl ?_); (try (refine gate_guard (by rfl) ?_; dsimp only)); refine be_ 1 #[.int .i64 a0_0, .int .i64 a0_1, .slice A0_2 l0_2.length c0_2] 83 ?_; intro gb373 hg w12 hbox hb; have BK373 := am_ (hbox); have GW373 := am_ (gw_ hg bl_); have GE373 := GW373; replace HB := hs_ w hb; clear hb hbox hg; obtain ⟨hcz13_0, hcz13_1, hcz13_2, hfz13_0, hfz13_1, hfz13_2⟩ := cellsF3 BK373.out) | ((with_reducible refine gate_callee (f := 83) rfl ?_); refine gl_ 5 Tryd.func83 #[.int .i64 a0_0, .int .i64 1, .int .i64 7] ?_ rfl rfl rfl rfl; (with_reducible refine (F83.calls a0_0 1 7 true _ A2.out).mono ?_); rintro e w' ⟨rfl, ⟨nd, rfl⟩⟩; refine ⟨_, rfl, ?_⟩) | (go_at_call 82; (with_reducible refine (F82.calls a0_1 true _ A4.out).mono ?_); rintro e w' ⟨rfl, ⟨nd, rfl⟩⟩) | (go_at_call 83; (with_reducible refine (F83.calls (l0_2.length : Int) 1 10 false _ A6.out).mono ?_); rintro e w' ⟨rfl, ⟨nd, rfl⟩⟩))
  go_ret
  exact ⟨au2_0, bl_⟩
 replace H := bi_ H; rcases H with ⟨t377, A8, H⟩
 obtain rfl := Option.some.inj H
 go_enter Tryd.func86, Tryd.ntmps86
 go_wp2_with (first | ((with_reducible refine gate_dst (N := 1) rfl ?_); (try (refine gate_guard (by rfl) ?_; dsimp only)); refine be_ 1 #[.int .i64 a0_0, .int .i64 a0_1, .slice A0_2 l0_2.length c0_2] 83 ?_; intro gb373 hg w9 hbox hb; have BK373 := am_ (hbox); have GW373 := am_ (gw_ hg bl_); have GE373 := GW373; replace HB := hs_ w hb; clear hb hbox hg; obtain ⟨hcz10_0, hcz10_1, hcz10_2, hfz10_0, hfz10_1, hfz10_2⟩ := cellsF3 BK373.out) | ((with_reducible refine gate_callee (f := 83) rfl ?_); refine gl_ 5 Tryd.func83 #[.int .i64 a0_0, .int .i64 1, .int .i64 7] ?_ rfl rfl rfl rfl; (with_reducible refine (F83.calls a0_0 1 7 true _ A2.out).mono ?_); rintro e w' ⟨rfl, ⟨nd, rfl⟩⟩; refine ⟨_, rfl, ?_⟩) | (go_at_call 82; (with_reducible refine (F82.calls a0_1 true _ A4.out).mono ?_); rintro e w' ⟨rfl, ⟨nd, rfl⟩⟩) | (go_at_call 83; (with_reducible refine (F83.calls (l0_2.length : Int) 1 10 true _ A6.out).mono ?_); rintro e w' ⟨rfl, ⟨nd, rfl⟩⟩) | (go_at_call 110; (with_reducible refine (F110.calls k _ _ l0_2  t377 _ ?s1 ?s2 A8.out).mono ?_); (case s1 => repeat (first | exact (Kd.C_below HR0_2.out bl_) | (with_reducible refine Kd.C_alloc ?_ _) | (with_reducible refine Kd.C_drewN ?_ _) | (with_reducible refine Kd.C_drew ?_))); (case s2 => exact HC0_2.out); rintro e w11 ⟨rfl, hb⟩; replace BK373 := bb_ BK373 hb; replace HB := hs_ w hb; (try clear hb)))
 go_ret
 exact ⟨au2_0, bl_⟩
/-! ### F85: function 85 -/
def F85.f (k : Nat) (a0_0 : Int) (a0_1 : Int) (l0_2 : List (S85)) : Option (Bool) := (F86.f k a0_0 a0_1 l0_2).bind fun t379 => (some (!t379))
theorem F85.mono : ∀ a0 a1 a2 k, LeO (F85.f k a0 a1 a2) (F85.f (k + 1) a0 a1 a2) := by
 intro a0 a1 a2 k
 unfold F85.f
 repeat' with_reducible first | exact F86.mono _ _ _ _ | exact LeO.refl _ | exact LeO.none _ | refine LeO.ite ?_ ?_ | refine LeO.bind ?_ (fun _ => ?_)
theorem F85.calls (k : Nat) (a0_0 : Int) (a0_1 : Int) (A0_2 : Option Addr) (c0_2 : Nat) (l0_2 : List (S85)) (r : Bool) (w : World) (hr0_2 : Kd.C k85 w A0_2 l0_2.length l0_2) (hc0_2 : l0_2.length ≤ c0_2) (h : F85.f k a0_0 a0_1 l0_2 = some r) :
  Calls Tryd.prog 85 #[.agg #[.int .i64 a0_0, .int .i64 a0_1, .slice A0_2 l0_2.length c0_2]] w fun e w' => e = .returned (.bool r) ∧ Below w.heap.size w w' := by
 have hu83 := Tryd.underlying83
 have HR0_2 := am_ hr0_2
 have HC0_2 := am_ hc0_2
 clear hr0_2 hc0_2
 have HB := am_ (Below.refl w.heap.size w)
 have H : ((F86.f k a0_0 a0_1 l0_2).bind fun t379 => (some (!t379))) = some r := h
 clear h
 replace H := bi_ H; rcases H with ⟨t379, A2, H⟩
 obtain rfl := Option.some.inj H
 go_enter Tryd.func85, Tryd.ntmps85
 go_wp2_with (first | ((with_reducible refine gate_dst (N := 1) rfl ?_); refine be_ 1 #[.int .i64 a0_0, .int .i64 a0_1, .slice A0_2 l0_2.length c0_2] 83 ?_; intro gb378 hg w3 hbox hb; have BK378 := am_ (hbox); have GW378 := am_ (gw_ hg bl_); have GE378 := GW378; replace HB := hs_ w hb; clear hb hbox hg; obtain ⟨hcz4_0, hcz4_1, hcz4_2, hfz4_0, hfz4_1, hfz4_2⟩ := cellsF3 BK378.out) | ((with_reducible refine gate_callee (f := 86) rfl ?_); refine gl_ 4 Tryd.func86 #[.agg #[.int .i64 a0_0, .int .i64 a0_1, .slice A0_2 l0_2.length c0_2]] ?_ rfl rfl rfl rfl; (with_reducible refine (F86.calls k a0_0 a0_1 _ _ l0_2 t379 _ ?s1 ?s2 A2.out).mono ?_); (case s1 => repeat (first | exact (Kd.C_below HR0_2.out HB.out) | (with_reducible refine Kd.C_alloc ?_ _) | (with_reducible refine Kd.C_drewN ?_ _) | (with_reducible refine Kd.C_drew ?_))); (case s2 => exact HC0_2.out); rintro e w5 ⟨rfl, hb⟩; refine ⟨_, rfl, ?_⟩; replace BK378 := bb_ BK378 hb; replace HB := hs_ w hb; (try clear hb)))
 go_ret
 exact ⟨au2_0, bl_⟩

/-! ### F109: function 109 -/
def F109.l0 : Nat → List (S83) → Int → Int → Option (Int)
  | 0, _, _, _ => none
  | k + 1, x0, x7, x8 => if x8 < x7 then (if 0 ≤ x8 then (if x8 < (x0.length : Int) then ((F85.f k ((rd_T83 x0 x8).f0) ((rd_T83 x0 x8).f1) ((rd_T83 x0 x8).f2)).bind fun t381 => (if t381 = true then (some x8) else (F109.l0 k x0 x7 (wrap64 (x8 + 1))))) else (none)) else (none)) else (some (-1))
def F109.f (k : Nat) (l0 : List (S83))  : Option (Int) := F109.l0 k l0 (l0.length : Int) 0
theorem F109.mono_l : ∀ k, (∀ y0 y1 y2, LeO (F109.l0 k y0 y1 y2) (F109.l0 (k + 1) y0 y1 y2))
 | 0 => fun _ _ _ r h => by simp [F109.l0] at h
 | k + 1 => by
  have ih0 := F109.mono_l k
  intro y0 y1 y2
  unfold F109.l0
  repeat' with_reducible first | exact ih0 _ _ _ | exact F85.mono _ _ _ _ | exact LeO.refl _ | exact LeO.none _ | refine LeO.ite ?_ ?_ | refine LeO.bind ?_ (fun _ => ?_)
theorem F109.mono : ∀ a0 k, LeO (F109.f k a0) (F109.f (k + 1) a0) := by
 intro a0 k
 have ih0 := F109.mono_l k
 unfold F109.f
 repeat' with_reducible first | exact ih0 _ _ _ | exact F85.mono _ _ _ _ | exact LeO.refl _ | exact LeO.none _ | refine LeO.ite ?_ ?_ | refine LeO.bind ?_ (fun _ => ?_)
theorem F109.calls (k : Nat) (A0 : Option Addr) (c0 : Nat) (l0 : List (S83))  (r : Int) (w : World) (hr0 : Kd.C k83 w A0 l0.length l0) (hc0 : l0.length ≤ c0) (h : F109.f k l0 = some r) :
  Calls Tryd.prog 109 #[.slice A0 l0.length c0, .func (.func 85) #[] #[]] w fun e w' => e = .returned (.int .i64 r) ∧ Below w.heap.size w w' := by
 have hu83 := Tryd.underlying83
 have HR0 := am_ hr0
 have HC0 := am_ hc0
 clear hr0 hc0
 have HB := am_ (Below.refl w.heap.size w)
 have H : (F109.l0 k l0 (l0.length : Int) 0) = some r := h
 clear h
 have H' := am_ H
 clear H
 go_enter Tryd.func109, Tryd.ntmps109
 go_wp2
 go_loopg [8] k (fun kq v8 w' => ∃ (x8_1 : Int), v8 = .int .i64 x8_1 ∧ Aside0 (F109.l0 kq l0 (l0.length : Int) x8_1 = some r) ∧ Aside0 (kq ≤ k) ∧ Aside0 (Below w.heap.size w w'))
 case atStart => exact ⟨(0), er_, H', ⟨Nat.le_refl _⟩, ⟨bl_⟩⟩
 case round =>
  clear H'
  obtain ⟨x8_1, rfl, HA, HK1, HB⟩ := hrel
  cases gk with
  | zero => exact absurd HA.out (by simp [F109.l0])
  | succ k1 =>
   have H := HA.out
   clear HA
   simp only [F109.l0] at H
   replace H := it_ H; rcases H with ⟨c3b0, H⟩ | ⟨c3b0, H⟩
   rotate_left
   ·obtain rfl := Option.some.inj H
    go_wp2
    go_ret
    exact ⟨au2_0, bl_⟩

   replace H := itn_ H; rcases H with ⟨c4b0, H⟩
   replace H := itn_ H; rcases H with ⟨c5b0, H⟩
   replace H := bi_ H; rcases H with ⟨t381, A6, H⟩
   replace H := ib_ H; rcases H with ⟨rfl, H⟩ | ⟨rfl, H⟩
   ·obtain rfl := Option.some.inj H
    have p380 : 0 ≤ (x8_1 : Int) := od_
    have q380 : x8_1 < (l0.length : Int) := od_
    obtain ⟨ad380, A380_2, c380_2, e380, hx380_0, hx380_1, hx380_2, hl380_2, hi380_2⟩ := at_T83 HR0.out x8_1 p380 q380
    cases e380
    replace hx380_0 := (HB.out.cell (World.block_lt_of_cell? _ _ hx380_0)).trans hx380_0
    replace hx380_1 := (HB.out.cell (World.block_lt_of_cell? _ _ hx380_1)).trans hx380_1
    replace hx380_2 := (HB.out.cell (World.block_lt_of_cell? _ _ hx380_2)).trans hx380_2
    have HR380_2 := am_ hi380_2
    have HC380_2 := am_ hl380_2
    clear hi380_2 hl380_2
    replace p380 := eq_true p380
    replace q380 := eq_true q380
    go_wp2_with (first | (go_at_call 85; (with_reducible refine (F85.calls k1 ((rd_T83 l0 x8_1).f0) ((rd_T83 l0 x8_1).f1) _ _ ((rd_T83 l0 x8_1).f2) true _ ?s1 ?s2 A6.out).mono ?_); (case s1 => exact au2_7); (case s2 => exact HC380_2.out); rintro e w8 ⟨rfl, hb⟩; replace HB := hs_ w hb; (try clear hb)))
    go_ret
    exact ⟨au2_0, bl_⟩
   have H' := am_ H
   clear H
   have p380 : 0 ≤ (x8_1 : Int) := od_
   have q380 : x8_1 < (l0.length : Int) := od_
   obtain ⟨ad380, A380_2, c380_2, e380, hx380_0, hx380_1, hx380_2, hl380_2, hi380_2⟩ := at_T83 HR0.out x8_1 p380 q380
   cases e380
   replace hx380_0 := (HB.out.cell (World.block_lt_of_cell? _ _ hx380_0)).trans hx380_0
   replace hx380_1 := (HB.out.cell (World.block_lt_of_cell? _ _ hx380_1)).trans hx380_1
   replace hx380_2 := (HB.out.cell (World.block_lt_of_cell? _ _ hx380_2)).trans hx380_2
   have HR380_2 := am_ hi380_2
   have HC380_2 := am_ hl380_2
   clear hi380_2 hl380_2
   replace p380 := eq_true p380
   replace q380 := eq_true q380
   go_wp2_with (first | (go_at_call 85; (with_reducible refine (F85.calls k1 ((rd_T83 l0 x8_1).f0) ((rd_T83 l0 x8_1).f1) _ _ ((rd_T83 l0 x8_1).f2) false _ ?s1 ?s2 A6.out).mono ?_); (case s1 => exact au2_7); (case s2 => exact HC380_2.out); rintro e w9 ⟨rfl, hb⟩; replace HB := hs_ w hb; (try clear hb)))
   go_roundg k1
   case measure => have := HK1.out; omega
   case rel => exact ⟨(wrap64 (x8_1 + 1)), er_, H', ⟨by have := HK1.out; omega⟩, ⟨bl_⟩⟩
/-! ### F84: function 84 -/
def F84.f (k : Nat) (l0 : List (S83))  : Option (Bool) := (F109.f k l0).bind fun t382 => (some (decide (t382 ≥ 0)))
theorem F84.mono : ∀ a0 k, LeO (F84.f k a0) (F84.f (k + 1) a0) := by
 intro a0 k
 unfold F84.f
 repeat' with_reducible first | exact F109.mono _ _ | exact LeO.refl _ | exact LeO.none _ | refine LeO.ite ?_ ?_ | refine LeO.bind ?_ (fun _ => ?_)
theorem F84.calls (k : Nat) (A0 : Option Addr) (c0 : Nat) (l0 : List (S83))  (r : Bool) (w : World) (hr0 : Kd.C k83 w A0 l0.length l0) (hc0 : l0.length ≤ c0) (h : F84.f k l0 = some r) :
  Calls Tryd.prog 84 #[.slice A0 l0.length c0, .func (.func 85) #[] #[]] w fun e w' => e = .returned (.bool r) ∧ Below w.heap.size w w' := by
 have HR0 := am_ hr0
 have HC0 := am_ hc0
 clear hr0 hc0
 have HB := am_ (Below.refl w.heap.size w)
 have H : ((F109.f k l0).bind fun t382 => (some (decide (t382 ≥ 0)))) = some r := h
 clear h
 replace H := bi_ H; rcases H with ⟨t382, A3, H⟩
 obtain rfl := Option.some.inj H
 go_enter Tryd.func84, Tryd.ntmps84
 go_wp2_with (first | ((with_reducible refine gate_callee (f := 109) rfl ?_); refine gl_ 7 Tryd.func109 #[.slice A0 l0.length c0, .func (.func 85) #[] #[]] ?_ rfl rfl rfl rfl; (with_reducible refine (F109.calls k _ _ l0  t382 _ ?s1 ?s2 A3.out).mono ?_); (case s1 => exact au2_2); (case s2 => exact HC0.out); rintro e w4 ⟨rfl, hb⟩; refine ⟨_, rfl, ?_⟩; replace HB := hs_ w hb; (try clear hb)))
 go_ret
 exact ⟨au2_0, bl_⟩

/-! ### F55: function 55 -/
def F55.f (k : Nat) (a0_0 : ByteArray) (a0_1 : ByteArray) (a0_2 : Int) (l0_3 : List (S83)) : Option (Bool) := (F61.f k a0_0).bind fun t384 => (if t384 = true then ((F61.f k a0_1).bind fun t385 => (if t385 = true then ((F82.f a0_2).bind fun t386 => (if t386 = true then ((F83.f (l0_3.length : Int) 1 5).bind fun t387 => (if t387 = true then ((F84.f k l0_3).bind fun t388 => (some (!t388))) else (some false))) else (some false))) else (some false))) else (some false))
theorem F55.mono : ∀ a0 a1 a2 a3 k, LeO (F55.f k a0 a1 a2 a3) (F55.f (k + 1) a0 a1 a2 a3) := by
 intro a0 a1 a2 a3 k
 unfold F55.f
 repeat' with_reducible first | exact F84.mono _ _ | exact F61.mono _ _ | exact LeO.refl _ | exact LeO.none _ | refine LeO.ite ?_ ?_ | refine LeO.bind ?_ (fun _ => ?_)
theorem F55.calls (k : Nat) (a0_0 : ByteArray) (a0_1 : ByteArray) (a0_2 : Int) (A0_3 : Option Addr) (c0_3 : Nat) (l0_3 : List (S83)) (r : Bool) (w : World) (hr0_3 : Kd.C k83 w A0_3 l0_3.length l0_3) (hc0_3 : l0_3.length ≤ c0_3) (h : F55.f k a0_0 a0_1 a0_2 l0_3 = some r) :
  Calls Tryd.prog 55 #[.agg #[.string a0_0, .string a0_1, .int .i64 a0_2, .slice A0_3 l0_3.length c0_3]] w fun e w' => e = .returned (.bool r) ∧ Below w.heap.size w w' := by
 have hu29 := Tryd.underlying29
 have HR0_3 := am_ hr0_3
 have HC0_3 := am_ hc0_3
 clear hr0_3 hc0_3
 have HB := am_ (Below.refl w.heap.size w)
 have H : ((F61.f k a0_0).bind fun t384 => (if t384 = true then ((F61.f k a0_1).bind fun t385 => (if t385 = true then ((F82.f a0_2).bind fun t386 => (if t386 = true then ((F83.f (l0_3.length : Int) 1 5).bind fun t387 => (if t387 = true then ((F84.f k l0_3).bind fun t388 => (some (!t388))) else (some false))) else (some false))) else (some false))) else (some false))) = some r := h
 clear h
 replace H := bi_ H; rcases H with ⟨t384, A2, H⟩
 replace H := ib_ H; rcases H with ⟨rfl, H⟩ | ⟨rfl, H⟩
 rotate_left
 ·obtain rfl := Option.some.inj H
  go_enter Tryd.func55, Tryd.ntmps55
  go_wp2_with (first | ((with_reducible refine gate_dst (N := 1) rfl ?_); (try (refine gate_guard (by rfl) ?_; dsimp only)); refine be_ 1 #[.string a0_0, .string a0_1, .int .i64 a0_2, .slice A0_3 l0_3.length c0_3] 29 ?_; intro gb383 hg w20 hbox hb; have BK383 := am_ (hbox); have GW383 := am_ (gw_ hg bl_); have GE383 := GW383; replace HB := hs_ w hb; clear hb hbox hg; obtain ⟨hcz21_0, hcz21_1, hcz21_2, hcz21_3, hfz21_0, hfz21_1, hfz21_2, hfz21_3⟩ := cellsF4 BK383.out) | ((with_reducible refine gate_callee (f := 61) rfl ?_); refine gl_ 5 Tryd.func61 #[.string a0_0] ?_ rfl rfl rfl rfl; (with_reducible refine (F61.calls k a0_0 false _ A2.out).mono ?_); rintro e w' ⟨rfl, ⟨nd, rfl⟩⟩; refine ⟨_, rfl, ?_⟩))
  go_ret
  exact ⟨au2_0, bl_⟩
 replace H := bi_ H; rcases H with ⟨t385, A4, H⟩
 replace H := ib_ H; rcases H with ⟨rfl, H⟩ | ⟨rfl, H⟩
 rotate_left
 ·obtain rfl := Option.some.inj H
  go_enter Tryd.func55, Tryd.ntmps55
  go_wp2_with (first | ((with_reducible refine gate_dst (N := 1) rfl ?_); (try (refine gate_guard (by rfl) ?_; dsimp only)); refine be_ 1 #[.string a0_0, .string a0_1, .int .i64 a0_2, .slice A0_3 l0_3.length c0_3] 29 ?_; intro gb383 hg w18 hbox hb; have BK383 := am_ (hbox); have GW383 := am_ (gw_ hg bl_); have GE383 := GW383; replace HB := hs_ w hb; clear hb hbox hg; obtain ⟨hcz19_0, hcz19_1, hcz19_2, hcz19_3, hfz19_0, hfz19_1, hfz19_2, hfz19_3⟩ := cellsF4 BK383.out) | ((with_reducible refine gate_callee (f := 61) rfl ?_); refine gl_ 5 Tryd.func61 #[.string a0_0] ?_ rfl rfl rfl rfl; (with_reducible refine (F61.calls k a0_0 true _ A2.out).mono ?_); rintro e w' ⟨rfl, ⟨nd, rfl⟩⟩; refine ⟨_, rfl, ?_⟩) | (go_at_call 61; (with_reducible refine (F61.calls k a0_1 false _ A4.out).mono ?_); rintro e w' ⟨rfl, ⟨nd, rfl⟩⟩))
  go_ret
  exact ⟨au2_0, bl_⟩
 replace H := bi_ H; rcases H with ⟨t386, A6, H⟩
 replace H := ib_ H; rcases H with ⟨rfl, H⟩ | ⟨rfl, H⟩
 rotate_left
 ·obtain rfl := Option.some.inj H
  go_enter Tryd.func55, Tryd.ntmps55
  go_wp2_with (first | ((with_reducible refine gate_dst (N := 1) rfl ?_); (try (refine gate_guard (by rfl) ?_; dsimp only)); refine be_ 1 #[.string a0_0, .string a0_1, .int .i64 a0_2, .slice A0_3 l0_3.length c0_3] 29 ?_; intro gb383 hg w16 hbox hb; have BK383 := am_ (hbox); have GW383 := am_ (gw_ hg bl_); have GE383 := GW383; replace HB := hs_ w hb; clear hb hbox hg; obtain ⟨hcz17_0, hcz17_1, hcz17_2, hcz17_3, hfz17_0, hfz17_1, hfz17_2, hfz17_3⟩ := cellsF4 BK383.out) | ((with_reducible refine gate_callee (f := 61) rfl ?_); refine gl_ 5 Tryd.func61 #[.string a0_0] ?_ rfl rfl rfl rfl; (with_reducible refine (F61.calls k a0_0 true _ A2.out).mono ?_); rintro e w' ⟨rfl, ⟨nd, rfl⟩⟩; refine ⟨_, rfl, ?_⟩) | (go_at_call 61; (with_reducible refine (F61.calls k a0_1 true _ A4.out).mono ?_); rintro e w' ⟨rfl, ⟨nd, rfl⟩⟩) | (go_at_call 82; (with_reducible refine (F82.calls a0_2 false _ A6.out).mono ?_); rintro e w' ⟨rfl, ⟨nd, rfl⟩⟩))
  go_ret
  exact ⟨au2_0, bl_⟩
 replace H := bi_ H; rcases H with ⟨t387, A8, H⟩
 replace H := ib_ H; rcases H with ⟨rfl, H⟩ | ⟨rfl, H⟩
 rotate_left
 ·obtain rfl := Option.some.inj H
  go_enter Tryd.func55, Tryd.ntmps55
  go_wp2_with (first | ((with_reducible refine gate_dst (N := 1) rfl ?_); (try (refine gate_guard (by rfl) ?_; dsimp only)); refine be_ 1 #[.string a0_0, .string a0_1, .int .i64 a0_2, .slice A0_3 l0_3.length c0_3] 29 ?_; intro gb383 hg w14 hbox hb; have BK383 := am_ (hbox); have GW383 := am_ (gw_ hg bl_); have GE383 := GW383; replace HB := hs_ w hb; clear hb hbox hg; obtain ⟨hcz15_0, hcz15_1, hcz15_2, hcz15_3, hfz15_0, hfz15_1, hfz15_2, hfz15_3⟩ := cellsF4 BK383.out) | ((with_reducible refine gate_callee (f := 61) rfl ?_); refine gl_ 5 Tryd.func61 #[.string a0_0] ?_ rfl rfl rfl rfl; (with_reducible refine (F61.calls k a0_0 true _ A2.out).mono ?_); rintro e w' ⟨rfl, ⟨nd, rfl⟩⟩; refine ⟨_, rfl, ?_⟩) | (go_at_call 61; (with_reducible refine (F61.calls k a0_1 true _ A4.out).mono ?_); rintro e w' ⟨rfl, ⟨nd, rfl⟩⟩) | (go_at_call 82; (with_reducible refine (F82.calls a0_2 true _ A6.out).mono ?_); rintro e w' ⟨rfl, ⟨nd, rfl⟩⟩) | (go_at_call 83; (with_reducible refine (F83.calls (l0_3.length : Int) 1 5 false _ A8.out).mono ?_); rintro e w' ⟨rfl, ⟨nd, rfl⟩⟩))
  go_ret
  exact ⟨au2_0, bl_⟩
 replace H := bi_ H; rcases H with ⟨t388, A10, H⟩
 obtain rfl := Option.some.inj H
 go_enter Tryd.func55, Tryd.ntmps55
 go_wp2_with (first | ((with_reducible refine gate_dst (N := 1) rfl ?_); (try (refine gate_guard (by rfl) ?_; dsimp only)); refine be_ 1 #[.string a0_0, .string a0_1, .int .i64 a0_2, .slice A0_3 l0_3.length c0_3] 29 ?_; intro gb383 hg w11 hbox hb; have BK383 := am_ (hbox); have GW383 := am_ (gw_ hg bl_); have GE383 := GW383; replace HB := hs_ w hb; clear hb hbox hg; obtain ⟨hcz12_0, hcz12_1, hcz12_2, hcz12_3, hfz12_0, hfz12_1, hfz12_2, hfz12_3⟩ := cellsF4 BK383.out) | ((with_reducible refine gate_callee (f := 61) rfl ?_); refine gl_ 5 Tryd.func61 #[.string a0_0] ?_ rfl rfl rfl rfl; (with_reducible refine (F61.calls k a0_0 true _ A2.out).mono ?_); rintro e w' ⟨rfl, ⟨nd, rfl⟩⟩; refine ⟨_, rfl, ?_⟩) | (go_at_call 61; (with_reducible refine (F61.calls k a0_1 true _ A4.out).mono ?_); rintro e w' ⟨rfl, ⟨nd, rfl⟩⟩) | (go_at_call 82; (with_reducible refine (F82.calls a0_2 true _ A6.out).mono ?_); rintro e w' ⟨rfl, ⟨nd, rfl⟩⟩) | (go_at_call 83; (with_reducible refine (F83.calls (l0_3.length : Int) 1 5 true _ A8.out).mono ?_); rintro e w' ⟨rfl, ⟨nd, rfl⟩⟩) | (go_at_call 84; (with_reducible refine (F84.calls k _ _ l0_3  t388 _ ?s1 ?s2 A10.out).mono ?_); (case s1 => repeat (first | exact (Kd.C_below HR0_3.out bl_) | (with_reducible refine Kd.C_alloc ?_ _) | (with_reducible refine Kd.C_drewN ?_ _) | (with_reducible refine Kd.C_drew ?_))); (case s2 => exact HC0_3.out); rintro e w13 ⟨rfl, hb⟩; replace BK383 := bb_ BK383 hb; replace HB := hs_ w hb; (try clear hb)))
 go_ret
 exact ⟨au2_0, bl_⟩
end Go.Proofs.YtlghcbmkhdibdaaDoor.PFnExactIxCount
