-- printed by a program of this session (wip/xp/xprint.py) out of the translation; Lean checks it
import Derived.Test.YtjffakoifpldeaaPFnExactCrossPutx0
import Derived.Test.YtjffakoifpldeaaPFnExactCrossPutx1
import Derived.Test.YtjffakoifpldeaaPFnExactCrossPutx2
import Derived.Test.YtjffakoifpldeaaPFnExactCrossPutx3
import Derived.Test.YtjffakoifpldeaaPFnExactCrossPutx6
import Derived.Test.YtjffakoifpldeaaPFnExactCrossPutx11
namespace Go.Proofs.Ytjffakoifpldeaa.PFnExactCrossPut
open Go.RowKit Go.Proofs.YtjffakoifpldeaaW.PrintWords Go.Proofs.YtjffakoifpldeaaW.PrintLast Go.Proofs.YtjffakoifpldeaaW.PrintMore
attribute [local go_sem] max2_int min2_int max_two min_two max_three min_three max_four min_four   -- for this text's walks alone
set_option linter.unusedVariables false
set_option linter.unusedSimpArgs false

theorem au12_0 {p : Prop} (h : p := by repeat (first | exact (Kd.C_below HR0.out HB.out) | (with_reducible refine Kd.C_alloc ?_ _) | (with_reducible refine Kd.C_drewN ?_ _) | (with_reducible refine Kd.C_drew ?_))) : p := h
theorem au12_1 {p : Prop} (h : p := by repeat (first | exact (Kd.R_reads' HO_8.out).2.2 | (with_reducible refine Kd.C_alloc ?_ _) | (with_reducible refine Kd.C_drewN ?_ _) | (with_reducible refine Kd.C_drew ?_))) : p := h
theorem au12_2 {p : Prop} (h : p := by repeat (first | (with_reducible first | exact HB.out | apply below_alloc | apply pw_below_drewN | apply below_drew1 | refine below_set ?_ GE244.out) | exact HB.out)) : p := h
theorem au12_3 {p : Prop} (h : p := by first | rfl | (simp [errW_none, errW_some] <;> rfl) | (simp [*, errW_none, errW_some] <;> rfl)) : p := h
theorem au12_4 {p : Prop} (h : p := by rw [show t274.length = t262.length from (Kd.R_reads' HO_8.out).1.symm]; exact (Kd.R_reads' HO_8.out).2.1) : p := h
theorem au12_5 {p : Prop} (h : p := by first | (rw [show t274.length = t262.length from (Kd.R_reads' HO_8.out).1.symm] <;> rfl) | rfl) : p := h
theorem au12_6 {p : Prop} (h : p := by repeat (first | exact (Kd.R_reads' HO258.out).2.2 | (with_reducible refine Kd.C_alloc ?_ _) | (with_reducible refine Kd.C_drewN ?_ _) | (with_reducible refine Kd.C_drew ?_))) : p := h
theorem au12_7 {p : Prop} (h : p := by repeat (first | exact (Kd.R_reads' HO264.out).2.2 | (with_reducible refine Kd.C_alloc ?_ _) | (with_reducible refine Kd.C_drewN ?_ _) | (with_reducible refine Kd.C_drew ?_))) : p := h
theorem au12_8 {p : Prop} (h : p := by repeat (first | exact (Kd.R_reads' HO255.out).2.2 | (with_reducible refine Kd.C_alloc ?_ _) | (with_reducible refine Kd.C_drewN ?_ _) | (with_reducible refine Kd.C_drew ?_))) : p := h
theorem au12_9 {p : Prop} (h : p := by repeat (first | exact (Kd.R_reads' HO278.out).2.2 | (with_reducible refine Kd.C_alloc ?_ _) | (with_reducible refine Kd.C_drewN ?_ _) | (with_reducible refine Kd.C_drew ?_))) : p := h
theorem au12_10 {p : Prop} (h : p := by repeat (first | exact (Kd.R_reads' HO284.out).2.2 | (with_reducible refine Kd.C_alloc ?_ _) | (with_reducible refine Kd.C_drewN ?_ _) | (with_reducible refine Kd.C_drew ?_))) : p := h
theorem au12_11 {p : Prop} (h : p := by repeat (first | exact (Kd.R_reads' HO_6.out).2.2 | (with_reducible refine Kd.C_alloc ?_ _) | (with_reducible refine Kd.C_drewN ?_ _) | (with_reducible refine Kd.C_drew ?_))) : p := h
theorem au12_12 {p : Prop} (h : p := by repeat (first | exact (Kd.R_reads' HO249.out).2.2 | (with_reducible refine Kd.C_alloc ?_ _) | (with_reducible refine Kd.C_drewN ?_ _) | (with_reducible refine Kd.C_drew ?_))) : p := h
theorem au12_13 {p : Prop} (h : p := by repeat (first | exact (Kd.R_reads' HO268.out).2.2 | (with_reducible refine Kd.C_alloc ?_ _) | (with_reducible refine Kd.C_drewN ?_ _) | (with_reducible refine Kd.C_drew ?_))) : p := h
theorem au12_14 {p : Prop} (h : p := by (with_reducible repeat (first | apply Kd.R_alloc | apply Kd.R_drewN | apply Kd.R_drew)); exact Kd.R_mono HO255.out (fun _ hk => hk.2.2.1)) : p := h
theorem au12_15 {p : Prop} (h : p := by (with_reducible repeat (first | apply Kd.R_alloc | apply Kd.R_drewN | apply Kd.R_drew)); exact Kd.R_mono HO264.out (fun _ hk => hk.2.1)) : p := h
theorem au12_16 {p : Prop} (h : p := by exact (Kd.R_reads' HO258.out).2.1) : p := h
theorem au12_17 {p : Prop} (h : p := by exact (Kd.R_reads' HO264.out).2.1) : p := h
theorem au12_18 {p : Prop} (h : p := by exact (Kd.R_reads' HO255.out).2.1) : p := h
theorem au12_19 {p : Prop} (h : p := by exact (Kd.R_reads' HO278.out).2.1) : p := h
theorem au12_20 {p : Prop} (h : p := by exact (Kd.R_reads' HO284.out).2.1) : p := h
theorem au12_21 {p : Prop} (h : p := by exact (Kd.R_reads' HO_6.out).2.1) : p := h

/-! ### laws_FnExactCrossPut: function 7 -/
def laws_FnExactCrossPut.j0 : Nat → List (S34) → List (S37) → List (S37) → Bool → ByteArray → ByteArray → ByteArray → Option (Bool)
  | 0, _, _, _, _, _, _, _ => none
  | k + 1, x0, x6, x8, x53, x245000, x245001, x245002 => if x53 = true then (some false) else ((laws_markCrossS.f k x8 1).bind fun bt273 => ((laws_heldCrossS.f k bt273.2 1).bind fun t275 => (if t275 < 0 then (some false) else (if t275 = bt273.1 then ((laws_toCrossS.f k x0).bind fun t276 => ((laws_toCross.f x245000 x245001 x245002).bind fun bt279 => ((impl_CrossPut.f k t276 bt279.1 bt279.2.1 bt279.2.2).bind fun t282 => ((laws_eqCrossS.f k t282 x6).bind fun t285 => (if t285 = true then ((laws_heldCrossS.f k bt273.2 1).bind fun t286 => (if t286 < 0 then (some false) else (if t286 = bt273.1 then (some true) else (some false)))) else (some false)))))) else (some false)))))
def laws_FnExactCrossPut.f (k : Nat) (l0 : List (S34)) (a1_0 : ByteArray) (a1_1 : ByteArray) (a1_2 : ByteArray) : Option (Bool) := (laws_szCrossS.f k l0 1048576).bind fun t245 => (if t245 < 0 then (some true) else ((laws_szCross.f a1_0 a1_1 a1_2 t245).bind fun t246 => (if t246 < 0 then (some true) else ((laws_toCrossS.f k l0).bind fun t247 => ((laws_toCross.f a1_0 a1_1 a1_2).bind fun bt250 => ((spec_CrossPut.f k t247 bt250.1 bt250.2.1 bt250.2.2).bind fun t253 => ((laws_toCrossS.f k l0).bind fun t256 => ((laws_toCross.f a1_0 a1_1 a1_2).bind fun bt259 => ((impl_CrossPut.f k t256 bt259.1 bt259.2.1 bt259.2.2).bind fun t262 => ((laws_eqCrossS.f k t262 t253).bind fun t265 => (if t265 = true then ((laws_toCrossS.f k l0).bind fun t266 => ((laws_eqCrossS.f k t256 t266).bind fun t269 => (if t269 = true then ((laws_markCrossS.f k t256 1).bind fun bt270 => (if bt270.1 < 0 then (laws_FnExactCrossPut.j0 k l0 t253 t262 true a1_0 a1_1 a1_2) else ((laws_eqCrossS.f k t262 t253).bind fun t272 => (laws_FnExactCrossPut.j0 k l0 t253 t262 (!t272) a1_0 a1_1 a1_2)))) else (some false)))) else (some false))))))))))))
theorem laws_FnExactCrossPut.mono_l : ∀ k, (∀ y0 y1 y2 y3 y4 y5 y6, LeO (laws_FnExactCrossPut.j0 k y0 y1 y2 y3 y4 y5 y6) (laws_FnExactCrossPut.j0 (k + 1) y0 y1 y2 y3 y4 y5 y6))
  | 0 => fun _ _ _ _ _ _ _ r h => by simp [laws_FnExactCrossPut.j0] at h
  | k + 1 => by
    have ih0 := laws_FnExactCrossPut.mono_l k
    · intro y0 y1 y2 y3 y4 y5 y6
      unfold laws_FnExactCrossPut.j0
      repeat' first
      | (with_reducible exact ih0 _ _ _ _ _ _ _)
      | (with_reducible exact impl_CrossPut.mono _ _ _ _ _)
      | (with_reducible exact laws_eqCrossS.mono _ _ _)
      | (with_reducible exact laws_heldCrossS.mono _ _ _)
      | (with_reducible exact laws_markCrossS.mono _ _ _)
      | (with_reducible exact laws_szCrossS.mono _ _ _)
      | (with_reducible exact laws_toCrossS.mono _ _)
      | (with_reducible exact spec_CrossPut.mono _ _ _ _ _)
      | (with_reducible exact LeO.refl _)
      | (with_reducible exact LeO.none _)
      | (with_reducible refine LeO.ite ?_ ?_)
      | (with_reducible refine LeO.bind ?_ (fun _ => ?_))
      | exact ih0 _ _ _ _ _ _ _
      | exact impl_CrossPut.mono _ _ _ _ _
      | exact laws_eqCrossS.mono _ _ _
      | exact laws_heldCrossS.mono _ _ _
      | exact laws_markCrossS.mono _ _ _
      | exact laws_szCrossS.mono _ _ _
      | exact laws_toCrossS.mono _ _
      | exact spec_CrossPut.mono _ _ _ _ _
      | exact LeO.none _
      | refine LeO.ite ?_ ?_
      | refine LeO.bind ?_ (fun _ => ?_)
theorem laws_FnExactCrossPut.mono : ∀ a0 a1 a2 a3 k, LeO (laws_FnExactCrossPut.f k a0 a1 a2 a3) (laws_FnExactCrossPut.f (k + 1) a0 a1 a2 a3) := by
  intro a0 a1 a2 a3 k
  have ih0 := laws_FnExactCrossPut.mono_l k
  unfold laws_FnExactCrossPut.f
  repeat' first
      | (with_reducible exact ih0 _ _ _ _ _ _ _)
      | (with_reducible exact impl_CrossPut.mono _ _ _ _ _)
      | (with_reducible exact laws_eqCrossS.mono _ _ _)
      | (with_reducible exact laws_heldCrossS.mono _ _ _)
      | (with_reducible exact laws_markCrossS.mono _ _ _)
      | (with_reducible exact laws_szCrossS.mono _ _ _)
      | (with_reducible exact laws_toCrossS.mono _ _)
      | (with_reducible exact spec_CrossPut.mono _ _ _ _ _)
      | (with_reducible exact LeO.refl _)
      | (with_reducible exact LeO.none _)
      | (with_reducible refine LeO.ite ?_ ?_)
      | (with_reducible refine LeO.bind ?_ (fun _ => ?_))
      | exact ih0 _ _ _ _ _ _ _
      | exact impl_CrossPut.mono _ _ _ _ _
      | exact laws_eqCrossS.mono _ _ _
      | exact laws_heldCrossS.mono _ _ _
      | exact laws_markCrossS.mono _ _ _
      | exact laws_szCrossS.mono _ _ _
      | exact laws_toCrossS.mono _ _
      | exact spec_CrossPut.mono _ _ _ _ _
      | exact LeO.none _
      | refine LeO.ite ?_ ?_
      | refine LeO.bind ?_ (fun _ => ?_)
set_option maxHeartbeats 8000000 in
set_option maxRecDepth 100000 in
theorem laws_FnExactCrossPut.calls (k : Nat) (A0 : Option Addr) (c0 : Nat) (l0 : List (S34)) (a1_0 : ByteArray) (a1_1 : ByteArray) (a1_2 : ByteArray) (r : Bool) (w : World) (hr0 : Kd.C k34 w A0 l0.length l0) (hc0 : l0.length ≤ c0) (h : laws_FnExactCrossPut.f k l0 a1_0 a1_1 a1_2 = some r) :
    Calls Try.prog 7 #[.slice A0 l0.length c0, .agg #[.string a1_0, .string a1_1, .string a1_2]] w fun e w' => e = .returned (.bool r) ∧ Below w.heap.size w w' := by
  have hu34 := Try.underlying34
  have HR0 := Aside0.mk hr0
  have HC0 := Aside0.mk hc0
  clear hr0 hc0
  have HB := Aside0.mk (Below.refl w.heap.size w)
  have H : ((laws_szCrossS.f k l0 1048576).bind fun t245 => (if t245 < 0 then (some true) else ((laws_szCross.f a1_0 a1_1 a1_2 t245).bind fun t246 => (if t246 < 0 then (some true) else ((laws_toCrossS.f k l0).bind fun t247 => ((laws_toCross.f a1_0 a1_1 a1_2).bind fun bt250 => ((spec_CrossPut.f k t247 bt250.1 bt250.2.1 bt250.2.2).bind fun t253 => ((laws_toCrossS.f k l0).bind fun t256 => ((laws_toCross.f a1_0 a1_1 a1_2).bind fun bt259 => ((impl_CrossPut.f k t256 bt259.1 bt259.2.1 bt259.2.2).bind fun t262 => ((laws_eqCrossS.f k t262 t253).bind fun t265 => (if t265 = true then ((laws_toCrossS.f k l0).bind fun t266 => ((laws_eqCrossS.f k t256 t266).bind fun t269 => (if t269 = true then ((laws_markCrossS.f k t256 1).bind fun bt270 => (if bt270.1 < 0 then (laws_FnExactCrossPut.j0 k l0 t253 t262 true a1_0 a1_1 a1_2) else ((laws_eqCrossS.f k t262 t253).bind fun t272 => (laws_FnExactCrossPut.j0 k l0 t253 t262 (!t272) a1_0 a1_1 a1_2)))) else (some false)))) else (some false))))))))))))) = some r := h
  clear h
  replace H := Option.bind_eq_some_iff.mp H
  obtain ⟨t245, A30, H⟩ := H
  replace H : (if t245 < 0 then (some true) else ((laws_szCross.f a1_0 a1_1 a1_2 t245).bind fun t246 => (if t246 < 0 then (some true) else ((laws_toCrossS.f k l0).bind fun t247 => ((laws_toCross.f a1_0 a1_1 a1_2).bind fun bt250 => ((spec_CrossPut.f k t247 bt250.1 bt250.2.1 bt250.2.2).bind fun t253 => ((laws_toCrossS.f k l0).bind fun t256 => ((laws_toCross.f a1_0 a1_1 a1_2).bind fun bt259 => ((impl_CrossPut.f k t256 bt259.1 bt259.2.1 bt259.2.2).bind fun t262 => ((laws_eqCrossS.f k t262 t253).bind fun t265 => (if t265 = true then ((laws_toCrossS.f k l0).bind fun t266 => ((laws_eqCrossS.f k t256 t266).bind fun t269 => (if t269 = true then ((laws_markCrossS.f k t256 1).bind fun bt270 => (if bt270.1 < 0 then (laws_FnExactCrossPut.j0 k l0 t253 t262 true a1_0 a1_1 a1_2) else ((laws_eqCrossS.f k t262 t253).bind fun t272 => (laws_FnExactCrossPut.j0 k l0 t253 t262 (!t272) a1_0 a1_1 a1_2)))) else (some false)))) else (some false)))))))))))) = some r := H
  have A3 := Aside0.mk A30
  clear A30
  by_cases c4 : t245 < 0
  · rw [if_pos c4] at H
    have c4b0 : decide (t245 < 0) = true := decide_eq_true c4
    clear c4
    obtain rfl := Option.some.inj H
    go_enter Try.func7, Try.ntmps7
    go_wp2_with (first | ((with_reducible refine gate_dst (N := 3) rfl ?_); refine box_event ?hg (N := 3) ?hd (cs := #[.string a1_0, .string a1_1, .string a1_2]) (t := 34) ?hr ?_; (case hd => rfl); (case hg => rfl); (case hr => exact hr_); intro gb244 hg w5 hbox hb; have n0_ := Aside0.mk (below_step bl_ hb); have n1_ := Aside0.mk (hbox); have n2_ := Aside0.mk (gw_ hg bl_); have n3_ := Aside0.mk (gw_ hg bl_); clear HB; have HB := n0_; have BK244 := n1_; have GW244 := n2_; have GE244 := n3_; clear n0_ n1_ n2_ n3_; clear hb hbox hg) | (go_at_call 14; (with_reducible refine (laws_szCrossS.calls k _ _ l0 1048576 t245 _ ?side1 ?side2 A3.out).mono ?_); (case side1 => exact au12_0); (case side2 => exact HC0.out); rintro e w6 ⟨rfl, hb⟩; (try clear A3); have n0_ := Aside0.mk (blkb_ BK244 hb); have n1_ := Aside0.mk (below_step bl_ hb); clear BK244; clear HB; have BK244 := n0_; have HB := n1_; clear n0_ n1_; (try clear hb); (try clear hb2); (try clear hk); (try clear hi)))
    go_ret
    exact ⟨au12_3, bl_⟩
  · rw [if_neg c4] at H
    have c4b0 : decide (t245 < 0) = false := decide_eq_false c4
    clear c4
    replace H := Option.bind_eq_some_iff.mp H
    obtain ⟨t246, A70, H⟩ := H
    replace H : (if t246 < 0 then (some true) else ((laws_toCrossS.f k l0).bind fun t247 => ((laws_toCross.f a1_0 a1_1 a1_2).bind fun bt250 => ((spec_CrossPut.f k t247 bt250.1 bt250.2.1 bt250.2.2).bind fun t253 => ((laws_toCrossS.f k l0).bind fun t256 => ((laws_toCross.f a1_0 a1_1 a1_2).bind fun bt259 => ((impl_CrossPut.f k t256 bt259.1 bt259.2.1 bt259.2.2).bind fun t262 => ((laws_eqCrossS.f k t262 t253).bind fun t265 => (if t265 = true then ((laws_toCrossS.f k l0).bind fun t266 => ((laws_eqCrossS.f k t256 t266).bind fun t269 => (if t269 = true then ((laws_markCrossS.f k t256 1).bind fun bt270 => (if bt270.1 < 0 then (laws_FnExactCrossPut.j0 k l0 t253 t262 true a1_0 a1_1 a1_2) else ((laws_eqCrossS.f k t262 t253).bind fun t272 => (laws_FnExactCrossPut.j0 k l0 t253 t262 (!t272) a1_0 a1_1 a1_2)))) else (some false)))) else (some false)))))))))) = some r := H
    have A7 := Aside0.mk A70
    clear A70
    by_cases c8 : t246 < 0
    · rw [if_pos c8] at H
      have c8b0 : decide (t246 < 0) = true := decide_eq_true c8
      clear c8
      obtain rfl := Option.some.inj H
      go_enter Try.func7, Try.ntmps7
      go_wp2_with (first | ((with_reducible refine gate_dst (N := 3) rfl ?_); refine box_event ?hg (N := 3) ?hd (cs := #[.string a1_0, .string a1_1, .string a1_2]) (t := 34) ?hr ?_; (case hd => rfl); (case hg => rfl); (case hr => exact hr_); intro gb244 hg w9 hbox hb; have n0_ := Aside0.mk (below_step bl_ hb); have n1_ := Aside0.mk (hbox); have n2_ := Aside0.mk (gw_ hg bl_); have n3_ := Aside0.mk (gw_ hg bl_); clear HB; have HB := n0_; have BK244 := n1_; have GW244 := n2_; have GE244 := n3_; clear n0_ n1_ n2_ n3_; clear hb hbox hg) | (go_at_call 14; (with_reducible refine (laws_szCrossS.calls k _ _ l0 1048576 t245 _ ?side1 ?side2 A3.out).mono ?_); (case side1 => exact au12_0); (case side2 => exact HC0.out); rintro e w10 ⟨rfl, hb⟩; (try clear A3); have n0_ := Aside0.mk (blkb_ BK244 hb); have n1_ := Aside0.mk (below_step bl_ hb); clear BK244; clear HB; have BK244 := n0_; have HB := n1_; clear n0_ n1_; (try clear hb); (try clear hb2); (try clear hk); (try clear hi); obtain ⟨hcz11_0, hcz11_1, hcz11_2, hfz11_0, hfz11_1, hfz11_2⟩ := cellsF3 BK244.out) | (go_at_call 27; (with_reducible refine (laws_szCross.calls a1_0 a1_1 a1_2 t245 t246 _ A7.out).mono ?_); rintro e w12 ⟨rfl, hb⟩; (try clear A7); have n0_ := Aside0.mk (blkb_ BK244 hb); have n1_ := Aside0.mk (below_step bl_ hb); clear BK244; clear HB; have BK244 := n0_; have HB := n1_; clear n0_ n1_; (try clear hb); (try clear hb2); (try clear hk); (try clear hi)))
      go_ret
      exact ⟨au12_3, bl_⟩
    · rw [if_neg c8] at H
      have c8b0 : decide (t246 < 0) = false := decide_eq_false c8
      clear c8
      replace H := Option.bind_eq_some_iff.mp H
      obtain ⟨t247, A130, H⟩ := H
      replace H : ((laws_toCross.f a1_0 a1_1 a1_2).bind fun bt250 => ((spec_CrossPut.f k t247 bt250.1 bt250.2.1 bt250.2.2).bind fun t253 => ((laws_toCrossS.f k l0).bind fun t256 => ((laws_toCross.f a1_0 a1_1 a1_2).bind fun bt259 => ((impl_CrossPut.f k t256 bt259.1 bt259.2.1 bt259.2.2).bind fun t262 => ((laws_eqCrossS.f k t262 t253).bind fun t265 => (if t265 = true then ((laws_toCrossS.f k l0).bind fun t266 => ((laws_eqCrossS.f k t256 t266).bind fun t269 => (if t269 = true then ((laws_markCrossS.f k t256 1).bind fun bt270 => (if bt270.1 < 0 then (laws_FnExactCrossPut.j0 k l0 t253 t262 true a1_0 a1_1 a1_2) else ((laws_eqCrossS.f k t262 t253).bind fun t272 => (laws_FnExactCrossPut.j0 k l0 t253 t262 (!t272) a1_0 a1_1 a1_2)))) else (some false)))) else (some false)))))))) = some r := H
      have A13 := Aside0.mk A130
      clear A130
      replace H := Option.bind_eq_some_iff.mp H
      obtain ⟨⟨t250, t251, t252⟩, A140, H⟩ := H
      replace H : ((spec_CrossPut.f k t247 t250 t251 t252).bind fun t253 => ((laws_toCrossS.f k l0).bind fun t256 => ((laws_toCross.f a1_0 a1_1 a1_2).bind fun bt259 => ((impl_CrossPut.f k t256 bt259.1 bt259.2.1 bt259.2.2).bind fun t262 => ((laws_eqCrossS.f k t262 t253).bind fun t265 => (if t265 = true then ((laws_toCrossS.f k l0).bind fun t266 => ((laws_eqCrossS.f k t256 t266).bind fun t269 => (if t269 = true then ((laws_markCrossS.f k t256 1).bind fun bt270 => (if bt270.1 < 0 then (laws_FnExactCrossPut.j0 k l0 t253 t262 true a1_0 a1_1 a1_2) else ((laws_eqCrossS.f k t262 t253).bind fun t272 => (laws_FnExactCrossPut.j0 k l0 t253 t262 (!t272) a1_0 a1_1 a1_2)))) else (some false)))) else (some false))))))) = some r := H
      have A14 := Aside0.mk A140
      clear A140
      replace H := Option.bind_eq_some_iff.mp H
      obtain ⟨t253, A150, H⟩ := H
      replace H : ((laws_toCrossS.f k l0).bind fun t256 => ((laws_toCross.f a1_0 a1_1 a1_2).bind fun bt259 => ((impl_CrossPut.f k t256 bt259.1 bt259.2.1 bt259.2.2).bind fun t262 => ((laws_eqCrossS.f k t262 t253).bind fun t265 => (if t265 = true then ((laws_toCrossS.f k l0).bind fun t266 => ((laws_eqCrossS.f k t256 t266).bind fun t269 => (if t269 = true then ((laws_markCrossS.f k t256 1).bind fun bt270 => (if bt270.1 < 0 then (laws_FnExactCrossPut.j0 k l0 t253 t262 true a1_0 a1_1 a1_2) else ((laws_eqCrossS.f k t262 t253).bind fun t272 => (laws_FnExactCrossPut.j0 k l0 t253 t262 (!t272) a1_0 a1_1 a1_2)))) else (some false)))) else (some false)))))) = some r := H
      have A15 := Aside0.mk A150
      clear A150
      replace H := Option.bind_eq_some_iff.mp H
      obtain ⟨t256, A160, H⟩ := H
      replace H : ((laws_toCross.f a1_0 a1_1 a1_2).bind fun bt259 => ((impl_CrossPut.f k t256 bt259.1 bt259.2.1 bt259.2.2).bind fun t262 => ((laws_eqCrossS.f k t262 t253).bind fun t265 => (if t265 = true then ((laws_toCrossS.f k l0).bind fun t266 => ((laws_eqCrossS.f k t256 t266).bind fun t269 => (if t269 = true then ((laws_markCrossS.f k t256 1).bind fun bt270 => (if bt270.1 < 0 then (laws_FnExactCrossPut.j0 k l0 t253 t262 true a1_0 a1_1 a1_2) else ((laws_eqCrossS.f k t262 t253).bind fun t272 => (laws_FnExactCrossPut.j0 k l0 t253 t262 (!t272) a1_0 a1_1 a1_2)))) else (some false)))) else (some false))))) = some r := H
      have A16 := Aside0.mk A160
      clear A160
      replace H := Option.bind_eq_some_iff.mp H
      obtain ⟨⟨t259, t260, t261⟩, A170, H⟩ := H
      replace H : ((impl_CrossPut.f k t256 t259 t260 t261).bind fun t262 => ((laws_eqCrossS.f k t262 t253).bind fun t265 => (if t265 = true then ((laws_toCrossS.f k l0).bind fun t266 => ((laws_eqCrossS.f k t256 t266).bind fun t269 => (if t269 = true then ((laws_markCrossS.f k t256 1).bind fun bt270 => (if bt270.1 < 0 then (laws_FnExactCrossPut.j0 k l0 t253 t262 true a1_0 a1_1 a1_2) else ((laws_eqCrossS.f k t262 t253).bind fun t272 => (laws_FnExactCrossPut.j0 k l0 t253 t262 (!t272) a1_0 a1_1 a1_2)))) else (some false)))) else (some false)))) = some r := H
      have A17 := Aside0.mk A170
      clear A170
      replace H := Option.bind_eq_some_iff.mp H
      obtain ⟨t262, A180, H⟩ := H
      replace H : ((laws_eqCrossS.f k t262 t253).bind fun t265 => (if t265 = true then ((laws_toCrossS.f k l0).bind fun t266 => ((laws_eqCrossS.f k t256 t266).bind fun t269 => (if t269 = true then ((laws_markCrossS.f k t256 1).bind fun bt270 => (if bt270.1 < 0 then (laws_FnExactCrossPut.j0 k l0 t253 t262 true a1_0 a1_1 a1_2) else ((laws_eqCrossS.f k t262 t253).bind fun t272 => (laws_FnExactCrossPut.j0 k l0 t253 t262 (!t272) a1_0 a1_1 a1_2)))) else (some false)))) else (some false))) = some r := H
      have A18 := Aside0.mk A180
      clear A180
      replace H := Option.bind_eq_some_iff.mp H
      obtain ⟨t265, A190, H⟩ := H
      replace H : (if t265 = true then ((laws_toCrossS.f k l0).bind fun t266 => ((laws_eqCrossS.f k t256 t266).bind fun t269 => (if t269 = true then ((laws_markCrossS.f k t256 1).bind fun bt270 => (if bt270.1 < 0 then (laws_FnExactCrossPut.j0 k l0 t253 t262 true a1_0 a1_1 a1_2) else ((laws_eqCrossS.f k t262 t253).bind fun t272 => (laws_FnExactCrossPut.j0 k l0 t253 t262 (!t272) a1_0 a1_1 a1_2)))) else (some false)))) else (some false)) = some r := H
      have A19 := Aside0.mk A190
      clear A190
      by_cases c20 : t265 = true
      · subst c20
        have H1 : ((laws_toCrossS.f k l0).bind fun t266 => ((laws_eqCrossS.f k t256 t266).bind fun t269 => (if t269 = true then ((laws_markCrossS.f k t256 1).bind fun bt270 => (if bt270.1 < 0 then (laws_FnExactCrossPut.j0 k l0 t253 t262 true a1_0 a1_1 a1_2) else ((laws_eqCrossS.f k t262 t253).bind fun t272 => (laws_FnExactCrossPut.j0 k l0 t253 t262 (!t272) a1_0 a1_1 a1_2)))) else (some false)))) = some r := by rw [if_pos rfl] at H; exact H
        clear H
        have H := H1
        clear H1
        replace H := Option.bind_eq_some_iff.mp H
        obtain ⟨t266, A210, H⟩ := H
        replace H : ((laws_eqCrossS.f k t256 t266).bind fun t269 => (if t269 = true then ((laws_markCrossS.f k t256 1).bind fun bt270 => (if bt270.1 < 0 then (laws_FnExactCrossPut.j0 k l0 t253 t262 true a1_0 a1_1 a1_2) else ((laws_eqCrossS.f k t262 t253).bind fun t272 => (laws_FnExactCrossPut.j0 k l0 t253 t262 (!t272) a1_0 a1_1 a1_2)))) else (some false))) = some r := H
        have A21 := Aside0.mk A210
        clear A210
        replace H := Option.bind_eq_some_iff.mp H
        obtain ⟨t269, A220, H⟩ := H
        replace H : (if t269 = true then ((laws_markCrossS.f k t256 1).bind fun bt270 => (if bt270.1 < 0 then (laws_FnExactCrossPut.j0 k l0 t253 t262 true a1_0 a1_1 a1_2) else ((laws_eqCrossS.f k t262 t253).bind fun t272 => (laws_FnExactCrossPut.j0 k l0 t253 t262 (!t272) a1_0 a1_1 a1_2)))) else (some false)) = some r := H
        have A22 := Aside0.mk A220
        clear A220
        by_cases c23 : t269 = true
        · subst c23
          have H1 : ((laws_markCrossS.f k t256 1).bind fun bt270 => (if bt270.1 < 0 then (laws_FnExactCrossPut.j0 k l0 t253 t262 true a1_0 a1_1 a1_2) else ((laws_eqCrossS.f k t262 t253).bind fun t272 => (laws_FnExactCrossPut.j0 k l0 t253 t262 (!t272) a1_0 a1_1 a1_2)))) = some r := by rw [if_pos rfl] at H; exact H
          clear H
          have H := H1
          clear H1
          replace H := Option.bind_eq_some_iff.mp H
          obtain ⟨⟨t270, t271⟩, A240, H⟩ := H
          replace H : (if t270 < 0 then (laws_FnExactCrossPut.j0 k l0 t253 t262 true a1_0 a1_1 a1_2) else ((laws_eqCrossS.f k t262 t253).bind fun t272 => (laws_FnExactCrossPut.j0 k l0 t253 t262 (!t272) a1_0 a1_1 a1_2))) = some r := H
          have A24 := Aside0.mk A240
          clear A240
          have HC25 := Aside0.mk H
          clear H
          go_enter Try.func7, Try.ntmps7
          try go_wp2_with (first | ((with_reducible refine gate_dst (N := 3) rfl ?_); refine box_event ?hg (N := 3) ?hd (cs := #[.string a1_0, .string a1_1, .string a1_2]) (t := 34) ?hr ?_; (case hd => rfl); (case hg => rfl); (case hr => exact hr_); intro gb244 hg w26 hbox hb; have n0_ := Aside0.mk (below_step bl_ hb); have n1_ := Aside0.mk (hbox); have n2_ := Aside0.mk (gw_ hg bl_); have n3_ := Aside0.mk (gw_ hg bl_); clear HB; have HB := n0_; have BK244 := n1_; have GW244 := n2_; have GE244 := n3_; clear n0_ n1_ n2_ n3_; clear hb hbox hg) | (go_at_call 14; (with_reducible refine (laws_szCrossS.calls k _ _ l0 1048576 t245 _ ?side1 ?side2 A3.out).mono ?_); (case side1 => exact au12_0); (case side2 => exact HC0.out); rintro e w27 ⟨rfl, hb⟩; (try clear A3); have n0_ := Aside0.mk (blkb_ BK244 hb); have n1_ := Aside0.mk (below_step bl_ hb); clear BK244; clear HB; have BK244 := n0_; have HB := n1_; clear n0_ n1_; (try clear hb); (try clear hb2); (try clear hk); (try clear hi); obtain ⟨hcz28_0, hcz28_1, hcz28_2, hfz28_0, hfz28_1, hfz28_2⟩ := cellsF3 BK244.out) | (go_at_call 27; (with_reducible refine (laws_szCross.calls a1_0 a1_1 a1_2 t245 t246 _ A7.out).mono ?_); rintro e w29 ⟨rfl, hb⟩; (try clear A7); have n0_ := Aside0.mk (blkb_ BK244 hb); have n1_ := Aside0.mk (below_step bl_ hb); clear BK244; clear HB; have BK244 := n0_; have HB := n1_; clear n0_ n1_; (try clear hb); (try clear hb2); (try clear hk); (try clear hi)))
          have n0_ := Aside0.mk (blk_drew BK244.out)
          have n1_ := Aside0.mk (below_drew1 HB.out)
          clear BK244
          clear HB
          have BK244 := n0_
          have HB := n1_
          clear n0_ n1_
          refine start_ (n := 6) (S := fun w' => w'.cell? ⟨gb244, 0, none⟩ = some (.string a1_0) ∧ w'.cell? ⟨gb244, 1, none⟩ = some (.string a1_1) ∧ w'.cell? ⟨gb244, 2, none⟩ = some (.string a1_2)) (ds := []) (bs 6 0) (by kernel_rfl) rfl rfl ⟨(blk_cell BK244.out 0).trans rfl, (blk_cell BK244.out 1).trans rfl, (blk_cell BK244.out 2).trans rfl⟩ (fun hHeld => ?_)
          generalize w29.drew = w30 at BK244 HB hHeld ⊢
          refine pure_ (i := 0) (N := some 23) (v := ?_) (a' := ?_) (bs 6 1) rfl rfl (by kernel_rfl) (fun _ _ _ h => h) (Or.inl ⟨by rfl, ?_⟩) ?_ ?_
          rotate_left
          · intro w'
            go_simp
            with_reducible rfl
          rotate_left
          · simp only [Act.put, List.setIfInBounds_toArray, List.set_cons_zero, List.set_cons_succ, i64_w, i32_w]
            rfl
          refine take_ (i := 2) (N := some 25) (v := ?_) (a' := ?_) (bs 6 5) rfl rfl (by kernel_rfl) (fun _ _ _ h => h) (Or.inl ⟨by rfl, ?_⟩) hHeld ?_ ?_
          rotate_left
          · rintro w' ⟨s0, s1, s2⟩
            go_simp
            with_reducible rfl
          rotate_left
          · simp only [Act.put, List.setIfInBounds_toArray, List.set_cons_zero, List.set_cons_succ, i64_w, i32_w]
            rfl
          refine one_ (i := 1) (N := some 24) (bs 6 7) rfl rfl (by kernel_rfl) (by decide) (fun K hK => ?_)
          refine gr_ Try.func16 #[.slice A0 l0.length c0] (by rfl) ?_ rfl rfl rfl
          with_reducible refine (laws_toCrossS.calls k _ _ l0 t247 _ ?side1 ?side2 A13.out).mono ?_
          (case side1 => exact au12_0)
          (case side2 => exact HC0.out)
          rintro e w31 ⟨v248, rfl, ho0, hb⟩
          refine ⟨_, rfl, ?_⟩
          have n0_ := Aside0.mk (Kd.R_lower ho0 (below_size bl_))
          have n1_ := Aside0.mk (blkb_ BK244 hb)
          have n2_ := Aside0.mk (below_step bl_ hb)
          clear BK244
          clear HB
          have HO249 := n0_
          have BK244 := n1_
          have HB := n2_
          clear n0_ n1_ n2_
          (try clear hb)
          (try clear hb2)
          (try clear hk)
          (try clear hi)
          (try clear ho0)
          refine hK.out _ _ ⟨(blk_cell BK244.out 0).trans rfl, (blk_cell BK244.out 1).trans rfl, (blk_cell BK244.out 2).trans rfl⟩ (fun hHeld => ?_)
          clear hK K
          refine norm_ (a' := ?_) ?_ ?_
          rotate_left
          · show Act.put _ (some 24) _ = _
            simp only [Act.put, List.setIfInBounds_toArray, List.set_cons_zero, List.set_cons_succ, i64_w, i32_w]
            rfl
          refine one_ (i := 3) (N := some 26) (bs 6 15) rfl rfl (by kernel_rfl) (by decide) (fun K hK => ?_)
          refine gr_ Try.func29 #[.agg #[.string a1_0, .string a1_1, .string a1_2]] (by rfl) ?_ rfl rfl rfl
          with_reducible refine (laws_toCross.calls a1_0 a1_1 a1_2 t250 t251 t252 _ A14.out).mono ?_
          rintro e w32 ⟨rfl, hb⟩
          refine ⟨_, rfl, ?_⟩
          have n0_ := Aside0.mk (Kd.R_below (rk_ HO249) hb)
          have n1_ := Aside0.mk (blkb_ BK244 hb)
          have n2_ := Aside0.mk (below_step bl_ hb)
          clear HO249
          clear BK244
          clear HB
          have HO249 := n0_
          have BK244 := n1_
          have HB := n2_
          clear n0_ n1_ n2_
          (try clear hb)
          (try clear hb2)
          (try clear hk)
          (try clear hi)
          obtain ⟨Ao33, co33, eo33⟩ := Kd.R_slice HO249.out
          (first | subst eo33 | (injection eo33 with f1_ f2_ f3_; have f4_ := f1_.symm; have f5_ := f3_.symm; clear f1_ f2_ f3_; subst f4_; subst f5_))
          refine hK.out _ _ ⟨(blk_cell BK244.out 0).trans rfl, (blk_cell BK244.out 1).trans rfl, (blk_cell BK244.out 2).trans rfl⟩ (fun hHeld => ?_)
          clear hK K
          refine norm_ (a' := ?_) ?_ ?_
          rotate_left
          · show Act.put _ (some 26) _ = _
            simp only [Act.put, List.setIfInBounds_toArray, List.set_cons_zero, List.set_cons_succ, i64_w, i32_w]
            rfl
          refine one_ (i := 4) (N := some 27) (bs 6 31) rfl rfl (by kernel_rfl) (by decide) (fun K hK => ?_)
          refine gr_ Try.func28 #[.slice Ao33 t247.length co33, .agg #[.string t250, .string t251, .string t252]] (by rfl) ?_ rfl rfl rfl
          with_reducible refine (spec_CrossPut.calls k _ _ t247 t250 t251 t252 t253 _ ?side1 ?side2 A15.out).mono ?_
          (case side1 => exact au12_12)
          (case side2 => exact (Kd.R_reads' HO249.out).2.1)
          rintro e w34 ⟨v254, rfl, ho0, hb⟩
          refine ⟨_, rfl, ?_⟩
          have n0_ := Aside0.mk (Kd.R_elder' (rk_ HO249) (Kd.R_base ho0) hb)
          have n1_ := Aside0.mk (Kd.R_lower (Kd.R_new' ho0 (Kd.R_lt (rk_ HO249))) (below_size bl_))
          have n2_ := Aside0.mk (blkb_ BK244 hb)
          have n3_ := Aside0.mk (below_step bl_ hb)
          clear HO249
          clear BK244
          clear HB
          have HO249 := n0_
          have HO255 := n1_
          have BK244 := n2_
          have HB := n3_
          clear n0_ n1_ n2_ n3_
          (try clear hb)
          (try clear hb2)
          (try clear hk)
          (try clear hi)
          (try clear ho0)
          refine hK.out _ _ ⟨(blk_cell BK244.out 0).trans rfl, (blk_cell BK244.out 1).trans rfl, (blk_cell BK244.out 2).trans rfl⟩ (fun hHeld => ?_)
          clear hK K
          refine norm_ (a' := ?_) ?_ ?_
          rotate_left
          · show Act.put _ (some 27) _ = _
            simp only [Act.put, List.setIfInBounds_toArray, List.set_cons_zero, List.set_cons_succ, i64_w, i32_w]
            rfl
          refine pure_ (i := 5) (N := some 6) (v := ?_) (a' := ?_) (bs 6 63) rfl rfl (by kernel_rfl) (fun _ _ _ h => h) (Or.inl ⟨by rfl, ?_⟩) ?_ ?_
          rotate_left
          · intro w'
            go_simp
            with_reducible rfl
          rotate_left
          · simp only [Act.put, List.setIfInBounds_toArray, List.set_cons_zero, List.set_cons_succ, i64_w, i32_w]
            rfl
          refine done_ (by kernel_rfl) ?_
          go_upto_region 17 with (first | (go_at_call 16; (with_reducible refine (laws_toCrossS.calls k _ _ l0 t256 _ ?side1 ?side2 A16.out).mono ?_); (case side1 => exact au12_0); (case side2 => exact HC0.out); rintro e w35 ⟨v257, rfl, ho0, hb⟩; (try clear A16); have n0_ := Aside0.mk (Kd.R_elder' (rk_ HO249) (Kd.R_base ho0) hb); have n1_ := Aside0.mk (Kd.R_elder' (rk_ HO255) (Kd.R_base ho0) hb); have n2_ := Aside0.mk (Kd.R_lower (Kd.R_new' (Kd.R_new' ho0 (Kd.R_lt (rk_ HO249))) (Kd.R_lt (rk_ HO255))) (below_size bl_)); have n3_ := Aside0.mk (blkb_ BK244 hb); have n4_ := Aside0.mk (below_step bl_ hb); clear HO249; clear HO255; clear BK244; clear HB; have HO249 := n0_; have HO255 := n1_; have HO258 := n2_; have BK244 := n3_; have HB := n4_; clear n0_ n1_ n2_ n3_ n4_; (try clear hb); (try clear hb2); (try clear hk); (try clear hi); (try clear ho0); obtain ⟨hcz36_0, hcz36_1, hcz36_2, hfz36_0, hfz36_1, hfz36_2⟩ := cellsF3 BK244.out) | (go_at_call 29; (with_reducible refine (laws_toCross.calls a1_0 a1_1 a1_2 t259 t260 t261 _ A17.out).mono ?_); rintro e w37 ⟨rfl, hb⟩; (try clear A17); have n0_ := Aside0.mk (Kd.R_below (rk_ HO249) hb); have n1_ := Aside0.mk (Kd.R_below (rk_ HO255) hb); have n2_ := Aside0.mk (Kd.R_below (rk_ HO258) hb); have n3_ := Aside0.mk (blkb_ BK244 hb); have n4_ := Aside0.mk (below_step bl_ hb); clear HO249; clear HO255; clear HO258; clear BK244; clear HB; have HO249 := n0_; have HO255 := n1_; have HO258 := n2_; have BK244 := n3_; have HB := n4_; clear n0_ n1_ n2_ n3_ n4_; (try clear hb); (try clear hb2); (try clear hk); (try clear hi); obtain ⟨Ao38, co38, eo38⟩ := Kd.R_slice HO258.out; subst eo38) | (go_at_call 30; (with_reducible refine (impl_CrossPut.calls k _ _ t256 t259 t260 t261 t262 _ ?side1 ?side2 A18.out).mono ?_); (case side1 => exact au12_6); (case side2 => exact au12_16); rintro e w39 ⟨v263, rfl, ho0, hb⟩; (try clear A18); have n0_ := Aside0.mk (Kd.R_elder' (rk_ HO249) (Kd.R_base ho0) hb); have n1_ := Aside0.mk (Kd.R_elder' (rk_ HO255) (Kd.R_base ho0) hb); have n2_ := Aside0.mk (Kd.R_elder' (rk_ HO258) (Kd.R_base ho0) hb); have n3_ := Aside0.mk (Kd.R_lower (Kd.R_new' (Kd.R_new' (Kd.R_new' ho0 (Kd.R_lt (rk_ HO249))) (Kd.R_lt (rk_ HO255))) (Kd.R_lt (rk_ HO258))) (below_size bl_)); have n4_ := Aside0.mk (blkb_ BK244 hb); have n5_ := Aside0.mk (below_step bl_ hb); clear HO249; clear HO255; clear HO258; clear BK244; clear HB; have HO249 := n0_; have HO255 := n1_; have HO258 := n2_; have HO264 := n3_; have BK244 := n4_; have HB := n5_; clear n0_ n1_ n2_ n3_ n4_ n5_; (try clear hb); (try clear hb2); (try clear hk); (try clear hi); (try clear ho0); obtain ⟨Ao40, co40, eo40⟩ := Kd.R_slice HO264.out; subst eo40; obtain ⟨Ao41, co41, eo41⟩ := Kd.R_slice HO255.out; subst eo41) | (go_at_call 18; (with_reducible refine (laws_eqCrossS.calls k _ _ t262 _ _ t253 true _ ?side1 ?side2 ?side3 ?side4 A19.out).mono ?_); (case side1 => exact au12_7); (case side2 => exact au12_17); (case side3 => exact au12_8); (case side4 => exact au12_18); rintro e w42 ⟨rfl, hb⟩; (try clear A19); have n0_ := Aside0.mk (Kd.R_below (rk_ HO249) hb); have n1_ := Aside0.mk (Kd.R_below (rk_ HO255) hb); have n2_ := Aside0.mk (Kd.R_below (rk_ HO258) hb); have n3_ := Aside0.mk (Kd.R_below (rk_ HO264) hb); have n4_ := Aside0.mk (blkb_ BK244 hb); have n5_ := Aside0.mk (below_step bl_ hb); clear HO249; clear HO255; clear HO258; clear HO264; clear BK244; clear HB; have HO249 := n0_; have HO255 := n1_; have HO258 := n2_; have HO264 := n3_; have BK244 := n4_; have HB := n5_; clear n0_ n1_ n2_ n3_ n4_ n5_; (try clear hb); (try clear hb2); (try clear hk); (try clear hi)) | (go_at_call 16; (with_reducible refine (laws_toCrossS.calls k _ _ l0 t266 _ ?side1 ?side2 A21.out).mono ?_); (case side1 => exact au12_0); (case side2 => exact HC0.out); rintro e w43 ⟨v267, rfl, ho0, hb⟩; (try clear A21); have n0_ := Aside0.mk (Kd.R_elder' (rk_ HO249) (Kd.R_base ho0) hb); have n1_ := Aside0.mk (Kd.R_elder' (rk_ HO255) (Kd.R_base ho0) hb); have n2_ := Aside0.mk (Kd.R_elder' (rk_ HO258) (Kd.R_base ho0) hb); have n3_ := Aside0.mk (Kd.R_elder' (rk_ HO264) (Kd.R_base ho0) hb); have n4_ := Aside0.mk (Kd.R_lower (Kd.R_new' (Kd.R_new' (Kd.R_new' (Kd.R_new' ho0 (Kd.R_lt (rk_ HO249))) (Kd.R_lt (rk_ HO255))) (Kd.R_lt (rk_ HO258))) (Kd.R_lt (rk_ HO264))) (below_size bl_)); have n5_ := Aside0.mk (blkb_ BK244 hb); have n6_ := Aside0.mk (below_step bl_ hb); clear HO249; clear HO255; clear HO258; clear HO264; clear BK244; clear HB; have HO249 := n0_; have HO255 := n1_; have HO258 := n2_; have HO264 := n3_; have HO268 := n4_; have BK244 := n5_; have HB := n6_; clear n0_ n1_ n2_ n3_ n4_ n5_ n6_; (try clear hb); (try clear hb2); (try clear hk); (try clear hi); (try clear ho0); obtain ⟨Ao44, co44, eo44⟩ := Kd.R_slice HO268.out; subst eo44) | (go_at_call 18; (with_reducible refine (laws_eqCrossS.calls k _ _ t256 _ _ t266 true _ ?side1 ?side2 ?side3 ?side4 A22.out).mono ?_); (case side1 => exact au12_6); (case side2 => exact au12_16); (case side3 => exact au12_13); (case side4 => exact (Kd.R_reads' HO268.out).2.1); rintro e w45 ⟨rfl, hb⟩; (try clear A22); have n0_ := Aside0.mk (Kd.R_below (rk_ HO249) hb); have n1_ := Aside0.mk (Kd.R_below (rk_ HO255) hb); have n2_ := Aside0.mk (Kd.R_below (rk_ HO258) hb); have n3_ := Aside0.mk (Kd.R_below (rk_ HO264) hb); have n4_ := Aside0.mk (Kd.R_below (rk_ HO268) hb); have n5_ := Aside0.mk (blkb_ BK244 hb); have n6_ := Aside0.mk (below_step bl_ hb); clear HO249; clear HO255; clear HO258; clear HO264; clear HO268; clear BK244; clear HB; have HO249 := n0_; have HO255 := n1_; have HO258 := n2_; have HO264 := n3_; have HO268 := n4_; have BK244 := n5_; have HB := n6_; clear n0_ n1_ n2_ n3_ n4_ n5_ n6_; (try clear hb); (try clear hb2); (try clear hk); (try clear hi)) | (go_at_call 25; (with_reducible refine (laws_markCrossS.calls k (fun k_ => some k_ = (.slice Ao38 t256.length co38 : Value).ownBlock) (.slice Ao38 t256.length co38) t256 1 t270 t271 w _ ?side1 ?side2 A24.out).mono ?_); (case side1 => exact au12_2); (case side2 => exact Kd.R_tight rfl HO258.out); rintro e w46 ⟨rfl, hy0, hb, hkp⟩; (try clear A24); have n0_ := Aside0.mk (blk_kept (bk_ BK244) hkp (fun hs_ => (fun e_ => (Kd.R_ne HO258.out BK244.out (by decide)) e_) hs_)); have n1_ := Aside0.mk (Kd.R_mono (ok' := fun k_ => some k_ ≠ (.slice Ao41 t253.length co41 : Value).ownBlock ∧ some k_ ≠ (.slice Ao38 t256.length co38 : Value).ownBlock ∧ some k_ ≠ (.slice Ao40 t262.length co40 : Value).ownBlock ∧ some k_ ≠ (.slice Ao44 t266.length co44 : Value).ownBlock) (Kd.R_keptB (HO249.out) hkp (fun k_ hk_ hs_ => (hk_.1.1.2) hs_)) (fun k_ hk_ => ⟨hk_.1.1.1.1.2, hk_.1.1.1.2, hk_.1.1.2, hk_.1.2⟩)); have n2_ := Aside0.mk (Kd.R_mono (ok' := fun k_ => some k_ ≠ (.slice Ao33 t247.length co33 : Value).ownBlock ∧ some k_ ≠ (.slice Ao38 t256.length co38 : Value).ownBlock ∧ some k_ ≠ (.slice Ao40 t262.length co40 : Value).ownBlock ∧ some k_ ≠ (.slice Ao44 t266.length co44 : Value).ownBlock) (Kd.R_keptB (HO255.out) hkp (fun k_ hk_ hs_ => (hk_.1.1.2) hs_)) (fun k_ hk_ => ⟨hk_.1.1.1.1.2, hk_.1.1.1.2, hk_.1.1.2, hk_.1.2⟩)); have n3_ := Aside0.mk (Kd.R_reok rfl hy0 (fun k_ e_ => HO258.out.1 k_ e_)); have n4_ := Aside0.mk (Kd.R_mono (ok' := fun k_ => some k_ ≠ (.slice Ao33 t247.length co33 : Value).ownBlock ∧ some k_ ≠ (.slice Ao41 t253.length co41 : Value).ownBlock ∧ some k_ ≠ (.slice Ao38 t256.length co38 : Value).ownBlock ∧ some k_ ≠ (.slice Ao44 t266.length co44 : Value).ownBlock) (Kd.R_keptB (HO264.out) hkp (fun k_ hk_ hs_ => (hk_.1.2) hs_)) (fun k_ hk_ => ⟨hk_.1.1.1.1.2, hk_.1.1.1.2, hk_.1.1.2, hk_.1.2⟩)); have n5_ := Aside0.mk (Kd.R_mono (ok' := fun k_ => some k_ ≠ (.slice Ao33 t247.length co33 : Value).ownBlock ∧ some k_ ≠ (.slice Ao41 t253.length co41 : Value).ownBlock ∧ some k_ ≠ (.slice Ao38 t256.length co38 : Value).ownBlock ∧ some k_ ≠ (.slice Ao40 t262.length co40 : Value).ownBlock) (Kd.R_keptB (HO268.out) hkp (fun k_ hk_ hs_ => (hk_.1.2) hs_)) (fun k_ hk_ => ⟨hk_.1.1.1.1.2, hk_.1.1.1.2, hk_.1.1.2, hk_.1.2⟩)); have n6_ := Aside0.mk (hb); clear BK244; clear HO249; clear HO255; clear HO258; clear HO264; clear HO268; clear HB; have BK244 := n0_; have HO249 := n1_; have HO255 := n2_; have HO258 := n3_; have HO264 := n4_; have HO268 := n5_; have HB := n6_; clear n0_ n1_ n2_ n3_ n4_ n5_ n6_; (try clear hb); (try clear hkp); (try clear hy0)))
          (try simp only [Act.put, List.setIfInBounds_toArray, List.set_cons_zero, List.set_cons_succ])
          go_cut [53] (fun v53 wc => ∃ (kq : Nat) (x53_24 : Bool), v53 = .bool x53_24 ∧ Aside0 (laws_FnExactCrossPut.j0 kq l0 t253 t262 x53_24 a1_0 a1_1 a1_2 = some r) ∧ Aside0 (kq ≤ k) ∧ Aside0 (Kd.R k37 37 wc w.heap.size (fun k_ => some k_ ≠ ((.slice Ao40 t262.length co40) : Value).ownBlock) (.slice Ao41 t253.length co41) t253) ∧ Aside0 (Kd.R k37 37 wc w.heap.size (fun k_ => some k_ ≠ ((.slice Ao41 t253.length co41) : Value).ownBlock) (.slice Ao40 t262.length co40) t262) ∧ Aside0 (wc.heap[gb244]? = some (.cells #[.string a1_0, .string a1_1, .string a1_2] 34 (0, 0))) ∧ Aside0 (Below w.heap.size w wc))
          case first =>
            have H := HC25.out
            clear HC25
            by_cases c47 : t270 < 0
            · rw [if_pos c47] at H
              have c47b0 : decide (t270 < 0) = true := decide_eq_true c47
              clear c47
              (first | rw [c47b0] | (simp only [i64_w, i32_w]; rw [c47b0]) | skip)
              have H' := Aside0.mk H
              clear H
              go_wp2
              go_meet
              case rel => exact ⟨_, (true), er_, H', ⟨by first | omega | exact Nat.le_refl _⟩, ⟨au12_14⟩, ⟨au12_15⟩, ⟨bk_ BK244⟩, ⟨bl_⟩⟩
            · rw [if_neg c47] at H
              have c47b0 : decide (t270 < 0) = false := decide_eq_false c47
              clear c47
              (first | rw [c47b0] | (simp only [i64_w, i32_w]; rw [c47b0]) | skip)
              replace H := Option.bind_eq_some_iff.mp H
              obtain ⟨t272, A480, H⟩ := H
              replace H : (laws_FnExactCrossPut.j0 k l0 t253 t262 (!t272) a1_0 a1_1 a1_2) = some r := H
              have A48 := Aside0.mk A480
              clear A480
              have H' := Aside0.mk H
              clear H
              go_wp2_with (first | (go_at_call 18; (with_reducible refine (laws_eqCrossS.calls k _ _ t262 _ _ t253 t272 _ ?side1 ?side2 ?side3 ?side4 A48.out).mono ?_); (case side1 => exact au12_7); (case side2 => exact au12_17); (case side3 => exact au12_8); (case side4 => exact au12_18); rintro e w49 ⟨rfl, hb⟩; (try clear A48); have n0_ := Aside0.mk (Kd.R_below (rk_ HO249) hb); have n1_ := Aside0.mk (Kd.R_below (rk_ HO255) hb); have n2_ := Aside0.mk (Kd.R_below (rk_ HO258) hb); have n3_ := Aside0.mk (Kd.R_below (rk_ HO264) hb); have n4_ := Aside0.mk (Kd.R_below (rk_ HO268) hb); have n5_ := Aside0.mk (blkb_ BK244 hb); have n6_ := Aside0.mk (below_step bl_ hb); clear HO249; clear HO255; clear HO258; clear HO264; clear HO268; clear BK244; clear HB; have HO249 := n0_; have HO255 := n1_; have HO258 := n2_; have HO264 := n3_; have HO268 := n4_; have BK244 := n5_; have HB := n6_; clear n0_ n1_ n2_ n3_ n4_ n5_ n6_; (try clear hb); (try clear hb2); (try clear hk); (try clear hi)))
              go_meet
              case rel => exact ⟨_, (!t272), er_, H', ⟨by first | omega | exact Nat.le_refl _⟩, ⟨au12_14⟩, ⟨au12_15⟩, ⟨bk_ BK244⟩, ⟨bl_⟩⟩
          case rest =>
            clear HC25
            try clear c1
            try clear c2
            try clear p2
            try clear c4
            try clear c4b0
            try clear c7
            try clear c8
            try clear c8b0
            try clear c16
            try clear c20
            try clear c23
            try clear c28
            try clear c29
            try clear c47
            try clear c47b0
            try clear hcz11_0
            try clear hcz11_1
            try clear hcz11_2
            try clear hcz28_0
            try clear hcz28_1
            try clear hcz28_2
            try clear hcz36_0
            try clear hcz36_1
            try clear hcz36_2
            try clear hfz11_0
            try clear hfz11_1
            try clear hfz11_2
            try clear hfz28_0
            try clear hfz28_1
            try clear hfz28_2
            try clear hfz36_0
            try clear hfz36_1
            try clear hfz36_2
            obtain ⟨kq, x53_24, rfl, HA, HJ24, HO_6, HO_8, BK244, HB⟩ := hcut
            cases kq with
            | zero => exact absurd HA.out (by simp [laws_FnExactCrossPut.j0])
            | succ kj24 =>
              have H := HA.out
              clear HA
              simp only [laws_FnExactCrossPut.j0] at H
              by_cases c50 : x53_24 = true
              · subst c50
                have H1 : (some false) = some r := by rw [if_pos rfl] at H; exact H
                clear H
                have H := H1
                clear H1
                obtain rfl := Option.some.inj H
                go_wp2
                go_ret
                exact ⟨au12_3, bl_⟩
              · replace c50 := Bool.eq_false_iff.mpr c50
                subst c50
                have H1 : ((laws_markCrossS.f kj24 t262 1).bind fun bt273 => ((laws_heldCrossS.f kj24 bt273.2 1).bind fun t275 => (if t275 < 0 then (some false) else (if t275 = bt273.1 then ((laws_toCrossS.f kj24 l0).bind fun t276 => ((laws_toCross.f a1_0 a1_1 a1_2).bind fun bt279 => ((impl_CrossPut.f kj24 t276 bt279.1 bt279.2.1 bt279.2.2).bind fun t282 => ((laws_eqCrossS.f kj24 t282 t253).bind fun t285 => (if t285 = true then ((laws_heldCrossS.f kj24 bt273.2 1).bind fun t286 => (if t286 < 0 then (some false) else (if t286 = bt273.1 then (some true) else (some false)))) else (some false)))))) else (some false))))) = some r := by rw [if_neg (show ¬ (false = true) by decide)] at H; exact H
                clear H
                have H := H1
                clear H1
                replace H := Option.bind_eq_some_iff.mp H
                obtain ⟨⟨t273, t274⟩, A510, H⟩ := H
                replace H : ((laws_heldCrossS.f kj24 t274 1).bind fun t275 => (if t275 < 0 then (some false) else (if t275 = t273 then ((laws_toCrossS.f kj24 l0).bind fun t276 => ((laws_toCross.f a1_0 a1_1 a1_2).bind fun bt279 => ((impl_CrossPut.f kj24 t276 bt279.1 bt279.2.1 bt279.2.2).bind fun t282 => ((laws_eqCrossS.f kj24 t282 t253).bind fun t285 => (if t285 = true then ((laws_heldCrossS.f kj24 t274 1).bind fun t286 => (if t286 < 0 then (some false) else (if t286 = t273 then (some true) else (some false)))) else (some false)))))) else (some false)))) = some r := H
                have A51 := Aside0.mk A510
                clear A510
                replace H := Option.bind_eq_some_iff.mp H
                obtain ⟨t275, A520, H⟩ := H
                replace H : (if t275 < 0 then (some false) else (if t275 = t273 then ((laws_toCrossS.f kj24 l0).bind fun t276 => ((laws_toCross.f a1_0 a1_1 a1_2).bind fun bt279 => ((impl_CrossPut.f kj24 t276 bt279.1 bt279.2.1 bt279.2.2).bind fun t282 => ((laws_eqCrossS.f kj24 t282 t253).bind fun t285 => (if t285 = true then ((laws_heldCrossS.f kj24 t274 1).bind fun t286 => (if t286 < 0 then (some false) else (if t286 = t273 then (some true) else (some false)))) else (some false)))))) else (some false))) = some r := H
                have A52 := Aside0.mk A520
                clear A520
                by_cases c53 : t275 < 0
                · rw [if_pos c53] at H
                  have c53b0 : decide (t275 < 0) = true := decide_eq_true c53
                  clear c53
                  obtain rfl := Option.some.inj H
                  go_wp2_with (first | (go_at_call 25; (with_reducible refine (laws_markCrossS.calls kj24 (fun k_ => some k_ = (.slice Ao40 t262.length co40 : Value).ownBlock) (.slice Ao40 t262.length co40) t262 1 t273 t274 w _ ?side1 ?side2 A51.out).mono ?_); (case side1 => exact au12_2); (case side2 => exact Kd.R_tight rfl HO_8.out); rintro e w54 ⟨rfl, hy0, hb, hkp⟩; (try clear A51); have n0_ := Aside0.mk (Kd.R_mono (ok' := fun k_ => some k_ ≠ (.slice Ao40 t262.length co40 : Value).ownBlock) (Kd.R_keptB (HO_6.out) hkp (fun k_ hk_ hs_ => (hk_) hs_)) (fun k_ hk_ => hk_.1)); have n1_ := Aside0.mk (Kd.R_reok rfl hy0 (fun k_ e_ => HO_8.out.1 k_ e_)); have n2_ := Aside0.mk (blk_kept (bk_ BK244) hkp (fun hs_ => (fun e_ => (Kd.R_ne HO_8.out BK244.out (by decide)) e_) hs_)); have n3_ := Aside0.mk (hb); clear HO_6; clear HO_8; clear BK244; clear HB; have HO_6 := n0_; have HO_8 := n1_; have BK244 := n2_; have HB := n3_; clear n0_ n1_ n2_ n3_; (try clear hb); (try clear hkp); (try clear hy0)) | (go_at_call 26; refine calls_of_args (args' := #[.slice Ao40 t274.length co40, .int .i64 1]) au12_5 ?_; (with_reducible refine (laws_heldCrossS.calls kj24 _ _ t274 1 t275 _ ?side1 ?side2 A52.out).mono ?_); (case side1 => exact au12_1); (case side2 => exact au12_4); rintro e w55 ⟨rfl, hb⟩; (try clear A52); have n0_ := Aside0.mk (Kd.R_below (rk_ HO_6) hb); have n1_ := Aside0.mk (Kd.R_below (rk_ HO_8) hb); have n2_ := Aside0.mk (blkb_ BK244 hb); have n3_ := Aside0.mk (below_step bl_ hb); clear HO_6; clear HO_8; clear BK244; clear HB; have HO_6 := n0_; have HO_8 := n1_; have BK244 := n2_; have HB := n3_; clear n0_ n1_ n2_ n3_; (try clear hb); (try clear hb2); (try clear hk); (try clear hi)))
                  go_ret
                  exact ⟨au12_3, bl_⟩
                · rw [if_neg c53] at H
                  have c53b0 : decide (t275 < 0) = false := decide_eq_false c53
                  clear c53
                  by_cases c56 : t275 = t273
                  · rw [if_pos c56] at H
                    have c56b0 : (t275 == t273) = true := beq_iff_eq.mpr c56
                    have c56b1 : (t275 != t273) = false := bne_eq_false_iff_eq.mpr c56
                    clear c56
                    replace H := Option.bind_eq_some_iff.mp H
                    obtain ⟨t276, A570, H⟩ := H
                    replace H : ((laws_toCross.f a1_0 a1_1 a1_2).bind fun bt279 => ((impl_CrossPut.f kj24 t276 bt279.1 bt279.2.1 bt279.2.2).bind fun t282 => ((laws_eqCrossS.f kj24 t282 t253).bind fun t285 => (if t285 = true then ((laws_heldCrossS.f kj24 t274 1).bind fun t286 => (if t286 < 0 then (some false) else (if t286 = t273 then (some true) else (some false)))) else (some false))))) = some r := H
                    have A57 := Aside0.mk A570
                    clear A570
                    replace H := Option.bind_eq_some_iff.mp H
                    obtain ⟨⟨t279, t280, t281⟩, A580, H⟩ := H
                    replace H : ((impl_CrossPut.f kj24 t276 t279 t280 t281).bind fun t282 => ((laws_eqCrossS.f kj24 t282 t253).bind fun t285 => (if t285 = true then ((laws_heldCrossS.f kj24 t274 1).bind fun t286 => (if t286 < 0 then (some false) else (if t286 = t273 then (some true) else (some false)))) else (some false)))) = some r := H
                    have A58 := Aside0.mk A580
                    clear A580
                    replace H := Option.bind_eq_some_iff.mp H
                    obtain ⟨t282, A590, H⟩ := H
                    replace H : ((laws_eqCrossS.f kj24 t282 t253).bind fun t285 => (if t285 = true then ((laws_heldCrossS.f kj24 t274 1).bind fun t286 => (if t286 < 0 then (some false) else (if t286 = t273 then (some true) else (some false)))) else (some false))) = some r := H
                    have A59 := Aside0.mk A590
                    clear A590
                    replace H := Option.bind_eq_some_iff.mp H
                    obtain ⟨t285, A600, H⟩ := H
                    replace H : (if t285 = true then ((laws_heldCrossS.f kj24 t274 1).bind fun t286 => (if t286 < 0 then (some false) else (if t286 = t273 then (some true) else (some false)))) else (some false)) = some r := H
                    have A60 := Aside0.mk A600
                    clear A600
                    by_cases c61 : t285 = true
                    · subst c61
                      have H1 : ((laws_heldCrossS.f kj24 t274 1).bind fun t286 => (if t286 < 0 then (some false) else (if t286 = t273 then (some true) else (some false)))) = some r := by rw [if_pos rfl] at H; exact H
                      clear H
                      have H := H1
                      clear H1
                      replace H := Option.bind_eq_some_iff.mp H
                      obtain ⟨t286, A620, H⟩ := H
                      replace H : (if t286 < 0 then (some false) else (if t286 = t273 then (some true) else (some false))) = some r := H
                      have A62 := Aside0.mk A620
                      clear A620
                      by_cases c63 : t286 < 0
                      · rw [if_pos c63] at H
                        have c63b0 : decide (t286 < 0) = true := decide_eq_true c63
                        clear c63
                        obtain rfl := Option.some.inj H
                        try go_wp2_with (first | (go_at_call 25; (with_reducible refine (laws_markCrossS.calls kj24 (fun k_ => some k_ = (.slice Ao40 t262.length co40 : Value).ownBlock) (.slice Ao40 t262.length co40) t262 1 t273 t274 w _ ?side1 ?side2 A51.out).mono ?_); (case side1 => exact au12_2); (case side2 => exact Kd.R_tight rfl HO_8.out); rintro e w64 ⟨rfl, hy0, hb, hkp⟩; (try clear A51); have n0_ := Aside0.mk (Kd.R_mono (ok' := fun k_ => some k_ ≠ (.slice Ao40 t262.length co40 : Value).ownBlock) (Kd.R_keptB (HO_6.out) hkp (fun k_ hk_ hs_ => (hk_) hs_)) (fun k_ hk_ => hk_.1)); have n1_ := Aside0.mk (Kd.R_reok rfl hy0 (fun k_ e_ => HO_8.out.1 k_ e_)); have n2_ := Aside0.mk (blk_kept (bk_ BK244) hkp (fun hs_ => (fun e_ => (Kd.R_ne HO_8.out BK244.out (by decide)) e_) hs_)); have n3_ := Aside0.mk (hb); clear HO_6; clear HO_8; clear BK244; clear HB; have HO_6 := n0_; have HO_8 := n1_; have BK244 := n2_; have HB := n3_; clear n0_ n1_ n2_ n3_; (try clear hb); (try clear hkp); (try clear hy0)) | (go_at_call 26; refine calls_of_args (args' := #[.slice Ao40 t274.length co40, .int .i64 1]) au12_5 ?_; (with_reducible refine (laws_heldCrossS.calls kj24 _ _ t274 1 t275 _ ?side1 ?side2 A52.out).mono ?_); (case side1 => exact au12_1); (case side2 => exact au12_4); rintro e w65 ⟨rfl, hb⟩; (try clear A52); have n0_ := Aside0.mk (Kd.R_below (rk_ HO_6) hb); have n1_ := Aside0.mk (Kd.R_below (rk_ HO_8) hb); have n2_ := Aside0.mk (blkb_ BK244 hb); have n3_ := Aside0.mk (below_step bl_ hb); clear HO_6; clear HO_8; clear BK244; clear HB; have HO_6 := n0_; have HO_8 := n1_; have BK244 := n2_; have HB := n3_; clear n0_ n1_ n2_ n3_; (try clear hb); (try clear hb2); (try clear hk); (try clear hi)))
                        have n0_ := Aside0.mk (Kd.R_drew HO_6.out)
                        have n1_ := Aside0.mk (Kd.R_drew HO_8.out)
                        have n2_ := Aside0.mk (blk_drew BK244.out)
                        have n3_ := Aside0.mk (below_drew1 HB.out)
                        clear HO_6
                        clear HO_8
                        clear BK244
                        clear HB
                        have HO_6 := n0_
                        have HO_8 := n1_
                        have BK244 := n2_
                        have HB := n3_
                        clear n0_ n1_ n2_ n3_
                        refine start_ (n := 6) (S := fun w' => w'.cell? ⟨gb244, 0, none⟩ = some (.string a1_0) ∧ w'.cell? ⟨gb244, 1, none⟩ = some (.string a1_1) ∧ w'.cell? ⟨gb244, 2, none⟩ = some (.string a1_2)) (ds := []) (bs 6 0) (by kernel_rfl) rfl rfl ⟨(blk_cell BK244.out 0).trans rfl, (blk_cell BK244.out 1).trans rfl, (blk_cell BK244.out 2).trans rfl⟩ (fun hHeld => ?_)
                        generalize w65.drew = w66 at HO_6 HO_8 BK244 HB hHeld ⊢
                        refine pure_ (i := 0) (N := some 65) (v := ?_) (a' := ?_) (bs 6 1) rfl rfl (by kernel_rfl) (fun _ _ _ h => h) (Or.inl ⟨by rfl, ?_⟩) ?_ ?_
                        rotate_left
                        · intro w'
                          go_simp
                          with_reducible rfl
                        rotate_left
                        · simp only [Act.put, List.setIfInBounds_toArray, List.set_cons_zero, List.set_cons_succ, i64_w, i32_w]
                          rfl
                        refine take_ (i := 2) (N := some 67) (v := ?_) (a' := ?_) (bs 6 5) rfl rfl (by kernel_rfl) (fun _ _ _ h => h) (Or.inl ⟨by rfl, ?_⟩) hHeld ?_ ?_
                        rotate_left
                        · rintro w' ⟨s0, s1, s2⟩
                          go_simp
                          with_reducible rfl
                        rotate_left
                        · simp only [Act.put, List.setIfInBounds_toArray, List.set_cons_zero, List.set_cons_succ, i64_w, i32_w]
                          rfl
                        refine one_ (i := 1) (N := some 66) (bs 6 7) rfl rfl (by kernel_rfl) (by decide) (fun K hK => ?_)
                        refine gr_ Try.func16 #[.slice A0 l0.length c0] (by rfl) ?_ rfl rfl rfl
                        with_reducible refine (laws_toCrossS.calls kj24 _ _ l0 t276 _ ?side1 ?side2 A57.out).mono ?_
                        (case side1 => exact au12_0)
                        (case side2 => exact HC0.out)
                        rintro e w67 ⟨v277, rfl, ho0, hb⟩
                        refine ⟨_, rfl, ?_⟩
                        have n0_ := Aside0.mk (Kd.R_elder' (rk_ HO_6) (Kd.R_base ho0) hb)
                        have n1_ := Aside0.mk (Kd.R_elder' (rk_ HO_8) (Kd.R_base ho0) hb)
                        have n2_ := Aside0.mk (Kd.R_lower (Kd.R_new' (Kd.R_new' ho0 (Kd.R_lt (rk_ HO_6))) (Kd.R_lt (rk_ HO_8))) (below_size bl_))
                        have n3_ := Aside0.mk (blkb_ BK244 hb)
                        have n4_ := Aside0.mk (below_step bl_ hb)
                        clear HO_6
                        clear HO_8
                        clear BK244
                        clear HB
                        have HO_6 := n0_
                        have HO_8 := n1_
                        have HO278 := n2_
                        have BK244 := n3_
                        have HB := n4_
                        clear n0_ n1_ n2_ n3_ n4_
                        (try clear hb)
                        (try clear hb2)
                        (try clear hk)
                        (try clear hi)
                        (try clear ho0)
                        refine hK.out _ _ ⟨(blk_cell BK244.out 0).trans rfl, (blk_cell BK244.out 1).trans rfl, (blk_cell BK244.out 2).trans rfl⟩ (fun hHeld => ?_)
                        clear hK K
                        refine norm_ (a' := ?_) ?_ ?_
                        rotate_left
                        · show Act.put _ (some 66) _ = _
                          simp only [Act.put, List.setIfInBounds_toArray, List.set_cons_zero, List.set_cons_succ, i64_w, i32_w]
                          rfl
                        refine one_ (i := 3) (N := some 68) (bs 6 15) rfl rfl (by kernel_rfl) (by decide) (fun K hK => ?_)
                        refine gr_ Try.func29 #[.agg #[.string a1_0, .string a1_1, .string a1_2]] (by rfl) ?_ rfl rfl rfl
                        with_reducible refine (laws_toCross.calls a1_0 a1_1 a1_2 t279 t280 t281 _ A58.out).mono ?_
                        rintro e w68 ⟨rfl, hb⟩
                        refine ⟨_, rfl, ?_⟩
                        have n0_ := Aside0.mk (Kd.R_below (rk_ HO_6) hb)
                        have n1_ := Aside0.mk (Kd.R_below (rk_ HO_8) hb)
                        have n2_ := Aside0.mk (Kd.R_below (rk_ HO278) hb)
                        have n3_ := Aside0.mk (blkb_ BK244 hb)
                        have n4_ := Aside0.mk (below_step bl_ hb)
                        clear HO_6
                        clear HO_8
                        clear HO278
                        clear BK244
                        clear HB
                        have HO_6 := n0_
                        have HO_8 := n1_
                        have HO278 := n2_
                        have BK244 := n3_
                        have HB := n4_
                        clear n0_ n1_ n2_ n3_ n4_
                        (try clear hb)
                        (try clear hb2)
                        (try clear hk)
                        (try clear hi)
                        obtain ⟨Ao69, co69, eo69⟩ := Kd.R_slice HO278.out
                        (first | subst eo69 | (injection eo69 with f1_ f2_ f3_; have f4_ := f1_.symm; have f5_ := f3_.symm; clear f1_ f2_ f3_; subst f4_; subst f5_))
                        refine hK.out _ _ ⟨(blk_cell BK244.out 0).trans rfl, (blk_cell BK244.out 1).trans rfl, (blk_cell BK244.out 2).trans rfl⟩ (fun hHeld => ?_)
                        clear hK K
                        refine norm_ (a' := ?_) ?_ ?_
                        rotate_left
                        · show Act.put _ (some 68) _ = _
                          simp only [Act.put, List.setIfInBounds_toArray, List.set_cons_zero, List.set_cons_succ, i64_w, i32_w]
                          rfl
                        refine one_ (i := 4) (N := some 69) (bs 6 31) rfl rfl (by kernel_rfl) (by decide) (fun K hK => ?_)
                        refine gr_ Try.func30 #[.slice Ao69 t276.length co69, .agg #[.string t279, .string t280, .string t281]] (by rfl) ?_ rfl rfl rfl
                        with_reducible refine (impl_CrossPut.calls kj24 _ _ t276 t279 t280 t281 t282 _ ?side1 ?side2 A59.out).mono ?_
                        (case side1 => exact au12_9)
                        (case side2 => exact au12_19)
                        rintro e w70 ⟨v283, rfl, ho0, hb⟩
                        refine ⟨_, rfl, ?_⟩
                        have n0_ := Aside0.mk (Kd.R_elder' (rk_ HO_6) (Kd.R_base ho0) hb)
                        have n1_ := Aside0.mk (Kd.R_elder' (rk_ HO_8) (Kd.R_base ho0) hb)
                        have n2_ := Aside0.mk (Kd.R_elder' (rk_ HO278) (Kd.R_base ho0) hb)
                        have n3_ := Aside0.mk (Kd.R_lower (Kd.R_new' (Kd.R_new' (Kd.R_new' ho0 (Kd.R_lt (rk_ HO_6))) (Kd.R_lt (rk_ HO_8))) (Kd.R_lt (rk_ HO278))) (below_size bl_))
                        have n4_ := Aside0.mk (blkb_ BK244 hb)
                        have n5_ := Aside0.mk (below_step bl_ hb)
                        clear HO_6
                        clear HO_8
                        clear HO278
                        clear BK244
                        clear HB
                        have HO_6 := n0_
                        have HO_8 := n1_
                        have HO278 := n2_
                        have HO284 := n3_
                        have BK244 := n4_
                        have HB := n5_
                        clear n0_ n1_ n2_ n3_ n4_ n5_
                        (try clear hb)
                        (try clear hb2)
                        (try clear hk)
                        (try clear hi)
                        (try clear ho0)
                        refine hK.out _ _ ⟨(blk_cell BK244.out 0).trans rfl, (blk_cell BK244.out 1).trans rfl, (blk_cell BK244.out 2).trans rfl⟩ (fun hHeld => ?_)
                        clear hK K
                        refine norm_ (a' := ?_) ?_ ?_
                        rotate_left
                        · show Act.put _ (some 69) _ = _
                          simp only [Act.put, List.setIfInBounds_toArray, List.set_cons_zero, List.set_cons_succ, i64_w, i32_w]
                          rfl
                        refine pure_ (i := 5) (N := some 12) (v := ?_) (a' := ?_) (bs 6 63) rfl rfl (by kernel_rfl) (fun _ _ _ h => h) (Or.inl ⟨by rfl, ?_⟩) ?_ ?_
                        rotate_left
                        · intro w'
                          go_simp
                          with_reducible rfl
                        rotate_left
                        · simp only [Act.put, List.setIfInBounds_toArray, List.set_cons_zero, List.set_cons_succ, i64_w, i32_w]
                          rfl
                        refine done_ (by kernel_rfl) ?_
                        obtain ⟨Ao71, co71, eo71⟩ := Kd.R_slice HO284.out
                        subst eo71
                        try go_wp2_with (first | (go_at_call 18; (with_reducible refine (laws_eqCrossS.calls kj24 _ _ t282 _ _ t253 true _ ?side1 ?side2 ?side3 ?side4 A60.out).mono ?_); (case side1 => exact au12_10); (case side2 => exact au12_20); (case side3 => exact au12_11); (case side4 => exact au12_21); rintro e w72 ⟨rfl, hb⟩; (try clear A60); have n0_ := Aside0.mk (Kd.R_below (rk_ HO_6) hb); have n1_ := Aside0.mk (Kd.R_below (rk_ HO_8) hb); have n2_ := Aside0.mk (Kd.R_below (rk_ HO278) hb); have n3_ := Aside0.mk (Kd.R_below (rk_ HO284) hb); have n4_ := Aside0.mk (blkb_ BK244 hb); have n5_ := Aside0.mk (below_step bl_ hb); clear HO_6; clear HO_8; clear HO278; clear HO284; clear BK244; clear HB; have HO_6 := n0_; have HO_8 := n1_; have HO278 := n2_; have HO284 := n3_; have BK244 := n4_; have HB := n5_; clear n0_ n1_ n2_ n3_ n4_ n5_; (try clear hb); (try clear hb2); (try clear hk); (try clear hi)) | (go_at_call 26; refine calls_of_args (args' := #[.slice Ao40 t274.length co40, .int .i64 1]) au12_5 ?_; (with_reducible refine (laws_heldCrossS.calls kj24 _ _ t274 1 t286 _ ?side1 ?side2 A62.out).mono ?_); (case side1 => exact au12_1); (case side2 => exact au12_4); rintro e w73 ⟨rfl, hb⟩; (try clear A62); have n0_ := Aside0.mk (Kd.R_below (rk_ HO_6) hb); have n1_ := Aside0.mk (Kd.R_below (rk_ HO_8) hb); have n2_ := Aside0.mk (Kd.R_below (rk_ HO278) hb); have n3_ := Aside0.mk (Kd.R_below (rk_ HO284) hb); have n4_ := Aside0.mk (blkb_ BK244 hb); have n5_ := Aside0.mk (below_step bl_ hb); clear HO_6; clear HO_8; clear HO278; clear HO284; clear BK244; clear HB; have HO_6 := n0_; have HO_8 := n1_; have HO278 := n2_; have HO284 := n3_; have BK244 := n4_; have HB := n5_; clear n0_ n1_ n2_ n3_ n4_ n5_; (try clear hb); (try clear hb2); (try clear hk); (try clear hi)))
                        go_ret
                        exact ⟨au12_3, bl_⟩
                      · rw [if_neg c63] at H
                        have c63b0 : decide (t286 < 0) = false := decide_eq_false c63
                        clear c63
                        by_cases c74 : t286 = t273
                        · rw [if_pos c74] at H
                          have c74b0 : (t286 == t273) = true := beq_iff_eq.mpr c74
                          have c74b1 : (t286 != t273) = false := bne_eq_false_iff_eq.mpr c74
                          clear c74
                          obtain rfl := Option.some.inj H
                          try go_wp2_with (first | (go_at_call 25; (with_reducible refine (laws_markCrossS.calls kj24 (fun k_ => some k_ = (.slice Ao40 t262.length co40 : Value).ownBlock) (.slice Ao40 t262.length co40) t262 1 t273 t274 w _ ?side1 ?side2 A51.out).mono ?_); (case side1 => exact au12_2); (case side2 => exact Kd.R_tight rfl HO_8.out); rintro e w75 ⟨rfl, hy0, hb, hkp⟩; (try clear A51); have n0_ := Aside0.mk (Kd.R_mono (ok' := fun k_ => some k_ ≠ (.slice Ao40 t262.length co40 : Value).ownBlock) (Kd.R_keptB (HO_6.out) hkp (fun k_ hk_ hs_ => (hk_) hs_)) (fun k_ hk_ => hk_.1)); have n1_ := Aside0.mk (Kd.R_reok rfl hy0 (fun k_ e_ => HO_8.out.1 k_ e_)); have n2_ := Aside0.mk (blk_kept (bk_ BK244) hkp (fun hs_ => (fun e_ => (Kd.R_ne HO_8.out BK244.out (by decide)) e_) hs_)); have n3_ := Aside0.mk (hb); clear HO_6; clear HO_8; clear BK244; clear HB; have HO_6 := n0_; have HO_8 := n1_; have BK244 := n2_; have HB := n3_; clear n0_ n1_ n2_ n3_; (try clear hb); (try clear hkp); (try clear hy0)) | (go_at_call 26; refine calls_of_args (args' := #[.slice Ao40 t274.length co40, .int .i64 1]) au12_5 ?_; (with_reducible refine (laws_heldCrossS.calls kj24 _ _ t274 1 t275 _ ?side1 ?side2 A52.out).mono ?_); (case side1 => exact au12_1); (case side2 => exact au12_4); rintro e w76 ⟨rfl, hb⟩; (try clear A52); have n0_ := Aside0.mk (Kd.R_below (rk_ HO_6) hb); have n1_ := Aside0.mk (Kd.R_below (rk_ HO_8) hb); have n2_ := Aside0.mk (blkb_ BK244 hb); have n3_ := Aside0.mk (below_step bl_ hb); clear HO_6; clear HO_8; clear BK244; clear HB; have HO_6 := n0_; have HO_8 := n1_; have BK244 := n2_; have HB := n3_; clear n0_ n1_ n2_ n3_; (try clear hb); (try clear hb2); (try clear hk); (try clear hi)))
                          have n0_ := Aside0.mk (Kd.R_drew HO_6.out)
                          have n1_ := Aside0.mk (Kd.R_drew HO_8.out)
                          have n2_ := Aside0.mk (blk_drew BK244.out)
                          have n3_ := Aside0.mk (below_drew1 HB.out)
                          clear HO_6
                          clear HO_8
                          clear BK244
                          clear HB
                          have HO_6 := n0_
                          have HO_8 := n1_
                          have BK244 := n2_
                          have HB := n3_
                          clear n0_ n1_ n2_ n3_
                          refine start_ (n := 6) (S := fun w' => w'.cell? ⟨gb244, 0, none⟩ = some (.string a1_0) ∧ w'.cell? ⟨gb244, 1, none⟩ = some (.string a1_1) ∧ w'.cell? ⟨gb244, 2, none⟩ = some (.string a1_2)) (ds := []) (bs 6 0) (by kernel_rfl) rfl rfl ⟨(blk_cell BK244.out 0).trans rfl, (blk_cell BK244.out 1).trans rfl, (blk_cell BK244.out 2).trans rfl⟩ (fun hHeld => ?_)
                          generalize w76.drew = w77 at HO_6 HO_8 BK244 HB hHeld ⊢
                          refine pure_ (i := 0) (N := some 65) (v := ?_) (a' := ?_) (bs 6 1) rfl rfl (by kernel_rfl) (fun _ _ _ h => h) (Or.inl ⟨by rfl, ?_⟩) ?_ ?_
                          rotate_left
                          · intro w'
                            go_simp
                            with_reducible rfl
                          rotate_left
                          · simp only [Act.put, List.setIfInBounds_toArray, List.set_cons_zero, List.set_cons_succ, i64_w, i32_w]
                            rfl
                          refine take_ (i := 2) (N := some 67) (v := ?_) (a' := ?_) (bs 6 5) rfl rfl (by kernel_rfl) (fun _ _ _ h => h) (Or.inl ⟨by rfl, ?_⟩) hHeld ?_ ?_
                          rotate_left
                          · rintro w' ⟨s0, s1, s2⟩
                            go_simp
                            with_reducible rfl
                          rotate_left
                          · simp only [Act.put, List.setIfInBounds_toArray, List.set_cons_zero, List.set_cons_succ, i64_w, i32_w]
                            rfl
                          refine one_ (i := 1) (N := some 66) (bs 6 7) rfl rfl (by kernel_rfl) (by decide) (fun K hK => ?_)
                          refine gr_ Try.func16 #[.slice A0 l0.length c0] (by rfl) ?_ rfl rfl rfl
                          with_reducible refine (laws_toCrossS.calls kj24 _ _ l0 t276 _ ?side1 ?side2 A57.out).mono ?_
                          (case side1 => exact au12_0)
                          (case side2 => exact HC0.out)
                          rintro e w78 ⟨v277, rfl, ho0, hb⟩
                          refine ⟨_, rfl, ?_⟩
                          have n0_ := Aside0.mk (Kd.R_elder' (rk_ HO_6) (Kd.R_base ho0) hb)
                          have n1_ := Aside0.mk (Kd.R_elder' (rk_ HO_8) (Kd.R_base ho0) hb)
                          have n2_ := Aside0.mk (Kd.R_lower (Kd.R_new' (Kd.R_new' ho0 (Kd.R_lt (rk_ HO_6))) (Kd.R_lt (rk_ HO_8))) (below_size bl_))
                          have n3_ := Aside0.mk (blkb_ BK244 hb)
                          have n4_ := Aside0.mk (below_step bl_ hb)
                          clear HO_6
                          clear HO_8
                          clear BK244
                          clear HB
                          have HO_6 := n0_
                          have HO_8 := n1_
                          have HO278 := n2_
                          have BK244 := n3_
                          have HB := n4_
                          clear n0_ n1_ n2_ n3_ n4_
                          (try clear hb)
                          (try clear hb2)
                          (try clear hk)
                          (try clear hi)
                          (try clear ho0)
                          refine hK.out _ _ ⟨(blk_cell BK244.out 0).trans rfl, (blk_cell BK244.out 1).trans rfl, (blk_cell BK244.out 2).trans rfl⟩ (fun hHeld => ?_)
                          clear hK K
                          refine norm_ (a' := ?_) ?_ ?_
                          rotate_left
                          · show Act.put _ (some 66) _ = _
                            simp only [Act.put, List.setIfInBounds_toArray, List.set_cons_zero, List.set_cons_succ, i64_w, i32_w]
                            rfl
                          refine one_ (i := 3) (N := some 68) (bs 6 15) rfl rfl (by kernel_rfl) (by decide) (fun K hK => ?_)
                          refine gr_ Try.func29 #[.agg #[.string a1_0, .string a1_1, .string a1_2]] (by rfl) ?_ rfl rfl rfl
                          with_reducible refine (laws_toCross.calls a1_0 a1_1 a1_2 t279 t280 t281 _ A58.out).mono ?_
                          rintro e w79 ⟨rfl, hb⟩
                          refine ⟨_, rfl, ?_⟩
                          have n0_ := Aside0.mk (Kd.R_below (rk_ HO_6) hb)
                          have n1_ := Aside0.mk (Kd.R_below (rk_ HO_8) hb)
                          have n2_ := Aside0.mk (Kd.R_below (rk_ HO278) hb)
                          have n3_ := Aside0.mk (blkb_ BK244 hb)
                          have n4_ := Aside0.mk (below_step bl_ hb)
                          clear HO_6
                          clear HO_8
                          clear HO278
                          clear BK244
                          clear HB
                          have HO_6 := n0_
                          have HO_8 := n1_
                          have HO278 := n2_
                          have BK244 := n3_
                          have HB := n4_
                          clear n0_ n1_ n2_ n3_ n4_
                          (try clear hb)
                          (try clear hb2)
                          (try clear hk)
                          (try clear hi)
                          obtain ⟨Ao80, co80, eo80⟩ := Kd.R_slice HO278.out
                          (first | subst eo80 | (injection eo80 with f1_ f2_ f3_; have f4_ := f1_.symm; have f5_ := f3_.symm; clear f1_ f2_ f3_; subst f4_; subst f5_))
                          refine hK.out _ _ ⟨(blk_cell BK244.out 0).trans rfl, (blk_cell BK244.out 1).trans rfl, (blk_cell BK244.out 2).trans rfl⟩ (fun hHeld => ?_)
                          clear hK K
                          refine norm_ (a' := ?_) ?_ ?_
                          rotate_left
                          · show Act.put _ (some 68) _ = _
                            simp only [Act.put, List.setIfInBounds_toArray, List.set_cons_zero, List.set_cons_succ, i64_w, i32_w]
                            rfl
                          refine one_ (i := 4) (N := some 69) (bs 6 31) rfl rfl (by kernel_rfl) (by decide) (fun K hK => ?_)
                          refine gr_ Try.func30 #[.slice Ao80 t276.length co80, .agg #[.string t279, .string t280, .string t281]] (by rfl) ?_ rfl rfl rfl
                          with_reducible refine (impl_CrossPut.calls kj24 _ _ t276 t279 t280 t281 t282 _ ?side1 ?side2 A59.out).mono ?_
                          (case side1 => exact au12_9)
                          (case side2 => exact au12_19)
                          rintro e w81 ⟨v283, rfl, ho0, hb⟩
                          refine ⟨_, rfl, ?_⟩
                          have n0_ := Aside0.mk (Kd.R_elder' (rk_ HO_6) (Kd.R_base ho0) hb)
                          have n1_ := Aside0.mk (Kd.R_elder' (rk_ HO_8) (Kd.R_base ho0) hb)
                          have n2_ := Aside0.mk (Kd.R_elder' (rk_ HO278) (Kd.R_base ho0) hb)
                          have n3_ := Aside0.mk (Kd.R_lower (Kd.R_new' (Kd.R_new' (Kd.R_new' ho0 (Kd.R_lt (rk_ HO_6))) (Kd.R_lt (rk_ HO_8))) (Kd.R_lt (rk_ HO278))) (below_size bl_))
                          have n4_ := Aside0.mk (blkb_ BK244 hb)
                          have n5_ := Aside0.mk (below_step bl_ hb)
                          clear HO_6
                          clear HO_8
                          clear HO278
                          clear BK244
                          clear HB
                          have HO_6 := n0_
                          have HO_8 := n1_
                          have HO278 := n2_
                          have HO284 := n3_
                          have BK244 := n4_
                          have HB := n5_
                          clear n0_ n1_ n2_ n3_ n4_ n5_
                          (try clear hb)
                          (try clear hb2)
                          (try clear hk)
                          (try clear hi)
                          (try clear ho0)
                          refine hK.out _ _ ⟨(blk_cell BK244.out 0).trans rfl, (blk_cell BK244.out 1).trans rfl, (blk_cell BK244.out 2).trans rfl⟩ (fun hHeld => ?_)
                          clear hK K
                          refine norm_ (a' := ?_) ?_ ?_
                          rotate_left
                          · show Act.put _ (some 69) _ = _
                            simp only [Act.put, List.setIfInBounds_toArray, List.set_cons_zero, List.set_cons_succ, i64_w, i32_w]
                            rfl
                          refine pure_ (i := 5) (N := some 12) (v := ?_) (a' := ?_) (bs 6 63) rfl rfl (by kernel_rfl) (fun _ _ _ h => h) (Or.inl ⟨by rfl, ?_⟩) ?_ ?_
                          rotate_left
                          · intro w'
                            go_simp
                            with_reducible rfl
                          rotate_left
                          · simp only [Act.put, List.setIfInBounds_toArray, List.set_cons_zero, List.set_cons_succ, i64_w, i32_w]
                            rfl
                          refine done_ (by kernel_rfl) ?_
                          obtain ⟨Ao82, co82, eo82⟩ := Kd.R_slice HO284.out
                          subst eo82
                          try go_wp2_with (first | (go_at_call 18; (with_reducible refine (laws_eqCrossS.calls kj24 _ _ t282 _ _ t253 true _ ?side1 ?side2 ?side3 ?side4 A60.out).mono ?_); (case side1 => exact au12_10); (case side2 => exact au12_20); (case side3 => exact au12_11); (case side4 => exact au12_21); rintro e w83 ⟨rfl, hb⟩; (try clear A60); have n0_ := Aside0.mk (Kd.R_below (rk_ HO_6) hb); have n1_ := Aside0.mk (Kd.R_below (rk_ HO_8) hb); have n2_ := Aside0.mk (Kd.R_below (rk_ HO278) hb); have n3_ := Aside0.mk (Kd.R_below (rk_ HO284) hb); have n4_ := Aside0.mk (blkb_ BK244 hb); have n5_ := Aside0.mk (below_step bl_ hb); clear HO_6; clear HO_8; clear HO278; clear HO284; clear BK244; clear HB; have HO_6 := n0_; have HO_8 := n1_; have HO278 := n2_; have HO284 := n3_; have BK244 := n4_; have HB := n5_; clear n0_ n1_ n2_ n3_ n4_ n5_; (try clear hb); (try clear hb2); (try clear hk); (try clear hi)) | (go_at_call 26; refine calls_of_args (args' := #[.slice Ao40 t274.length co40, .int .i64 1]) au12_5 ?_; (with_reducible refine (laws_heldCrossS.calls kj24 _ _ t274 1 t286 _ ?side1 ?side2 A62.out).mono ?_); (case side1 => exact au12_1); (case side2 => exact au12_4); rintro e w84 ⟨rfl, hb⟩; (try clear A62); have n0_ := Aside0.mk (Kd.R_below (rk_ HO_6) hb); have n1_ := Aside0.mk (Kd.R_below (rk_ HO_8) hb); have n2_ := Aside0.mk (Kd.R_below (rk_ HO278) hb); have n3_ := Aside0.mk (Kd.R_below (rk_ HO284) hb); have n4_ := Aside0.mk (blkb_ BK244 hb); have n5_ := Aside0.mk (below_step bl_ hb); clear HO_6; clear HO_8; clear HO278; clear HO284; clear BK244; clear HB; have HO_6 := n0_; have HO_8 := n1_; have HO278 := n2_; have HO284 := n3_; have BK244 := n4_; have HB := n5_; clear n0_ n1_ n2_ n3_ n4_ n5_; (try clear hb); (try clear hb2); (try clear hk); (try clear hi)))
                          go_ret
                          exact ⟨au12_3, bl_⟩
                        · rw [if_neg c74] at H
                          have c74b0 : (t286 == t273) = false := beq_eq_false_iff_ne.mpr c74
                          have c74b1 : (t286 != t273) = true := bne_iff_ne.mpr c74
                          obtain rfl := Option.some.inj H
                          try go_wp2_with (first | (go_at_call 25; (with_reducible refine (laws_markCrossS.calls kj24 (fun k_ => some k_ = (.slice Ao40 t262.length co40 : Value).ownBlock) (.slice Ao40 t262.length co40) t262 1 t273 t274 w _ ?side1 ?side2 A51.out).mono ?_); (case side1 => exact au12_2); (case side2 => exact Kd.R_tight rfl HO_8.out); rintro e w85 ⟨rfl, hy0, hb, hkp⟩; (try clear A51); have n0_ := Aside0.mk (Kd.R_mono (ok' := fun k_ => some k_ ≠ (.slice Ao40 t262.length co40 : Value).ownBlock) (Kd.R_keptB (HO_6.out) hkp (fun k_ hk_ hs_ => (hk_) hs_)) (fun k_ hk_ => hk_.1)); have n1_ := Aside0.mk (Kd.R_reok rfl hy0 (fun k_ e_ => HO_8.out.1 k_ e_)); have n2_ := Aside0.mk (blk_kept (bk_ BK244) hkp (fun hs_ => (fun e_ => (Kd.R_ne HO_8.out BK244.out (by decide)) e_) hs_)); have n3_ := Aside0.mk (hb); clear HO_6; clear HO_8; clear BK244; clear HB; have HO_6 := n0_; have HO_8 := n1_; have BK244 := n2_; have HB := n3_; clear n0_ n1_ n2_ n3_; (try clear hb); (try clear hkp); (try clear hy0)) | (go_at_call 26; refine calls_of_args (args' := #[.slice Ao40 t274.length co40, .int .i64 1]) au12_5 ?_; (with_reducible refine (laws_heldCrossS.calls kj24 _ _ t274 1 t275 _ ?side1 ?side2 A52.out).mono ?_); (case side1 => exact au12_1); (case side2 => exact au12_4); rintro e w86 ⟨rfl, hb⟩; (try clear A52); have n0_ := Aside0.mk (Kd.R_below (rk_ HO_6) hb); have n1_ := Aside0.mk (Kd.R_below (rk_ HO_8) hb); have n2_ := Aside0.mk (blkb_ BK244 hb); have n3_ := Aside0.mk (below_step bl_ hb); clear HO_6; clear HO_8; clear BK244; clear HB; have HO_6 := n0_; have HO_8 := n1_; have BK244 := n2_; have HB := n3_; clear n0_ n1_ n2_ n3_; (try clear hb); (try clear hb2); (try clear hk); (try clear hi)))
                          have n0_ := Aside0.mk (Kd.R_drew HO_6.out)
                          have n1_ := Aside0.mk (Kd.R_drew HO_8.out)
                          have n2_ := Aside0.mk (blk_drew BK244.out)
                          have n3_ := Aside0.mk (below_drew1 HB.out)
                          clear HO_6
                          clear HO_8
                          clear BK244
                          clear HB
                          have HO_6 := n0_
                          have HO_8 := n1_
                          have BK244 := n2_
                          have HB := n3_
                          clear n0_ n1_ n2_ n3_
                          refine start_ (n := 6) (S := fun w' => w'.cell? ⟨gb244, 0, none⟩ = some (.string a1_0) ∧ w'.cell? ⟨gb244, 1, none⟩ = some (.string a1_1) ∧ w'.cell? ⟨gb244, 2, none⟩ = some (.string a1_2)) (ds := []) (bs 6 0) (by kernel_rfl) rfl rfl ⟨(blk_cell BK244.out 0).trans rfl, (blk_cell BK244.out 1).trans rfl, (blk_cell BK244.out 2).trans rfl⟩ (fun hHeld => ?_)
                          generalize w86.drew = w87 at HO_6 HO_8 BK244 HB hHeld ⊢
                          refine pure_ (i := 0) (N := some 65) (v := ?_) (a' := ?_) (bs 6 1) rfl rfl (by kernel_rfl) (fun _ _ _ h => h) (Or.inl ⟨by rfl, ?_⟩) ?_ ?_
                          rotate_left
                          · intro w'
                            go_simp
                            with_reducible rfl
                          rotate_left
                          · simp only [Act.put, List.setIfInBounds_toArray, List.set_cons_zero, List.set_cons_succ, i64_w, i32_w]
                            rfl
                          refine take_ (i := 2) (N := some 67) (v := ?_) (a' := ?_) (bs 6 5) rfl rfl (by kernel_rfl) (fun _ _ _ h => h) (Or.inl ⟨by rfl, ?_⟩) hHeld ?_ ?_
                          rotate_left
                          · rintro w' ⟨s0, s1, s2⟩
                            go_simp
                            with_reducible rfl
                          rotate_left
                          · simp only [Act.put, List.setIfInBounds_toArray, List.set_cons_zero, List.set_cons_succ, i64_w, i32_w]
                            rfl
                          refine one_ (i := 1) (N := some 66) (bs 6 7) rfl rfl (by kernel_rfl) (by decide) (fun K hK => ?_)
                          refine gr_ Try.func16 #[.slice A0 l0.length c0] (by rfl) ?_ rfl rfl rfl
                          with_reducible refine (laws_toCrossS.calls kj24 _ _ l0 t276 _ ?side1 ?side2 A57.out).mono ?_
                          (case side1 => exact au12_0)
                          (case side2 => exact HC0.out)
                          rintro e w88 ⟨v277, rfl, ho0, hb⟩
                          refine ⟨_, rfl, ?_⟩
                          have n0_ := Aside0.mk (Kd.R_elder' (rk_ HO_6) (Kd.R_base ho0) hb)
                          have n1_ := Aside0.mk (Kd.R_elder' (rk_ HO_8) (Kd.R_base ho0) hb)
                          have n2_ := Aside0.mk (Kd.R_lower (Kd.R_new' (Kd.R_new' ho0 (Kd.R_lt (rk_ HO_6))) (Kd.R_lt (rk_ HO_8))) (below_size bl_))
                          have n3_ := Aside0.mk (blkb_ BK244 hb)
                          have n4_ := Aside0.mk (below_step bl_ hb)
                          clear HO_6
                          clear HO_8
                          clear BK244
                          clear HB
                          have HO_6 := n0_
                          have HO_8 := n1_
                          have HO278 := n2_
                          have BK244 := n3_
                          have HB := n4_
                          clear n0_ n1_ n2_ n3_ n4_
                          (try clear hb)
                          (try clear hb2)
                          (try clear hk)
                          (try clear hi)
                          (try clear ho0)
                          refine hK.out _ _ ⟨(blk_cell BK244.out 0).trans rfl, (blk_cell BK244.out 1).trans rfl, (blk_cell BK244.out 2).trans rfl⟩ (fun hHeld => ?_)
                          clear hK K
                          refine norm_ (a' := ?_) ?_ ?_
                          rotate_left
                          · show Act.put _ (some 66) _ = _
                            simp only [Act.put, List.setIfInBounds_toArray, List.set_cons_zero, List.set_cons_succ, i64_w, i32_w]
                            rfl
                          refine one_ (i := 3) (N := some 68) (bs 6 15) rfl rfl (by kernel_rfl) (by decide) (fun K hK => ?_)
                          refine gr_ Try.func29 #[.agg #[.string a1_0, .string a1_1, .string a1_2]] (by rfl) ?_ rfl rfl rfl
                          with_reducible refine (laws_toCross.calls a1_0 a1_1 a1_2 t279 t280 t281 _ A58.out).mono ?_
                          rintro e w89 ⟨rfl, hb⟩
                          refine ⟨_, rfl, ?_⟩
                          have n0_ := Aside0.mk (Kd.R_below (rk_ HO_6) hb)
                          have n1_ := Aside0.mk (Kd.R_below (rk_ HO_8) hb)
                          have n2_ := Aside0.mk (Kd.R_below (rk_ HO278) hb)
                          have n3_ := Aside0.mk (blkb_ BK244 hb)
                          have n4_ := Aside0.mk (below_step bl_ hb)
                          clear HO_6
                          clear HO_8
                          clear HO278
                          clear BK244
                          clear HB
                          have HO_6 := n0_
                          have HO_8 := n1_
                          have HO278 := n2_
                          have BK244 := n3_
                          have HB := n4_
                          clear n0_ n1_ n2_ n3_ n4_
                          (try clear hb)
                          (try clear hb2)
                          (try clear hk)
                          (try clear hi)
                          obtain ⟨Ao90, co90, eo90⟩ := Kd.R_slice HO278.out
                          (first | subst eo90 | (injection eo90 with f1_ f2_ f3_; have f4_ := f1_.symm; have f5_ := f3_.symm; clear f1_ f2_ f3_; subst f4_; subst f5_))
                          refine hK.out _ _ ⟨(blk_cell BK244.out 0).trans rfl, (blk_cell BK244.out 1).trans rfl, (blk_cell BK244.out 2).trans rfl⟩ (fun hHeld => ?_)
                          clear hK K
                          refine norm_ (a' := ?_) ?_ ?_
                          rotate_left
                          · show Act.put _ (some 68) _ = _
                            simp only [Act.put, List.setIfInBounds_toArray, List.set_cons_zero, List.set_cons_succ, i64_w, i32_w]
                            rfl
                          refine one_ (i := 4) (N := some 69) (bs 6 31) rfl rfl (by kernel_rfl) (by decide) (fun K hK => ?_)
                          refine gr_ Try.func30 #[.slice Ao90 t276.length co90, .agg #[.string t279, .string t280, .string t281]] (by rfl) ?_ rfl rfl rfl
                          with_reducible refine (impl_CrossPut.calls kj24 _ _ t276 t279 t280 t281 t282 _ ?side1 ?side2 A59.out).mono ?_
                          (case side1 => exact au12_9)
                          (case side2 => exact au12_19)
                          rintro e w91 ⟨v283, rfl, ho0, hb⟩
                          refine ⟨_, rfl, ?_⟩
                          have n0_ := Aside0.mk (Kd.R_elder' (rk_ HO_6) (Kd.R_base ho0) hb)
                          have n1_ := Aside0.mk (Kd.R_elder' (rk_ HO_8) (Kd.R_base ho0) hb)
                          have n2_ := Aside0.mk (Kd.R_elder' (rk_ HO278) (Kd.R_base ho0) hb)
                          have n3_ := Aside0.mk (Kd.R_lower (Kd.R_new' (Kd.R_new' (Kd.R_new' ho0 (Kd.R_lt (rk_ HO_6))) (Kd.R_lt (rk_ HO_8))) (Kd.R_lt (rk_ HO278))) (below_size bl_))
                          have n4_ := Aside0.mk (blkb_ BK244 hb)
                          have n5_ := Aside0.mk (below_step bl_ hb)
                          clear HO_6
                          clear HO_8
                          clear HO278
                          clear BK244
                          clear HB
                          have HO_6 := n0_
                          have HO_8 := n1_
                          have HO278 := n2_
                          have HO284 := n3_
                          have BK244 := n4_
                          have HB := n5_
                          clear n0_ n1_ n2_ n3_ n4_ n5_
                          (try clear hb)
                          (try clear hb2)
                          (try clear hk)
                          (try clear hi)
                          (try clear ho0)
                          refine hK.out _ _ ⟨(blk_cell BK244.out 0).trans rfl, (blk_cell BK244.out 1).trans rfl, (blk_cell BK244.out 2).trans rfl⟩ (fun hHeld => ?_)
                          clear hK K
                          refine norm_ (a' := ?_) ?_ ?_
                          rotate_left
                          · show Act.put _ (some 69) _ = _
                            simp only [Act.put, List.setIfInBounds_toArray, List.set_cons_zero, List.set_cons_succ, i64_w, i32_w]
                            rfl
                          refine pure_ (i := 5) (N := some 12) (v := ?_) (a' := ?_) (bs 6 63) rfl rfl (by kernel_rfl) (fun _ _ _ h => h) (Or.inl ⟨by rfl, ?_⟩) ?_ ?_
                          rotate_left
                          · intro w'
                            go_simp
                            with_reducible rfl
                          rotate_left
                          · simp only [Act.put, List.setIfInBounds_toArray, List.set_cons_zero, List.set_cons_succ, i64_w, i32_w]
                            rfl
                          refine done_ (by kernel_rfl) ?_
                          obtain ⟨Ao92, co92, eo92⟩ := Kd.R_slice HO284.out
                          subst eo92
                          try go_wp2_with (first | (go_at_call 18; (with_reducible refine (laws_eqCrossS.calls kj24 _ _ t282 _ _ t253 true _ ?side1 ?side2 ?side3 ?side4 A60.out).mono ?_); (case side1 => exact au12_10); (case side2 => exact au12_20); (case side3 => exact au12_11); (case side4 => exact au12_21); rintro e w93 ⟨rfl, hb⟩; (try clear A60); have n0_ := Aside0.mk (Kd.R_below (rk_ HO_6) hb); have n1_ := Aside0.mk (Kd.R_below (rk_ HO_8) hb); have n2_ := Aside0.mk (Kd.R_below (rk_ HO278) hb); have n3_ := Aside0.mk (Kd.R_below (rk_ HO284) hb); have n4_ := Aside0.mk (blkb_ BK244 hb); have n5_ := Aside0.mk (below_step bl_ hb); clear HO_6; clear HO_8; clear HO278; clear HO284; clear BK244; clear HB; have HO_6 := n0_; have HO_8 := n1_; have HO278 := n2_; have HO284 := n3_; have BK244 := n4_; have HB := n5_; clear n0_ n1_ n2_ n3_ n4_ n5_; (try clear hb); (try clear hb2); (try clear hk); (try clear hi)) | (go_at_call 26; refine calls_of_args (args' := #[.slice Ao40 t274.length co40, .int .i64 1]) au12_5 ?_; (with_reducible refine (laws_heldCrossS.calls kj24 _ _ t274 1 t286 _ ?side1 ?side2 A62.out).mono ?_); (case side1 => exact au12_1); (case side2 => exact au12_4); rintro e w94 ⟨rfl, hb⟩; (try clear A62); have n0_ := Aside0.mk (Kd.R_below (rk_ HO_6) hb); have n1_ := Aside0.mk (Kd.R_below (rk_ HO_8) hb); have n2_ := Aside0.mk (Kd.R_below (rk_ HO278) hb); have n3_ := Aside0.mk (Kd.R_below (rk_ HO284) hb); have n4_ := Aside0.mk (blkb_ BK244 hb); have n5_ := Aside0.mk (below_step bl_ hb); clear HO_6; clear HO_8; clear HO278; clear HO284; clear BK244; clear HB; have HO_6 := n0_; have HO_8 := n1_; have HO278 := n2_; have HO284 := n3_; have BK244 := n4_; have HB := n5_; clear n0_ n1_ n2_ n3_ n4_ n5_; (try clear hb); (try clear hb2); (try clear hk); (try clear hi)))
                          go_ret
                          exact ⟨au12_3, bl_⟩
                    · replace c61 := Bool.eq_false_iff.mpr c61
                      subst c61
                      have H1 : (some false) = some r := by rw [if_neg (show ¬ (false = true) by decide)] at H; exact H
                      clear H
                      have H := H1
                      clear H1
                      obtain rfl := Option.some.inj H
                      try go_wp2_with (first | (go_at_call 25; (with_reducible refine (laws_markCrossS.calls kj24 (fun k_ => some k_ = (.slice Ao40 t262.length co40 : Value).ownBlock) (.slice Ao40 t262.length co40) t262 1 t273 t274 w _ ?side1 ?side2 A51.out).mono ?_); (case side1 => exact au12_2); (case side2 => exact Kd.R_tight rfl HO_8.out); rintro e w95 ⟨rfl, hy0, hb, hkp⟩; (try clear A51); have n0_ := Aside0.mk (Kd.R_mono (ok' := fun k_ => some k_ ≠ (.slice Ao40 t262.length co40 : Value).ownBlock) (Kd.R_keptB (HO_6.out) hkp (fun k_ hk_ hs_ => (hk_) hs_)) (fun k_ hk_ => hk_.1)); have n1_ := Aside0.mk (Kd.R_reok rfl hy0 (fun k_ e_ => HO_8.out.1 k_ e_)); have n2_ := Aside0.mk (blk_kept (bk_ BK244) hkp (fun hs_ => (fun e_ => (Kd.R_ne HO_8.out BK244.out (by decide)) e_) hs_)); have n3_ := Aside0.mk (hb); clear HO_6; clear HO_8; clear BK244; clear HB; have HO_6 := n0_; have HO_8 := n1_; have BK244 := n2_; have HB := n3_; clear n0_ n1_ n2_ n3_; (try clear hb); (try clear hkp); (try clear hy0)) | (go_at_call 26; refine calls_of_args (args' := #[.slice Ao40 t274.length co40, .int .i64 1]) au12_5 ?_; (with_reducible refine (laws_heldCrossS.calls kj24 _ _ t274 1 t275 _ ?side1 ?side2 A52.out).mono ?_); (case side1 => exact au12_1); (case side2 => exact au12_4); rintro e w96 ⟨rfl, hb⟩; (try clear A52); have n0_ := Aside0.mk (Kd.R_below (rk_ HO_6) hb); have n1_ := Aside0.mk (Kd.R_below (rk_ HO_8) hb); have n2_ := Aside0.mk (blkb_ BK244 hb); have n3_ := Aside0.mk (below_step bl_ hb); clear HO_6; clear HO_8; clear BK244; clear HB; have HO_6 := n0_; have HO_8 := n1_; have BK244 := n2_; have HB := n3_; clear n0_ n1_ n2_ n3_; (try clear hb); (try clear hb2); (try clear hk); (try clear hi)))
                      have n0_ := Aside0.mk (Kd.R_drew HO_6.out)
                      have n1_ := Aside0.mk (Kd.R_drew HO_8.out)
                      have n2_ := Aside0.mk (blk_drew BK244.out)
                      have n3_ := Aside0.mk (below_drew1 HB.out)
                      clear HO_6
                      clear HO_8
                      clear BK244
                      clear HB
                      have HO_6 := n0_
                      have HO_8 := n1_
                      have BK244 := n2_
                      have HB := n3_
                      clear n0_ n1_ n2_ n3_
                      refine start_ (n := 6) (S := fun w' => w'.cell? ⟨gb244, 0, none⟩ = some (.string a1_0) ∧ w'.cell? ⟨gb244, 1, none⟩ = some (.string a1_1) ∧ w'.cell? ⟨gb244, 2, none⟩ = some (.string a1_2)) (ds := []) (bs 6 0) (by kernel_rfl) rfl rfl ⟨(blk_cell BK244.out 0).trans rfl, (blk_cell BK244.out 1).trans rfl, (blk_cell BK244.out 2).trans rfl⟩ (fun hHeld => ?_)
                      generalize w96.drew = w97 at HO_6 HO_8 BK244 HB hHeld ⊢
                      refine pure_ (i := 0) (N := some 65) (v := ?_) (a' := ?_) (bs 6 1) rfl rfl (by kernel_rfl) (fun _ _ _ h => h) (Or.inl ⟨by rfl, ?_⟩) ?_ ?_
                      rotate_left
                      · intro w'
                        go_simp
                        with_reducible rfl
                      rotate_left
                      · simp only [Act.put, List.setIfInBounds_toArray, List.set_cons_zero, List.set_cons_succ, i64_w, i32_w]
                        rfl
                      refine take_ (i := 2) (N := some 67) (v := ?_) (a' := ?_) (bs 6 5) rfl rfl (by kernel_rfl) (fun _ _ _ h => h) (Or.inl ⟨by rfl, ?_⟩) hHeld ?_ ?_
                      rotate_left
                      · rintro w' ⟨s0, s1, s2⟩
                        go_simp
                        with_reducible rfl
                      rotate_left
                      · simp only [Act.put, List.setIfInBounds_toArray, List.set_cons_zero, List.set_cons_succ, i64_w, i32_w]
                        rfl
                      refine one_ (i := 1) (N := some 66) (bs 6 7) rfl rfl (by kernel_rfl) (by decide) (fun K hK => ?_)
                      refine gr_ Try.func16 #[.slice A0 l0.length c0] (by rfl) ?_ rfl rfl rfl
                      with_reducible refine (laws_toCrossS.calls kj24 _ _ l0 t276 _ ?side1 ?side2 A57.out).mono ?_
                      (case side1 => exact au12_0)
                      (case side2 => exact HC0.out)
                      rintro e w98 ⟨v277, rfl, ho0, hb⟩
                      refine ⟨_, rfl, ?_⟩
                      have n0_ := Aside0.mk (Kd.R_elder' (rk_ HO_6) (Kd.R_base ho0) hb)
                      have n1_ := Aside0.mk (Kd.R_elder' (rk_ HO_8) (Kd.R_base ho0) hb)
                      have n2_ := Aside0.mk (Kd.R_lower (Kd.R_new' (Kd.R_new' ho0 (Kd.R_lt (rk_ HO_6))) (Kd.R_lt (rk_ HO_8))) (below_size bl_))
                      have n3_ := Aside0.mk (blkb_ BK244 hb)
                      have n4_ := Aside0.mk (below_step bl_ hb)
                      clear HO_6
                      clear HO_8
                      clear BK244
                      clear HB
                      have HO_6 := n0_
                      have HO_8 := n1_
                      have HO278 := n2_
                      have BK244 := n3_
                      have HB := n4_
                      clear n0_ n1_ n2_ n3_ n4_
                      (try clear hb)
                      (try clear hb2)
                      (try clear hk)
                      (try clear hi)
                      (try clear ho0)
                      refine hK.out _ _ ⟨(blk_cell BK244.out 0).trans rfl, (blk_cell BK244.out 1).trans rfl, (blk_cell BK244.out 2).trans rfl⟩ (fun hHeld => ?_)
                      clear hK K
                      refine norm_ (a' := ?_) ?_ ?_
                      rotate_left
                      · show Act.put _ (some 66) _ = _
                        simp only [Act.put, List.setIfInBounds_toArray, List.set_cons_zero, List.set_cons_succ, i64_w, i32_w]
                        rfl
                      refine one_ (i := 3) (N := some 68) (bs 6 15) rfl rfl (by kernel_rfl) (by decide) (fun K hK => ?_)
                      refine gr_ Try.func29 #[.agg #[.string a1_0, .string a1_1, .string a1_2]] (by rfl) ?_ rfl rfl rfl
                      with_reducible refine (laws_toCross.calls a1_0 a1_1 a1_2 t279 t280 t281 _ A58.out).mono ?_
                      rintro e w99 ⟨rfl, hb⟩
                      refine ⟨_, rfl, ?_⟩
                      have n0_ := Aside0.mk (Kd.R_below (rk_ HO_6) hb)
                      have n1_ := Aside0.mk (Kd.R_below (rk_ HO_8) hb)
                      have n2_ := Aside0.mk (Kd.R_below (rk_ HO278) hb)
                      have n3_ := Aside0.mk (blkb_ BK244 hb)
                      have n4_ := Aside0.mk (below_step bl_ hb)
                      clear HO_6
                      clear HO_8
                      clear HO278
                      clear BK244
                      clear HB
                      have HO_6 := n0_
                      have HO_8 := n1_
                      have HO278 := n2_
                      have BK244 := n3_
                      have HB := n4_
                      clear n0_ n1_ n2_ n3_ n4_
                      (try clear hb)
                      (try clear hb2)
                      (try clear hk)
                      (try clear hi)
                      obtain ⟨Ao100, co100, eo100⟩ := Kd.R_slice HO278.out
                      (first | subst eo100 | (injection eo100 with f1_ f2_ f3_; have f4_ := f1_.symm; have f5_ := f3_.symm; clear f1_ f2_ f3_; subst f4_; subst f5_))
                      refine hK.out _ _ ⟨(blk_cell BK244.out 0).trans rfl, (blk_cell BK244.out 1).trans rfl, (blk_cell BK244.out 2).trans rfl⟩ (fun hHeld => ?_)
                      clear hK K
                      refine norm_ (a' := ?_) ?_ ?_
                      rotate_left
                      · show Act.put _ (some 68) _ = _
                        simp only [Act.put, List.setIfInBounds_toArray, List.set_cons_zero, List.set_cons_succ, i64_w, i32_w]
                        rfl
                      refine one_ (i := 4) (N := some 69) (bs 6 31) rfl rfl (by kernel_rfl) (by decide) (fun K hK => ?_)
                      refine gr_ Try.func30 #[.slice Ao100 t276.length co100, .agg #[.string t279, .string t280, .string t281]] (by rfl) ?_ rfl rfl rfl
                      with_reducible refine (impl_CrossPut.calls kj24 _ _ t276 t279 t280 t281 t282 _ ?side1 ?side2 A59.out).mono ?_
                      (case side1 => exact au12_9)
                      (case side2 => exact au12_19)
                      rintro e w101 ⟨v283, rfl, ho0, hb⟩
                      refine ⟨_, rfl, ?_⟩
                      have n0_ := Aside0.mk (Kd.R_elder' (rk_ HO_6) (Kd.R_base ho0) hb)
                      have n1_ := Aside0.mk (Kd.R_elder' (rk_ HO_8) (Kd.R_base ho0) hb)
                      have n2_ := Aside0.mk (Kd.R_elder' (rk_ HO278) (Kd.R_base ho0) hb)
                      have n3_ := Aside0.mk (Kd.R_lower (Kd.R_new' (Kd.R_new' (Kd.R_new' ho0 (Kd.R_lt (rk_ HO_6))) (Kd.R_lt (rk_ HO_8))) (Kd.R_lt (rk_ HO278))) (below_size bl_))
                      have n4_ := Aside0.mk (blkb_ BK244 hb)
                      have n5_ := Aside0.mk (below_step bl_ hb)
                      clear HO_6
                      clear HO_8
                      clear HO278
                      clear BK244
                      clear HB
                      have HO_6 := n0_
                      have HO_8 := n1_
                      have HO278 := n2_
                      have HO284 := n3_
                      have BK244 := n4_
                      have HB := n5_
                      clear n0_ n1_ n2_ n3_ n4_ n5_
                      (try clear hb)
                      (try clear hb2)
                      (try clear hk)
                      (try clear hi)
                      (try clear ho0)
                      refine hK.out _ _ ⟨(blk_cell BK244.out 0).trans rfl, (blk_cell BK244.out 1).trans rfl, (blk_cell BK244.out 2).trans rfl⟩ (fun hHeld => ?_)
                      clear hK K
                      refine norm_ (a' := ?_) ?_ ?_
                      rotate_left
                      · show Act.put _ (some 69) _ = _
                        simp only [Act.put, List.setIfInBounds_toArray, List.set_cons_zero, List.set_cons_succ, i64_w, i32_w]
                        rfl
                      refine pure_ (i := 5) (N := some 12) (v := ?_) (a' := ?_) (bs 6 63) rfl rfl (by kernel_rfl) (fun _ _ _ h => h) (Or.inl ⟨by rfl, ?_⟩) ?_ ?_
                      rotate_left
                      · intro w'
                        go_simp
                        with_reducible rfl
                      rotate_left
                      · simp only [Act.put, List.setIfInBounds_toArray, List.set_cons_zero, List.set_cons_succ, i64_w, i32_w]
                        rfl
                      refine done_ (by kernel_rfl) ?_
                      obtain ⟨Ao102, co102, eo102⟩ := Kd.R_slice HO284.out
                      subst eo102
                      try go_wp2_with (first | (go_at_call 18; (with_reducible refine (laws_eqCrossS.calls kj24 _ _ t282 _ _ t253 false _ ?side1 ?side2 ?side3 ?side4 A60.out).mono ?_); (case side1 => exact au12_10); (case side2 => exact au12_20); (case side3 => exact au12_11); (case side4 => exact au12_21); rintro e w103 ⟨rfl, hb⟩; (try clear A60); have n0_ := Aside0.mk (Kd.R_below (rk_ HO_6) hb); have n1_ := Aside0.mk (Kd.R_below (rk_ HO_8) hb); have n2_ := Aside0.mk (Kd.R_below (rk_ HO278) hb); have n3_ := Aside0.mk (Kd.R_below (rk_ HO284) hb); have n4_ := Aside0.mk (blkb_ BK244 hb); have n5_ := Aside0.mk (below_step bl_ hb); clear HO_6; clear HO_8; clear HO278; clear HO284; clear BK244; clear HB; have HO_6 := n0_; have HO_8 := n1_; have HO278 := n2_; have HO284 := n3_; have BK244 := n4_; have HB := n5_; clear n0_ n1_ n2_ n3_ n4_ n5_; (try clear hb); (try clear hb2); (try clear hk); (try clear hi)))
                      go_ret
                      exact ⟨au12_3, bl_⟩
                  · rw [if_neg c56] at H
                    have c56b0 : (t275 == t273) = false := beq_eq_false_iff_ne.mpr c56
                    have c56b1 : (t275 != t273) = true := bne_iff_ne.mpr c56
                    obtain rfl := Option.some.inj H
                    go_wp2_with (first | (go_at_call 25; (with_reducible refine (laws_markCrossS.calls kj24 (fun k_ => some k_ = (.slice Ao40 t262.length co40 : Value).ownBlock) (.slice Ao40 t262.length co40) t262 1 t273 t274 w _ ?side1 ?side2 A51.out).mono ?_); (case side1 => exact au12_2); (case side2 => exact Kd.R_tight rfl HO_8.out); rintro e w104 ⟨rfl, hy0, hb, hkp⟩; (try clear A51); have n0_ := Aside0.mk (Kd.R_mono (ok' := fun k_ => some k_ ≠ (.slice Ao40 t262.length co40 : Value).ownBlock) (Kd.R_keptB (HO_6.out) hkp (fun k_ hk_ hs_ => (hk_) hs_)) (fun k_ hk_ => hk_.1)); have n1_ := Aside0.mk (Kd.R_reok rfl hy0 (fun k_ e_ => HO_8.out.1 k_ e_)); have n2_ := Aside0.mk (blk_kept (bk_ BK244) hkp (fun hs_ => (fun e_ => (Kd.R_ne HO_8.out BK244.out (by decide)) e_) hs_)); have n3_ := Aside0.mk (hb); clear HO_6; clear HO_8; clear BK244; clear HB; have HO_6 := n0_; have HO_8 := n1_; have BK244 := n2_; have HB := n3_; clear n0_ n1_ n2_ n3_; (try clear hb); (try clear hkp); (try clear hy0)) | (go_at_call 26; refine calls_of_args (args' := #[.slice Ao40 t274.length co40, .int .i64 1]) au12_5 ?_; (with_reducible refine (laws_heldCrossS.calls kj24 _ _ t274 1 t275 _ ?side1 ?side2 A52.out).mono ?_); (case side1 => exact au12_1); (case side2 => exact au12_4); rintro e w105 ⟨rfl, hb⟩; (try clear A52); have n0_ := Aside0.mk (Kd.R_below (rk_ HO_6) hb); have n1_ := Aside0.mk (Kd.R_below (rk_ HO_8) hb); have n2_ := Aside0.mk (blkb_ BK244 hb); have n3_ := Aside0.mk (below_step bl_ hb); clear HO_6; clear HO_8; clear BK244; clear HB; have HO_6 := n0_; have HO_8 := n1_; have BK244 := n2_; have HB := n3_; clear n0_ n1_ n2_ n3_; (try clear hb); (try clear hb2); (try clear hk); (try clear hi)))
                    go_ret
                    exact ⟨au12_3, bl_⟩
        · replace c23 := Bool.eq_false_iff.mpr c23
          subst c23
          have H1 : (some false) = some r := by rw [if_neg (show ¬ (false = true) by decide)] at H; exact H
          clear H
          have H := H1
          clear H1
          obtain rfl := Option.some.inj H
          go_enter Try.func7, Try.ntmps7
          try go_wp2_with (first | ((with_reducible refine gate_dst (N := 3) rfl ?_); refine box_event ?hg (N := 3) ?hd (cs := #[.string a1_0, .string a1_1, .string a1_2]) (t := 34) ?hr ?_; (case hd => rfl); (case hg => rfl); (case hr => exact hr_); intro gb244 hg w106 hbox hb; have n0_ := Aside0.mk (below_step bl_ hb); have n1_ := Aside0.mk (hbox); have n2_ := Aside0.mk (gw_ hg bl_); have n3_ := Aside0.mk (gw_ hg bl_); clear HB; have HB := n0_; have BK244 := n1_; have GW244 := n2_; have GE244 := n3_; clear n0_ n1_ n2_ n3_; clear hb hbox hg) | (go_at_call 14; (with_reducible refine (laws_szCrossS.calls k _ _ l0 1048576 t245 _ ?side1 ?side2 A3.out).mono ?_); (case side1 => exact au12_0); (case side2 => exact HC0.out); rintro e w107 ⟨rfl, hb⟩; (try clear A3); have n0_ := Aside0.mk (blkb_ BK244 hb); have n1_ := Aside0.mk (below_step bl_ hb); clear BK244; clear HB; have BK244 := n0_; have HB := n1_; clear n0_ n1_; (try clear hb); (try clear hb2); (try clear hk); (try clear hi); obtain ⟨hcz108_0, hcz108_1, hcz108_2, hfz108_0, hfz108_1, hfz108_2⟩ := cellsF3 BK244.out) | (go_at_call 27; (with_reducible refine (laws_szCross.calls a1_0 a1_1 a1_2 t245 t246 _ A7.out).mono ?_); rintro e w109 ⟨rfl, hb⟩; (try clear A7); have n0_ := Aside0.mk (blkb_ BK244 hb); have n1_ := Aside0.mk (below_step bl_ hb); clear BK244; clear HB; have BK244 := n0_; have HB := n1_; clear n0_ n1_; (try clear hb); (try clear hb2); (try clear hk); (try clear hi)))
          have n0_ := Aside0.mk (blk_drew BK244.out)
          have n1_ := Aside0.mk (below_drew1 HB.out)
          clear BK244
          clear HB
          have BK244 := n0_
          have HB := n1_
          clear n0_ n1_
          refine start_ (n := 6) (S := fun w' => w'.cell? ⟨gb244, 0, none⟩ = some (.string a1_0) ∧ w'.cell? ⟨gb244, 1, none⟩ = some (.string a1_1) ∧ w'.cell? ⟨gb244, 2, none⟩ = some (.string a1_2)) (ds := []) (bs 6 0) (by kernel_rfl) rfl rfl ⟨(blk_cell BK244.out 0).trans rfl, (blk_cell BK244.out 1).trans rfl, (blk_cell BK244.out 2).trans rfl⟩ (fun hHeld => ?_)
          generalize w109.drew = w110 at BK244 HB hHeld ⊢
          refine pure_ (i := 0) (N := some 23) (v := ?_) (a' := ?_) (bs 6 1) rfl rfl (by kernel_rfl) (fun _ _ _ h => h) (Or.inl ⟨by rfl, ?_⟩) ?_ ?_
          rotate_left
          · intro w'
            go_simp
            with_reducible rfl
          rotate_left
          · simp only [Act.put, List.setIfInBounds_toArray, List.set_cons_zero, List.set_cons_succ, i64_w, i32_w]
            rfl
          refine take_ (i := 2) (N := some 25) (v := ?_) (a' := ?_) (bs 6 5) rfl rfl (by kernel_rfl) (fun _ _ _ h => h) (Or.inl ⟨by rfl, ?_⟩) hHeld ?_ ?_
          rotate_left
          · rintro w' ⟨s0, s1, s2⟩
            go_simp
            with_reducible rfl
          rotate_left
          · simp only [Act.put, List.setIfInBounds_toArray, List.set_cons_zero, List.set_cons_succ, i64_w, i32_w]
            rfl
          refine one_ (i := 1) (N := some 24) (bs 6 7) rfl rfl (by kernel_rfl) (by decide) (fun K hK => ?_)
          refine gr_ Try.func16 #[.slice A0 l0.length c0] (by rfl) ?_ rfl rfl rfl
          with_reducible refine (laws_toCrossS.calls k _ _ l0 t247 _ ?side1 ?side2 A13.out).mono ?_
          (case side1 => exact au12_0)
          (case side2 => exact HC0.out)
          rintro e w111 ⟨v248, rfl, ho0, hb⟩
          refine ⟨_, rfl, ?_⟩
          have n0_ := Aside0.mk (Kd.R_lower ho0 (below_size bl_))
          have n1_ := Aside0.mk (blkb_ BK244 hb)
          have n2_ := Aside0.mk (below_step bl_ hb)
          clear BK244
          clear HB
          have HO249 := n0_
          have BK244 := n1_
          have HB := n2_
          clear n0_ n1_ n2_
          (try clear hb)
          (try clear hb2)
          (try clear hk)
          (try clear hi)
          (try clear ho0)
          refine hK.out _ _ ⟨(blk_cell BK244.out 0).trans rfl, (blk_cell BK244.out 1).trans rfl, (blk_cell BK244.out 2).trans rfl⟩ (fun hHeld => ?_)
          clear hK K
          refine norm_ (a' := ?_) ?_ ?_
          rotate_left
          · show Act.put _ (some 24) _ = _
            simp only [Act.put, List.setIfInBounds_toArray, List.set_cons_zero, List.set_cons_succ, i64_w, i32_w]
            rfl
          refine one_ (i := 3) (N := some 26) (bs 6 15) rfl rfl (by kernel_rfl) (by decide) (fun K hK => ?_)
          refine gr_ Try.func29 #[.agg #[.string a1_0, .string a1_1, .string a1_2]] (by rfl) ?_ rfl rfl rfl
          with_reducible refine (laws_toCross.calls a1_0 a1_1 a1_2 t250 t251 t252 _ A14.out).mono ?_
          rintro e w112 ⟨rfl, hb⟩
          refine ⟨_, rfl, ?_⟩
          have n0_ := Aside0.mk (Kd.R_below (rk_ HO249) hb)
          have n1_ := Aside0.mk (blkb_ BK244 hb)
          have n2_ := Aside0.mk (below_step bl_ hb)
          clear HO249
          clear BK244
          clear HB
          have HO249 := n0_
          have BK244 := n1_
          have HB := n2_
          clear n0_ n1_ n2_
          (try clear hb)
          (try clear hb2)
          (try clear hk)
          (try clear hi)
          obtain ⟨Ao113, co113, eo113⟩ := Kd.R_slice HO249.out
          (first | subst eo113 | (injection eo113 with f1_ f2_ f3_; have f4_ := f1_.symm; have f5_ := f3_.symm; clear f1_ f2_ f3_; subst f4_; subst f5_))
          refine hK.out _ _ ⟨(blk_cell BK244.out 0).trans rfl, (blk_cell BK244.out 1).trans rfl, (blk_cell BK244.out 2).trans rfl⟩ (fun hHeld => ?_)
          clear hK K
          refine norm_ (a' := ?_) ?_ ?_
          rotate_left
          · show Act.put _ (some 26) _ = _
            simp only [Act.put, List.setIfInBounds_toArray, List.set_cons_zero, List.set_cons_succ, i64_w, i32_w]
            rfl
          refine one_ (i := 4) (N := some 27) (bs 6 31) rfl rfl (by kernel_rfl) (by decide) (fun K hK => ?_)
          refine gr_ Try.func28 #[.slice Ao113 t247.length co113, .agg #[.string t250, .string t251, .string t252]] (by rfl) ?_ rfl rfl rfl
          with_reducible refine (spec_CrossPut.calls k _ _ t247 t250 t251 t252 t253 _ ?side1 ?side2 A15.out).mono ?_
          (case side1 => exact au12_12)
          (case side2 => exact (Kd.R_reads' HO249.out).2.1)
          rintro e w114 ⟨v254, rfl, ho0, hb⟩
          refine ⟨_, rfl, ?_⟩
          have n0_ := Aside0.mk (Kd.R_elder' (rk_ HO249) (Kd.R_base ho0) hb)
          have n1_ := Aside0.mk (Kd.R_lower (Kd.R_new' ho0 (Kd.R_lt (rk_ HO249))) (below_size bl_))
          have n2_ := Aside0.mk (blkb_ BK244 hb)
          have n3_ := Aside0.mk (below_step bl_ hb)
          clear HO249
          clear BK244
          clear HB
          have HO249 := n0_
          have HO255 := n1_
          have BK244 := n2_
          have HB := n3_
          clear n0_ n1_ n2_ n3_
          (try clear hb)
          (try clear hb2)
          (try clear hk)
          (try clear hi)
          (try clear ho0)
          refine hK.out _ _ ⟨(blk_cell BK244.out 0).trans rfl, (blk_cell BK244.out 1).trans rfl, (blk_cell BK244.out 2).trans rfl⟩ (fun hHeld => ?_)
          clear hK K
          refine norm_ (a' := ?_) ?_ ?_
          rotate_left
          · show Act.put _ (some 27) _ = _
            simp only [Act.put, List.setIfInBounds_toArray, List.set_cons_zero, List.set_cons_succ, i64_w, i32_w]
            rfl
          refine pure_ (i := 5) (N := some 6) (v := ?_) (a' := ?_) (bs 6 63) rfl rfl (by kernel_rfl) (fun _ _ _ h => h) (Or.inl ⟨by rfl, ?_⟩) ?_ ?_
          rotate_left
          · intro w'
            go_simp
            with_reducible rfl
          rotate_left
          · simp only [Act.put, List.setIfInBounds_toArray, List.set_cons_zero, List.set_cons_succ, i64_w, i32_w]
            rfl
          refine done_ (by kernel_rfl) ?_
          try go_wp2_with (first | (go_at_call 16; (with_reducible refine (laws_toCrossS.calls k _ _ l0 t256 _ ?side1 ?side2 A16.out).mono ?_); (case side1 => exact au12_0); (case side2 => exact HC0.out); rintro e w115 ⟨v257, rfl, ho0, hb⟩; (try clear A16); have n0_ := Aside0.mk (Kd.R_elder' (rk_ HO249) (Kd.R_base ho0) hb); have n1_ := Aside0.mk (Kd.R_elder' (rk_ HO255) (Kd.R_base ho0) hb); have n2_ := Aside0.mk (Kd.R_lower (Kd.R_new' (Kd.R_new' ho0 (Kd.R_lt (rk_ HO249))) (Kd.R_lt (rk_ HO255))) (below_size bl_)); have n3_ := Aside0.mk (blkb_ BK244 hb); have n4_ := Aside0.mk (below_step bl_ hb); clear HO249; clear HO255; clear BK244; clear HB; have HO249 := n0_; have HO255 := n1_; have HO258 := n2_; have BK244 := n3_; have HB := n4_; clear n0_ n1_ n2_ n3_ n4_; (try clear hb); (try clear hb2); (try clear hk); (try clear hi); (try clear ho0); obtain ⟨hcz116_0, hcz116_1, hcz116_2, hfz116_0, hfz116_1, hfz116_2⟩ := cellsF3 BK244.out) | (go_at_call 29; (with_reducible refine (laws_toCross.calls a1_0 a1_1 a1_2 t259 t260 t261 _ A17.out).mono ?_); rintro e w117 ⟨rfl, hb⟩; (try clear A17); have n0_ := Aside0.mk (Kd.R_below (rk_ HO249) hb); have n1_ := Aside0.mk (Kd.R_below (rk_ HO255) hb); have n2_ := Aside0.mk (Kd.R_below (rk_ HO258) hb); have n3_ := Aside0.mk (blkb_ BK244 hb); have n4_ := Aside0.mk (below_step bl_ hb); clear HO249; clear HO255; clear HO258; clear BK244; clear HB; have HO249 := n0_; have HO255 := n1_; have HO258 := n2_; have BK244 := n3_; have HB := n4_; clear n0_ n1_ n2_ n3_ n4_; (try clear hb); (try clear hb2); (try clear hk); (try clear hi); obtain ⟨Ao118, co118, eo118⟩ := Kd.R_slice HO258.out; subst eo118) | (go_at_call 30; (with_reducible refine (impl_CrossPut.calls k _ _ t256 t259 t260 t261 t262 _ ?side1 ?side2 A18.out).mono ?_); (case side1 => exact au12_6); (case side2 => exact au12_16); rintro e w119 ⟨v263, rfl, ho0, hb⟩; (try clear A18); have n0_ := Aside0.mk (Kd.R_elder' (rk_ HO249) (Kd.R_base ho0) hb); have n1_ := Aside0.mk (Kd.R_elder' (rk_ HO255) (Kd.R_base ho0) hb); have n2_ := Aside0.mk (Kd.R_elder' (rk_ HO258) (Kd.R_base ho0) hb); have n3_ := Aside0.mk (Kd.R_lower (Kd.R_new' (Kd.R_new' (Kd.R_new' ho0 (Kd.R_lt (rk_ HO249))) (Kd.R_lt (rk_ HO255))) (Kd.R_lt (rk_ HO258))) (below_size bl_)); have n4_ := Aside0.mk (blkb_ BK244 hb); have n5_ := Aside0.mk (below_step bl_ hb); clear HO249; clear HO255; clear HO258; clear BK244; clear HB; have HO249 := n0_; have HO255 := n1_; have HO258 := n2_; have HO264 := n3_; have BK244 := n4_; have HB := n5_; clear n0_ n1_ n2_ n3_ n4_ n5_; (try clear hb); (try clear hb2); (try clear hk); (try clear hi); (try clear ho0); obtain ⟨Ao120, co120, eo120⟩ := Kd.R_slice HO264.out; subst eo120; obtain ⟨Ao121, co121, eo121⟩ := Kd.R_slice HO255.out; subst eo121) | (go_at_call 18; (with_reducible refine (laws_eqCrossS.calls k _ _ t262 _ _ t253 true _ ?side1 ?side2 ?side3 ?side4 A19.out).mono ?_); (case side1 => exact au12_7); (case side2 => exact au12_17); (case side3 => exact au12_8); (case side4 => exact au12_18); rintro e w122 ⟨rfl, hb⟩; (try clear A19); have n0_ := Aside0.mk (Kd.R_below (rk_ HO249) hb); have n1_ := Aside0.mk (Kd.R_below (rk_ HO255) hb); have n2_ := Aside0.mk (Kd.R_below (rk_ HO258) hb); have n3_ := Aside0.mk (Kd.R_below (rk_ HO264) hb); have n4_ := Aside0.mk (blkb_ BK244 hb); have n5_ := Aside0.mk (below_step bl_ hb); clear HO249; clear HO255; clear HO258; clear HO264; clear BK244; clear HB; have HO249 := n0_; have HO255 := n1_; have HO258 := n2_; have HO264 := n3_; have BK244 := n4_; have HB := n5_; clear n0_ n1_ n2_ n3_ n4_ n5_; (try clear hb); (try clear hb2); (try clear hk); (try clear hi)) | (go_at_call 16; (with_reducible refine (laws_toCrossS.calls k _ _ l0 t266 _ ?side1 ?side2 A21.out).mono ?_); (case side1 => exact au12_0); (case side2 => exact HC0.out); rintro e w123 ⟨v267, rfl, ho0, hb⟩; (try clear A21); have n0_ := Aside0.mk (Kd.R_elder' (rk_ HO249) (Kd.R_base ho0) hb); have n1_ := Aside0.mk (Kd.R_elder' (rk_ HO255) (Kd.R_base ho0) hb); have n2_ := Aside0.mk (Kd.R_elder' (rk_ HO258) (Kd.R_base ho0) hb); have n3_ := Aside0.mk (Kd.R_elder' (rk_ HO264) (Kd.R_base ho0) hb); have n4_ := Aside0.mk (Kd.R_lower (Kd.R_new' (Kd.R_new' (Kd.R_new' (Kd.R_new' ho0 (Kd.R_lt (rk_ HO249))) (Kd.R_lt (rk_ HO255))) (Kd.R_lt (rk_ HO258))) (Kd.R_lt (rk_ HO264))) (below_size bl_)); have n5_ := Aside0.mk (blkb_ BK244 hb); have n6_ := Aside0.mk (below_step bl_ hb); clear HO249; clear HO255; clear HO258; clear HO264; clear BK244; clear HB; have HO249 := n0_; have HO255 := n1_; have HO258 := n2_; have HO264 := n3_; have HO268 := n4_; have BK244 := n5_; have HB := n6_; clear n0_ n1_ n2_ n3_ n4_ n5_ n6_; (try clear hb); (try clear hb2); (try clear hk); (try clear hi); (try clear ho0); obtain ⟨Ao124, co124, eo124⟩ := Kd.R_slice HO268.out; subst eo124) | (go_at_call 18; (with_reducible refine (laws_eqCrossS.calls k _ _ t256 _ _ t266 false _ ?side1 ?side2 ?side3 ?side4 A22.out).mono ?_); (case side1 => exact au12_6); (case side2 => exact au12_16); (case side3 => exact au12_13); (case side4 => exact (Kd.R_reads' HO268.out).2.1); rintro e w125 ⟨rfl, hb⟩; (try clear A22); have n0_ := Aside0.mk (Kd.R_below (rk_ HO249) hb); have n1_ := Aside0.mk (Kd.R_below (rk_ HO255) hb); have n2_ := Aside0.mk (Kd.R_below (rk_ HO258) hb); have n3_ := Aside0.mk (Kd.R_below (rk_ HO264) hb); have n4_ := Aside0.mk (Kd.R_below (rk_ HO268) hb); have n5_ := Aside0.mk (blkb_ BK244 hb); have n6_ := Aside0.mk (below_step bl_ hb); clear HO249; clear HO255; clear HO258; clear HO264; clear HO268; clear BK244; clear HB; have HO249 := n0_; have HO255 := n1_; have HO258 := n2_; have HO264 := n3_; have HO268 := n4_; have BK244 := n5_; have HB := n6_; clear n0_ n1_ n2_ n3_ n4_ n5_ n6_; (try clear hb); (try clear hb2); (try clear hk); (try clear hi)))
          go_ret
          exact ⟨au12_3, bl_⟩
      · replace c20 := Bool.eq_false_iff.mpr c20
        subst c20
        have H1 : (some false) = some r := by rw [if_neg (show ¬ (false = true) by decide)] at H; exact H
        clear H
        have H := H1
        clear H1
        obtain rfl := Option.some.inj H
        go_enter Try.func7, Try.ntmps7
        try go_wp2_with (first | ((with_reducible refine gate_dst (N := 3) rfl ?_); refine box_event ?hg (N := 3) ?hd (cs := #[.string a1_0, .string a1_1, .string a1_2]) (t := 34) ?hr ?_; (case hd => rfl); (case hg => rfl); (case hr => exact hr_); intro gb244 hg w126 hbox hb; have n0_ := Aside0.mk (below_step bl_ hb); have n1_ := Aside0.mk (hbox); have n2_ := Aside0.mk (gw_ hg bl_); have n3_ := Aside0.mk (gw_ hg bl_); clear HB; have HB := n0_; have BK244 := n1_; have GW244 := n2_; have GE244 := n3_; clear n0_ n1_ n2_ n3_; clear hb hbox hg) | (go_at_call 14; (with_reducible refine (laws_szCrossS.calls k _ _ l0 1048576 t245 _ ?side1 ?side2 A3.out).mono ?_); (case side1 => exact au12_0); (case side2 => exact HC0.out); rintro e w127 ⟨rfl, hb⟩; (try clear A3); have n0_ := Aside0.mk (blkb_ BK244 hb); have n1_ := Aside0.mk (below_step bl_ hb); clear BK244; clear HB; have BK244 := n0_; have HB := n1_; clear n0_ n1_; (try clear hb); (try clear hb2); (try clear hk); (try clear hi); obtain ⟨hcz128_0, hcz128_1, hcz128_2, hfz128_0, hfz128_1, hfz128_2⟩ := cellsF3 BK244.out) | (go_at_call 27; (with_reducible refine (laws_szCross.calls a1_0 a1_1 a1_2 t245 t246 _ A7.out).mono ?_); rintro e w129 ⟨rfl, hb⟩; (try clear A7); have n0_ := Aside0.mk (blkb_ BK244 hb); have n1_ := Aside0.mk (below_step bl_ hb); clear BK244; clear HB; have BK244 := n0_; have HB := n1_; clear n0_ n1_; (try clear hb); (try clear hb2); (try clear hk); (try clear hi)))
        have n0_ := Aside0.mk (blk_drew BK244.out)
        have n1_ := Aside0.mk (below_drew1 HB.out)
        clear BK244
        clear HB
        have BK244 := n0_
        have HB := n1_
        clear n0_ n1_
        refine start_ (n := 6) (S := fun w' => w'.cell? ⟨gb244, 0, none⟩ = some (.string a1_0) ∧ w'.cell? ⟨gb244, 1, none⟩ = some (.string a1_1) ∧ w'.cell? ⟨gb244, 2, none⟩ = some (.string a1_2)) (ds := []) (bs 6 0) (by kernel_rfl) rfl rfl ⟨(blk_cell BK244.out 0).trans rfl, (blk_cell BK244.out 1).trans rfl, (blk_cell BK244.out 2).trans rfl⟩ (fun hHeld => ?_)
        generalize w129.drew = w130 at BK244 HB hHeld ⊢
        refine pure_ (i := 0) (N := some 23) (v := ?_) (a' := ?_) (bs 6 1) rfl rfl (by kernel_rfl) (fun _ _ _ h => h) (Or.inl ⟨by rfl, ?_⟩) ?_ ?_
        rotate_left
        · intro w'
          go_simp
          with_reducible rfl
        rotate_left
        · simp only [Act.put, List.setIfInBounds_toArray, List.set_cons_zero, List.set_cons_succ, i64_w, i32_w]
          rfl
        refine take_ (i := 2) (N := some 25) (v := ?_) (a' := ?_) (bs 6 5) rfl rfl (by kernel_rfl) (fun _ _ _ h => h) (Or.inl ⟨by rfl, ?_⟩) hHeld ?_ ?_
        rotate_left
        · rintro w' ⟨s0, s1, s2⟩
          go_simp
          with_reducible rfl
        rotate_left
        · simp only [Act.put, List.setIfInBounds_toArray, List.set_cons_zero, List.set_cons_succ, i64_w, i32_w]
          rfl
        refine one_ (i := 1) (N := some 24) (bs 6 7) rfl rfl (by kernel_rfl) (by decide) (fun K hK => ?_)
        refine gr_ Try.func16 #[.slice A0 l0.length c0] (by rfl) ?_ rfl rfl rfl
        with_reducible refine (laws_toCrossS.calls k _ _ l0 t247 _ ?side1 ?side2 A13.out).mono ?_
        (case side1 => exact au12_0)
        (case side2 => exact HC0.out)
        rintro e w131 ⟨v248, rfl, ho0, hb⟩
        refine ⟨_, rfl, ?_⟩
        have n0_ := Aside0.mk (Kd.R_lower ho0 (below_size bl_))
        have n1_ := Aside0.mk (blkb_ BK244 hb)
        have n2_ := Aside0.mk (below_step bl_ hb)
        clear BK244
        clear HB
        have HO249 := n0_
        have BK244 := n1_
        have HB := n2_
        clear n0_ n1_ n2_
        (try clear hb)
        (try clear hb2)
        (try clear hk)
        (try clear hi)
        (try clear ho0)
        refine hK.out _ _ ⟨(blk_cell BK244.out 0).trans rfl, (blk_cell BK244.out 1).trans rfl, (blk_cell BK244.out 2).trans rfl⟩ (fun hHeld => ?_)
        clear hK K
        refine norm_ (a' := ?_) ?_ ?_
        rotate_left
        · show Act.put _ (some 24) _ = _
          simp only [Act.put, List.setIfInBounds_toArray, List.set_cons_zero, List.set_cons_succ, i64_w, i32_w]
          rfl
        refine one_ (i := 3) (N := some 26) (bs 6 15) rfl rfl (by kernel_rfl) (by decide) (fun K hK => ?_)
        refine gr_ Try.func29 #[.agg #[.string a1_0, .string a1_1, .string a1_2]] (by rfl) ?_ rfl rfl rfl
        with_reducible refine (laws_toCross.calls a1_0 a1_1 a1_2 t250 t251 t252 _ A14.out).mono ?_
        rintro e w132 ⟨rfl, hb⟩
        refine ⟨_, rfl, ?_⟩
        have n0_ := Aside0.mk (Kd.R_below (rk_ HO249) hb)
        have n1_ := Aside0.mk (blkb_ BK244 hb)
        have n2_ := Aside0.mk (below_step bl_ hb)
        clear HO249
        clear BK244
        clear HB
        have HO249 := n0_
        have BK244 := n1_
        have HB := n2_
        clear n0_ n1_ n2_
        (try clear hb)
        (try clear hb2)
        (try clear hk)
        (try clear hi)
        obtain ⟨Ao133, co133, eo133⟩ := Kd.R_slice HO249.out
        (first | subst eo133 | (injection eo133 with f1_ f2_ f3_; have f4_ := f1_.symm; have f5_ := f3_.symm; clear f1_ f2_ f3_; subst f4_; subst f5_))
        refine hK.out _ _ ⟨(blk_cell BK244.out 0).trans rfl, (blk_cell BK244.out 1).trans rfl, (blk_cell BK244.out 2).trans rfl⟩ (fun hHeld => ?_)
        clear hK K
        refine norm_ (a' := ?_) ?_ ?_
        rotate_left
        · show Act.put _ (some 26) _ = _
          simp only [Act.put, List.setIfInBounds_toArray, List.set_cons_zero, List.set_cons_succ, i64_w, i32_w]
          rfl
        refine one_ (i := 4) (N := some 27) (bs 6 31) rfl rfl (by kernel_rfl) (by decide) (fun K hK => ?_)
        refine gr_ Try.func28 #[.slice Ao133 t247.length co133, .agg #[.string t250, .string t251, .string t252]] (by rfl) ?_ rfl rfl rfl
        with_reducible refine (spec_CrossPut.calls k _ _ t247 t250 t251 t252 t253 _ ?side1 ?side2 A15.out).mono ?_
        (case side1 => exact au12_12)
        (case side2 => exact (Kd.R_reads' HO249.out).2.1)
        rintro e w134 ⟨v254, rfl, ho0, hb⟩
        refine ⟨_, rfl, ?_⟩
        have n0_ := Aside0.mk (Kd.R_elder' (rk_ HO249) (Kd.R_base ho0) hb)
        have n1_ := Aside0.mk (Kd.R_lower (Kd.R_new' ho0 (Kd.R_lt (rk_ HO249))) (below_size bl_))
        have n2_ := Aside0.mk (blkb_ BK244 hb)
        have n3_ := Aside0.mk (below_step bl_ hb)
        clear HO249
        clear BK244
        clear HB
        have HO249 := n0_
        have HO255 := n1_
        have BK244 := n2_
        have HB := n3_
        clear n0_ n1_ n2_ n3_
        (try clear hb)
        (try clear hb2)
        (try clear hk)
        (try clear hi)
        (try clear ho0)
        refine hK.out _ _ ⟨(blk_cell BK244.out 0).trans rfl, (blk_cell BK244.out 1).trans rfl, (blk_cell BK244.out 2).trans rfl⟩ (fun hHeld => ?_)
        clear hK K
        refine norm_ (a' := ?_) ?_ ?_
        rotate_left
        · show Act.put _ (some 27) _ = _
          simp only [Act.put, List.setIfInBounds_toArray, List.set_cons_zero, List.set_cons_succ, i64_w, i32_w]
          rfl
        refine pure_ (i := 5) (N := some 6) (v := ?_) (a' := ?_) (bs 6 63) rfl rfl (by kernel_rfl) (fun _ _ _ h => h) (Or.inl ⟨by rfl, ?_⟩) ?_ ?_
        rotate_left
        · intro w'
          go_simp
          with_reducible rfl
        rotate_left
        · simp only [Act.put, List.setIfInBounds_toArray, List.set_cons_zero, List.set_cons_succ, i64_w, i32_w]
          rfl
        refine done_ (by kernel_rfl) ?_
        try go_wp2_with (first | (go_at_call 16; (with_reducible refine (laws_toCrossS.calls k _ _ l0 t256 _ ?side1 ?side2 A16.out).mono ?_); (case side1 => exact au12_0); (case side2 => exact HC0.out); rintro e w135 ⟨v257, rfl, ho0, hb⟩; (try clear A16); have n0_ := Aside0.mk (Kd.R_elder' (rk_ HO249) (Kd.R_base ho0) hb); have n1_ := Aside0.mk (Kd.R_elder' (rk_ HO255) (Kd.R_base ho0) hb); have n2_ := Aside0.mk (Kd.R_lower (Kd.R_new' (Kd.R_new' ho0 (Kd.R_lt (rk_ HO249))) (Kd.R_lt (rk_ HO255))) (below_size bl_)); have n3_ := Aside0.mk (blkb_ BK244 hb); have n4_ := Aside0.mk (below_step bl_ hb); clear HO249; clear HO255; clear BK244; clear HB; have HO249 := n0_; have HO255 := n1_; have HO258 := n2_; have BK244 := n3_; have HB := n4_; clear n0_ n1_ n2_ n3_ n4_; (try clear hb); (try clear hb2); (try clear hk); (try clear hi); (try clear ho0); obtain ⟨hcz136_0, hcz136_1, hcz136_2, hfz136_0, hfz136_1, hfz136_2⟩ := cellsF3 BK244.out) | (go_at_call 29; (with_reducible refine (laws_toCross.calls a1_0 a1_1 a1_2 t259 t260 t261 _ A17.out).mono ?_); rintro e w137 ⟨rfl, hb⟩; (try clear A17); have n0_ := Aside0.mk (Kd.R_below (rk_ HO249) hb); have n1_ := Aside0.mk (Kd.R_below (rk_ HO255) hb); have n2_ := Aside0.mk (Kd.R_below (rk_ HO258) hb); have n3_ := Aside0.mk (blkb_ BK244 hb); have n4_ := Aside0.mk (below_step bl_ hb); clear HO249; clear HO255; clear HO258; clear BK244; clear HB; have HO249 := n0_; have HO255 := n1_; have HO258 := n2_; have BK244 := n3_; have HB := n4_; clear n0_ n1_ n2_ n3_ n4_; (try clear hb); (try clear hb2); (try clear hk); (try clear hi); obtain ⟨Ao138, co138, eo138⟩ := Kd.R_slice HO258.out; subst eo138) | (go_at_call 30; (with_reducible refine (impl_CrossPut.calls k _ _ t256 t259 t260 t261 t262 _ ?side1 ?side2 A18.out).mono ?_); (case side1 => exact au12_6); (case side2 => exact au12_16); rintro e w139 ⟨v263, rfl, ho0, hb⟩; (try clear A18); have n0_ := Aside0.mk (Kd.R_elder' (rk_ HO249) (Kd.R_base ho0) hb); have n1_ := Aside0.mk (Kd.R_elder' (rk_ HO255) (Kd.R_base ho0) hb); have n2_ := Aside0.mk (Kd.R_elder' (rk_ HO258) (Kd.R_base ho0) hb); have n3_ := Aside0.mk (Kd.R_lower (Kd.R_new' (Kd.R_new' (Kd.R_new' ho0 (Kd.R_lt (rk_ HO249))) (Kd.R_lt (rk_ HO255))) (Kd.R_lt (rk_ HO258))) (below_size bl_)); have n4_ := Aside0.mk (blkb_ BK244 hb); have n5_ := Aside0.mk (below_step bl_ hb); clear HO249; clear HO255; clear HO258; clear BK244; clear HB; have HO249 := n0_; have HO255 := n1_; have HO258 := n2_; have HO264 := n3_; have BK244 := n4_; have HB := n5_; clear n0_ n1_ n2_ n3_ n4_ n5_; (try clear hb); (try clear hb2); (try clear hk); (try clear hi); (try clear ho0); obtain ⟨Ao140, co140, eo140⟩ := Kd.R_slice HO264.out; subst eo140; obtain ⟨Ao141, co141, eo141⟩ := Kd.R_slice HO255.out; subst eo141) | (go_at_call 18; (with_reducible refine (laws_eqCrossS.calls k _ _ t262 _ _ t253 false _ ?side1 ?side2 ?side3 ?side4 A19.out).mono ?_); (case side1 => exact au12_7); (case side2 => exact au12_17); (case side3 => exact au12_8); (case side4 => exact au12_18); rintro e w142 ⟨rfl, hb⟩; (try clear A19); have n0_ := Aside0.mk (Kd.R_below (rk_ HO249) hb); have n1_ := Aside0.mk (Kd.R_below (rk_ HO255) hb); have n2_ := Aside0.mk (Kd.R_below (rk_ HO258) hb); have n3_ := Aside0.mk (Kd.R_below (rk_ HO264) hb); have n4_ := Aside0.mk (blkb_ BK244 hb); have n5_ := Aside0.mk (below_step bl_ hb); clear HO249; clear HO255; clear HO258; clear HO264; clear BK244; clear HB; have HO249 := n0_; have HO255 := n1_; have HO258 := n2_; have HO264 := n3_; have BK244 := n4_; have HB := n5_; clear n0_ n1_ n2_ n3_ n4_ n5_; (try clear hb); (try clear hb2); (try clear hk); (try clear hi)))
        go_ret
        exact ⟨au12_3, bl_⟩

/-- THE ONE PURE STATEMENT of laws_FnExactCrossPut: yours. -/
def laws_FnExactCrossPut.Pure : Prop := ∀ (l0 : List (S34)) (a1_0 : ByteArray) (a1_1 : ByteArray) (a1_2 : ByteArray), (fun xs_ : List (S34) => xs_.length ≤ maxLen ∧ ∀ x_ ∈ xs_, q34 x_) l0 → (fun s_ : ByteArray => s_.size ≤ maxLen) a1_0 → (fun s_ : ByteArray => s_.size ≤ maxLen) a1_1 → (fun s_ : ByteArray => s_.size ≤ maxLen) a1_2 → ∃ k, laws_FnExactCrossPut.f k l0 a1_0 a1_1 a1_2 = some true

end Go.Proofs.Ytjffakoifpldeaa.PFnExactCrossPut
